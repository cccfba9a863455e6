/-
  Steps in the first columns of a wide matrix: what stands behind them.
-/
import Derived.Test.YtoabbnfjnjbjfaaPlRank
set_option linter.unusedVariables false
set_option linter.unusedSimpArgs false
namespace Go.Rf.Lin
open Go.Rf.Lin.G

/-- So many columns, from one on. -/
def sel (o : Nat) : Mt := fun l j => if l = j + o then 1 else 0
theorem mm_sel {m w n o : Nat} (h : n + o ≤ w) (X : Mt) : Same m n (mm w X (sel o)) (fun i j => X i (j + o)) := by
  intro i hi j hj
  simp only [mm, sel]
  rw [sum_one (show j + o < w by omega) _ (fun l hl hne => by rw [if_neg hne, mul_zero]), if_pos rfl, mul_one]

theorem half {m w n o : Nat} {T T' : Mt → Mt} (hT : Acts m T T') (h : n + o ≤ w) {A W : Mt} (hA : Same m w A (T W)) :
    Same m n (fun i j => A i (j + o)) (T (fun i j => W i (j + o))) := by
  refine (mm_sel h A).symm.trans ?_
  refine (Same.mm hA (Same.refl _ _ _)).trans ?_
  rw [← hT.map]
  exact hT.cong _ _ _ (mm_sel h W)

/-- Where all rows have steps, nothing comes in further columns. -/
theorem Stepped.wide {m c d : Nat} {p : Nat → Nat} {A : Mt} (h : Stepped m c m p A) (hd : c ≤ d) : Stepped m d m p A :=
  ⟨h.le, fun j hj => Nat.lt_of_lt_of_le (h.lt j hj) hd, h.up, h.unit, fun i h1 h2 j hj => absurd h2 (by omega)⟩

/-- The inverse, out of the wide matrix. -/
theorem Stepped.invW {m w : Nat} {p : Nat → Nat} {A W : Mt} {T T' : Mt → Mt} (hT : Acts m T T') (h2 : m + m ≤ w) (hA : Same m w A (T W)) (hS : Stepped m m m p A)
    {B : Mt} (hl : Same m m (fun i j => W i (j + 0)) B) (hr : Same m m (fun i j => W i (j + m)) one) : IsInv m B (fun i j => A i (j + m)) := by
  have e1 : Same m m A (T B) := (half hT (o := 0) (by omega) hA).trans (hT.cong _ _ _ hl)
  have e2 : Same m m (fun i j => A i (j + m)) (T one) := (half hT (o := m) h2 hA).trans (hT.cong _ _ _ hr)
  exact hS.inv hT e1 e2

/-- The rank, out of the wide matrix. -/
theorem Stepped.rankW {m w c n : Nat} {p : Nat → Nat} {A W : Mt} {T T' : Mt → Mt} (hT : Acts m T T') (h2 : c ≤ w) (hA : Same m w A (T W)) (hS : Stepped m c n p A)
    {B : Mt} (hl : Same m c (fun i j => W i (j + 0)) B) : IsRank m c B n :=
  hS.rank hT ((half hT (o := 0) (by omega) hA).trans (hT.cong _ _ _ hl))

end Go.Rf.Lin
