/-
  Ranks, inverses, and what bringing a matrix into steps shows of them.
-/
import Derived.Test.YtoabbnfjnjbjfaaPlLin
set_option linter.unusedVariables false
set_option linter.unusedSimpArgs false
namespace Go.Rf.Lin
open Go.Rf.Lin.G

/-- A matrix goes through s dimensions. -/
def Fac (m n s : Nat) (A : Mt) : Prop := ∃ X Y, Same m n A (mm s X Y)
def IsRank (m n : Nat) (A : Mt) (r : Nat) : Prop := Fac m n r A ∧ ∀ s, Fac m n s A → r ≤ s

theorem Fac.congr {m n s : Nat} {A B : Mt} (h : Same m n A B) (hf : Fac m n s A) : Fac m n s B := by
  obtain ⟨X, Y, h1⟩ := hf
  exact ⟨X, Y, h.symm.trans h1⟩
theorem Fac.tr {m n s : Nat} {A : Mt} (h : Fac m n s A) : Fac n m s (tr A) := by
  obtain ⟨X, Y, h1⟩ := h
  refine ⟨Lin.tr Y, Lin.tr X, ?_⟩
  rw [← tr_mm]
  exact fun i hi j hj => h1 j hj i hi
theorem Fac.rows (m n : Nat) (A : Mt) : Fac m n m A := ⟨one, A, (one_mm A).symm⟩
theorem Fac.cols (m n : Nat) (A : Mt) : Fac m n n A := ⟨A, one, (mm_one A).symm⟩
theorem Fac.mul_left {m k n s : Nat} {A B : Mt} (h : Fac m k s A) : Fac m n s (mm k A B) := by
  obtain ⟨X, Y, h1⟩ := h
  refine ⟨X, mm k Y B, ?_⟩
  rw [← mm_assoc]
  exact Same.mm h1 (Same.refl _ _ _)
theorem Fac.mul_right {m k n s : Nat} {A B : Mt} (h : Fac k n s B) : Fac m n s (mm k A B) := by
  obtain ⟨X, Y, h1⟩ := h
  refine ⟨mm k A X, Y, ?_⟩
  rw [mm_assoc]
  exact Same.mm (Same.refl _ _ _) h1

theorem IsRank.unique {m n r r' : Nat} {A : Mt} (h : IsRank m n A r) (h' : IsRank m n A r') : r = r' := Nat.le_antisymm (h.2 _ h'.1) (h'.2 _ h.1)
theorem IsRank.congr {m n r : Nat} {A B : Mt} (h : Same m n A B) (hr : IsRank m n A r) : IsRank m n B r := ⟨hr.1.congr h, fun s hs => hr.2 s (hs.congr h.symm)⟩
theorem IsRank.tr {m n r : Nat} {A : Mt} (h : IsRank m n A r) : IsRank n m (tr A) r := ⟨h.1.tr, fun s hs => h.2 s hs.tr⟩
theorem IsRank.rows {m n r : Nat} {A : Mt} (h : IsRank m n A r) : r ≤ m := h.2 m (Fac.rows m n A)
theorem IsRank.cols {m n r : Nat} {A : Mt} (h : IsRank m n A r) : r ≤ n := h.2 n (Fac.cols m n A)
theorem IsRank.mul_left {m k n r q : Nat} {A B : Mt} (h : IsRank m n (mm k A B) q) (hA : IsRank m k A r) : q ≤ r := h.2 r hA.1.mul_left
theorem IsRank.mul_right {m k n r q : Nat} {A B : Mt} (h : IsRank m n (mm k A B) q) (hB : IsRank k n B r) : q ≤ r := h.2 r hB.1.mul_right

structure IsInv (n : Nat) (A I : Mt) : Prop where
  right : Same n n (mm n A I) one
  left : Same n n (mm n I A) one

theorem IsInv.symm {n : Nat} {A I : Mt} (h : IsInv n A I) : IsInv n I A := ⟨h.left, h.right⟩
theorem IsInv.congr {n : Nat} {A A' I I' : Mt} (h : IsInv n A I) (hA : Same n n A A') (hI : Same n n I I') : IsInv n A' I' :=
  ⟨(Same.mm hA.symm hI.symm).trans h.right, (Same.mm hI.symm hA.symm).trans h.left⟩
/-- What is an inverse on one side each is the same. -/
theorem inv_unique {n : Nat} {A I J : Mt} (hI : Same n n (mm n I A) one) (hJ : Same n n (mm n A J) one) : Same n n I J := by
  refine (mm_one (m := n) I).symm.trans ?_
  refine (Same.mm (Same.refl n n I) hJ.symm).trans ?_
  rw [← mm_assoc]
  exact (Same.mm hI (Same.refl n n J)).trans (one_mm J)
theorem IsInv.unique {n : Nat} {A I J : Mt} (hI : IsInv n A I) (hJ : IsInv n A J) : Same n n I J := inv_unique hI.left hJ.right
theorem IsInv.rank {n r : Nat} {A I : Mt} (h : IsInv n A I) (hr : IsRank n n A r) : r = n := by
  refine Nat.le_antisymm hr.rows ?_
  obtain ⟨X, Y, h1⟩ := hr.1
  refine dim (X := X) (Y := mm n Y I) ?_
  rw [← mm_assoc]
  exact (Same.mm h1.symm (Same.refl _ _ _)).trans h.right
theorem IsInv.mul {n : Nat} {A B I J : Mt} (hA : IsInv n A I) (hB : IsInv n B J) : IsInv n (mm n A B) (mm n J I) := by
  constructor
  · rw [mm_assoc, ← mm_assoc n n B J I]
    exact (Same.mm (Same.refl n n A) ((Same.mm hB.right (Same.refl n n I)).trans (one_mm I))).trans hA.right
  · rw [mm_assoc, ← mm_assoc n n I A B]
    exact (Same.mm (Same.refl n n J) ((Same.mm hA.left (Same.refl n n B)).trans (one_mm B))).trans hB.left

/-- Acts on the m rows of a matrix, and how to undo them. -/
structure Acts (m : Nat) (T T' : Mt → Mt) : Prop where
  map : ∀ k A B, T (mm k A B) = mm k (T A) B
  map' : ∀ k A B, T' (mm k A B) = mm k (T' A) B
  cong : ∀ n A B, Same m n A B → Same m n (T A) (T B)
  cong' : ∀ n A B, Same m n A B → Same m n (T' A) (T' B)
  undo : ∀ n A, Same m n (T' (T A)) A
  redo : ∀ n A, Same m n (T (T' A)) A

theorem Acts.id (m : Nat) : Acts m (fun A => A) (fun A => A) := ⟨fun _ _ _ => rfl, fun _ _ _ => rfl, fun _ _ _ h => h, fun _ _ _ h => h, fun _ _ => Same.refl _ _ _, fun _ _ => Same.refl _ _ _⟩
theorem Acts.comp {m : Nat} {T T' S S' : Mt → Mt} (h : Acts m T T') (g : Acts m S S') : Acts m (fun A => S (T A)) (fun A => T' (S' A)) :=
  ⟨fun k A B => by rw [h.map, g.map], fun k A B => by rw [g.map', h.map'], fun n A B e => g.cong n _ _ (h.cong n A B e), fun n A B e => h.cong' n _ _ (g.cong' n A B e),
   fun n A => (h.cong' n _ _ (g.undo n _)).trans (h.undo n A), fun n A => (g.cong n _ _ (h.redo n _)).trans (g.redo n A)⟩

/-- Row p, times i, comes to q; row q to p. -/
def swapT (p q : Nat) (i : G) : Mt → Mt := fun A r j => if r = q then i * A p j else if r = p then A q j else A r j
def swapT' (p q : Nat) (i : G) : Mt → Mt := fun A r j => if r = p then i * A q j else if r = q then A p j else A r j
/-- Row q, so many times, is added to each other one. -/
def addT (q : Nat) (f : Nat → G) : Mt → Mt := fun A r j => if r = q then A r j else A r j + f r * A q j

theorem Acts.swap {m p q : Nat} (hp : p < m) (hq : q < m) {i a : G} (h : a * i = 1) : Acts m (swapT p q i) (swapT' p q a) := by
  have h' : i * a = 1 := by rw [mul_comm]; exact h
  constructor
  · intro k A B
    funext r j
    simp only [swapT, mm]
    split
    · rw [mul_sum]; exact sum_congr (fun l _ => (mul_assoc ..).symm)
    · split <;> rfl
  · intro k A B
    funext r j
    simp only [swapT', mm]
    split
    · rw [mul_sum]; exact sum_congr (fun l _ => (mul_assoc ..).symm)
    · split <;> rfl
  · intro n A B e r hr j hj
    simp only [swapT]
    rw [e p hp j hj, e q hq j hj, e r hr j hj]
  · intro n A B e r hr j hj
    simp only [swapT']
    rw [e p hp j hj, e q hq j hj, e r hr j hj]
  · intro n A r hr j hj
    simp only [swapT, swapT', if_true]
    by_cases h1 : r = p
    · subst h1; rw [if_pos rfl, ← mul_assoc, h, one_mul]
    · rw [if_neg h1]
      by_cases h2 : r = q
      · subst h2; rw [if_pos rfl, if_neg (Ne.symm h1)]
      · rw [if_neg h2, if_neg h2, if_neg h1]
  · intro n A r hr j hj
    simp only [swapT, swapT', if_true]
    by_cases h2 : r = q
    · subst h2; rw [if_pos rfl, ← mul_assoc, h', one_mul]
    · rw [if_neg h2]
      by_cases h1 : r = p
      · subst h1; rw [if_pos rfl, if_neg (Ne.symm h2)]
      · rw [if_neg h1, if_neg h1, if_neg h2]

theorem Acts.add {m q : Nat} (hq : q < m) (f : Nat → G) : Acts m (addT q f) (addT q f) := by
  have hm : ∀ k A B, addT q f (mm k A B) = mm k (addT q f A) B := by
    intro k A B
    funext r j
    simp only [addT, mm]
    split
    · rfl
    · rw [mul_sum, ← sum_add]; exact sum_congr (fun l _ => by rw [add_mul, mul_assoc])
  have hc : ∀ n A B, Same m n A B → Same m n (addT q f A) (addT q f B) := by
    intro n A B e r hr j hj
    simp only [addT]
    rw [e q hq j hj, e r hr j hj]
  have hu : ∀ n A, Same m n (addT q f (addT q f A)) A := by
    intro n A r hr j hj
    simp only [addT]
    by_cases h1 : r = q
    · rw [if_pos h1, if_pos h1]
    · rw [if_neg h1, if_neg h1, if_pos trivial, add_assoc, add_self, add_zero]
  exact ⟨hm, hm, hc, hc, hu, hu⟩

/-- A matrix of m rows in steps, up to column c: n steps, at the columns p 0, p 1, .. -/
structure Stepped (m c n : Nat) (p : Nat → Nat) (A : Mt) : Prop where
  le : n ≤ m
  lt : ∀ j, j < n → p j < c
  up : ∀ i j, i < j → j < n → p i < p j
  unit : ∀ i, i < m → ∀ j, j < n → A i (p j) = if i = j then 1 else 0
  low : ∀ i, n ≤ i → i < m → ∀ j, j < c → A i j = 0

theorem Stepped.zero (m : Nat) (A : Mt) : Stepped m 0 0 (fun _ => 0) A :=
  ⟨Nat.zero_le _, fun _ h => absurd h (by omega), fun _ _ _ h => absurd h (by omega), fun _ _ _ h => absurd h (by omega), fun _ _ _ _ h => absurd h (by omega)⟩

theorem Stepped.congr {m c n : Nat} {p : Nat → Nat} {A B : Mt} (h : Stepped m c n p A) (e : Same m c A B) : Stepped m c n p B :=
  ⟨h.le, h.lt, h.up, fun i hi j hj => by rw [← e i hi _ (h.lt j hj)]; exact h.unit i hi j hj, fun i h1 h2 j hj => by rw [← e i h2 j hj]; exact h.low i h1 h2 j hj⟩

/-- A column without a step. -/
theorem Stepped.skip {m c n : Nat} {p : Nat → Nat} {A : Mt} (h : Stepped m c n p A) (hz : ∀ i, n ≤ i → i < m → A i c = 0) : Stepped m (c + 1) n p A :=
  ⟨h.le, fun j hj => Nat.lt_succ_of_lt (h.lt j hj), h.up, h.unit, fun i h1 h2 j hj => by
    rcases Nat.lt_or_ge j c with h3 | h3
    · exact h.low i h1 h2 j h3
    · have : j = c := by omega
      subst this; exact hz i h1 h2⟩

/-- A column with one: row q has something there. -/
theorem Stepped.step {m c n q : Nat} {p : Nat → Nat} {A : Mt} (h : Stepped m c n p A) (hn : n ≤ q) (hq : q < m) {a : G} (hi : a * A q c = 1) :
    Stepped m (c + 1) (n + 1) (fun j => if j = n then c else p j) (addT n (fun r => swapT q n a A r c) (swapT q n a A)) := by
  have hs : ∀ r j, r ≠ n → r ≠ q → swapT q n a A r j = A r j := fun r j h1 h2 => by simp only [swapT]; rw [if_neg h1, if_neg h2]
  have hsn : ∀ j, swapT q n a A n j = a * A q j := fun j => by simp only [swapT]; rw [if_pos trivial]
  have hsq : ∀ j, q ≠ n → swapT q n a A q j = A n j := fun j h1 => by simp only [swapT]; rw [if_neg h1, if_pos trivial]
  constructor
  · omega
  · intro j hj
    show (if j = n then c else p j) < c + 1
    split
    · omega
    · exact Nat.lt_succ_of_lt (h.lt j (by omega))
  · intro i j hij hj
    show (if i = n then c else p i) < (if j = n then c else p j)
    rw [if_neg (show i ≠ n by omega)]
    split
    · exact h.lt i (by omega)
    · exact h.up i j hij (by omega)
  · intro i him j hj
    show addT n _ _ i (if j = n then c else p j) = _
    by_cases h1 : j = n
    · subst h1
      rw [if_pos rfl]
      simp only [addT]
      by_cases h2 : i = j
      · subst h2; rw [if_pos rfl, if_pos rfl, hsn, hi]
      · rw [if_neg h2, if_neg h2, hsn, hi, mul_one, add_self]
    · rw [if_neg h1]
      have hjn : j < n := by omega
      have hqz : A q (p j) = 0 := h.low q hn hq _ (h.lt j hjn)
      have hnz : A n (p j) = 0 := h.low n (Nat.le_refl _) (by omega) _ (h.lt j hjn)
      simp only [addT]
      by_cases h2 : i = n
      · subst h2; rw [if_pos rfl, hsn, hqz, mul_zero, if_neg (by omega)]
      · rw [if_neg h2, hsn, hqz, mul_zero, mul_zero, add_zero]
        by_cases h3 : i = q
        · subst h3; rw [hsq _ h2, hnz, if_neg (by omega)]
        · rw [hs i _ h2 h3]; exact h.unit i him j hjn
  · intro i h1 h2 j hj
    simp only [addT]
    rw [if_neg (show i ≠ n by omega), hsn]
    rcases Nat.lt_or_ge j c with h3 | h3
    · rw [h.low q hn hq j h3, mul_zero, mul_zero, add_zero]
      by_cases h4 : i = q
      · subst h4; rw [hsq _ (by omega)]; exact h.low n (Nat.le_refl _) (by omega) j h3
      · rw [hs i _ (by omega) h4]; exact h.low i (by omega) h2 j h3
    · have : j = c := by omega
      subst this
      rw [hi, mul_one, add_self]

/-- What is in steps shows its rank. -/
theorem Stepped.rank {m c n : Nat} {p : Nat → Nat} {A S : Mt} {T T' : Mt → Mt} (hT : Acts m T T') (hS : Same m c S (T A)) (h : Stepped m c n p S) : IsRank m c A n := by
  constructor
  · refine ⟨T' one, S, ?_⟩
    rw [← hT.map']
    refine (hT.undo c A).symm.trans ?_
    refine hT.cong' c _ _ (hS.symm.trans ?_)
    intro i hi j hj
    simp only [mm, one]
    rcases Nat.lt_or_ge i n with h1 | h1
    · rw [sum_one h1 _ (fun l hl hne => by rw [if_neg (Ne.symm hne), zero_mul]), if_pos rfl, one_mul]
    · rw [h.low i h1 hi j hj]
      exact (sum_zero (fun l hl => by rw [if_neg (by omega), zero_mul])).symm
  · intro s hs
    obtain ⟨X, Y, h1⟩ := hs
    refine dim (X := T X) (Y := fun l j => Y l (p j)) ?_
    intro i hi j hj
    have h2 : Same m c S (mm s (T X) Y) := by rw [← hT.map]; exact hS.trans (hT.cong c _ _ h1)
    have h3 := h2 i (Nat.lt_of_lt_of_le hi h.le) (p j) (h.lt j hj)
    have h4 := h.unit i (Nat.lt_of_lt_of_le hi h.le) j hj
    show mm s (T X) Y i (p j) = one i j
    rw [← h3, h4]; rfl

theorem Stepped.full {m : Nat} {p : Nat → Nat} {S : Mt} (h : Stepped m m m p S) : Same m m S one := by
  have h1 : ∀ j, j < m → j ≤ p j := by
    intro j
    induction j with
    | zero => exact fun _ => Nat.zero_le _
    | succ j ih => exact fun hj => Nat.lt_of_le_of_lt (ih (by omega)) (h.up j (j + 1) (by omega) hj)
  have h2 : ∀ d j, j + d + 1 = m → p j ≤ j := by
    intro d
    induction d with
    | zero => intro j hj; have := h.lt j (by omega); omega
    | succ d ih => intro j hj; have := ih (j + 1) (by omega); have := h.up j (j + 1) (by omega) (by omega); omega
  intro i hi j hj
  have h3 : p j = j := Nat.le_antisymm (h2 (m - 1 - j) j (by omega)) (h1 j hj)
  have := h.unit i hi j hj
  rw [h3] at this
  exact this

/-- Where all rows have steps, what was done to the neutral matrix is the inverse. -/
theorem Stepped.inv {m : Nat} {p : Nat → Nat} {A S B : Mt} {T T' : Mt → Mt} (hT : Acts m T T') (hS : Same m m S (T A)) (hB : Same m m B (T one)) (h : Stepped m m m p S) : IsInv m A B := by
  have h1 : Same m m (T A) one := hS.symm.trans h.full
  have h2 : Same m m A (T' one) := (hT.undo m A).symm.trans (hT.cong' m _ _ h1)
  constructor
  · refine (Same.mm h2 hB).trans ?_
    rw [← hT.map']
    exact (hT.cong' m _ _ (one_mm _)).trans (hT.undo m one)
  · refine (Same.mm hB (Same.refl m m A)).trans ?_
    rw [← hT.map]
    exact (hT.cong m _ _ (one_mm A)).trans h1

end Go.Rf.Lin
