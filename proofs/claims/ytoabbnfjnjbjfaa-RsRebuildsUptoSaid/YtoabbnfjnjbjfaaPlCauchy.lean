/-
  Rows of a neutral matrix and of Cauchy's: any k of them have an inverse.
-/
import Derived.Test.YtoabbnfjnjbjfaaPlRsVec
set_option linter.unusedVariables false
set_option linter.unusedSimpArgs false
namespace Go.Rf.Lin
open Go.Rf.Lin.G

def pr : Nat → (Nat → G) → G
  | 0, _ => 1
  | n + 1, f => pr n f * f n

theorem pr_congr {f g : Nat → G} : ∀ {n : Nat}, (∀ i, i < n → f i = g i) → pr n f = pr n g
  | 0, _ => rfl
  | n + 1, h => by simp only [pr]; rw [pr_congr (n := n) (fun i hi => h i (by omega)), h n (by omega)]
theorem pr_zero {f : Nat → G} {l : Nat} (hf : f l = 0) : ∀ {n : Nat}, l < n → pr n f = 0
  | 0, h => absurd h (by omega)
  | n + 1, h => by
    simp only [pr]
    by_cases e : l = n
    · subst e; rw [hf, mul_zero]
    · rw [pr_zero hf (n := n) (by omega), zero_mul]
theorem pr_ne {f : Nat → G} : ∀ {n : Nat}, (∀ i, i < n → f i ≠ 0) → pr n f ≠ 0
  | 0, _ => one_ne
  | n + 1, h => by
    intro e
    simp only [pr] at e
    rcases mul_eq_zero e with e | e
    · exact pr_ne (n := n) (fun i hi => h i (by omega)) e
    · exact h n (by omega) e
theorem pr_skip {f : Nat → G} {j : Nat} : ∀ {n : Nat}, j < n → pr n (fun l => if l = j then 1 else f l) * f j = pr n f
  | 0, h => absurd h (by omega)
  | n + 1, h => by
    simp only [pr]
    by_cases e : j = n
    · subst e
      rw [if_pos rfl, mul_one]
      rw [pr_congr (g := f) (fun i hi => by rw [if_neg (by omega)])]
    · rw [if_neg (Ne.symm e), ← pr_skip (n := n) (f := f) (j := j) (by omega)]
      ac_rfl

theorem poly_pr (y : Nat → G) (j0 : Nat) : ∀ n : Nat, ∃ (Q : Nat → G) (m : Nat), (m = if j0 < n then n - 1 else n) ∧ (∀ i, m < i → Q i = 0) ∧ ∀ x, ev (m + 1) Q x = pr n (fun l => if l = j0 then 1 else x + y l) := by
  intro n
  induction n with
  | zero =>
    refine ⟨fun j => if j = 0 then 1 else 0, 0, by simp, fun i hi => by simp; omega, fun x => ?_⟩
    rw [ev_succ]
    show 1 + x * 0 = 1
    rw [mul_zero, add_zero]
  | succ n ih =>
    obtain ⟨Q, m, h1, h2, h3⟩ := ih
    by_cases e : n = j0
    · subst e
      rw [if_neg (by omega)] at h1
      refine ⟨Q, m, by rw [if_pos (by omega)]; omega, h2, fun x => ?_⟩
      rw [h3 x]
      simp only [pr]
      rw [if_pos trivial, mul_one]
    · refine ⟨mx (y n) Q, m + 1, ?_, fun i hi => ?_, fun x => ?_⟩
      · by_cases hj : j0 < n
        · rw [if_pos hj] at h1; rw [if_pos (by omega)]; omega
        · rw [if_neg hj] at h1; rw [if_neg (by omega)]; omega
      · simp only [mx]
        rw [if_neg (by omega), h2 (i - 1) (by omega), h2 i (by omega), zero_mul, add_zero]
      · rw [ev_mx (fun j hj => h2 j (by omega)), h3 x]
        simp only [pr]
        rw [if_neg e, mul_comm]

theorem cauchy {k : Nat} {y pts w : Nat → G} (hy : Dist k y) (hp : Dist k pts)
    (h : ∀ i, i < k → (∃ j, j < k ∧ pts i = y j ∧ w j = 0) ∨ ((∀ l, l < k → pts i + y l ≠ 0) ∧ sum k (fun l => G.inv (pts i + y l) * w l) = 0)) : ∀ j, j < k → w j = 0 := by
  intro j hj
  have hQ : ∀ l, ∃ Q : Nat → G, l < k → ∀ x, ev k Q x = pr k (fun i => if i = l then 1 else x + y i) := by
    intro l
    obtain ⟨Q, m, h1, h2, h3⟩ := poly_pr y l k
    refine ⟨Q, fun hl x => ?_⟩
    rw [if_pos hl] at h1
    rw [← h3 x, h1, show k - 1 + 1 = k by omega]
  let Q : Nat → Nat → G := fun l => Classical.choose (hQ l)
  have hQ' : ∀ l, l < k → ∀ x, ev k (Q l) x = pr k (fun i => if i = l then 1 else x + y i) := fun l hl x => Classical.choose_spec (hQ l) hl x
  let P : Nat → G := fun c => sum k (fun l => w l * Q l c)
  have hP : ∀ x, ev k P x = sum k (fun l => w l * pr k (fun i => if i = l then 1 else x + y i)) := by
    intro x
    show sum k (fun c => sum k (fun l => w l * Q l c) * pw x c) = _
    rw [sum_congr (g := fun c => sum k (fun l => w l * Q l c * pw x c)) (fun c _ => sum_mul _ _ _), sum_comm]
    refine sum_congr (fun l hl => ?_)
    rw [← hQ' l hl x]
    unfold ev
    rw [mul_sum]
    exact sum_congr (fun c _ => mul_assoc _ _ _)
  have hz : ∀ c, c < k → P c = 0 := by
    refine roots k P pts hp (fun i hi => ?_)
    rw [hP]
    rcases h i hi with ⟨a, ha, e, hwa⟩ | ⟨hne, hs⟩
    · refine sum_zero (fun l hl => ?_)
      by_cases hla : l = a
      · subst hla; rw [hwa, zero_mul]
      · rw [pr_zero (l := a) (by rw [if_neg (Ne.symm hla), e, add_self]) ha, mul_zero]
    · have e1 : sum k (fun l => w l * pr k (fun q => if q = l then 1 else pts i + y q)) = sum k (fun l => pr k (fun q => pts i + y q) * (G.inv (pts i + y l) * w l)) := by
        refine sum_congr (fun l hl => ?_)
        have e2 := pr_skip (f := fun q => pts i + y q) hl
        rw [← e2]
        have e3 : (pts i + y l) * G.inv (pts i + y l) = 1 := mul_inv (hne l hl)
        rw [mul_assoc, ← mul_assoc (pts i + y l), e3, one_mul, mul_comm]
      rw [e1, ← mul_sum, hs, mul_zero]
  have h0 : ev k P (y j) = 0 := sum_zero (fun c hc => by rw [hz c hc, zero_mul])
  rw [hP, sum_one hj _ (fun l hl hne => by rw [pr_zero (l := j) (by rw [if_neg (Ne.symm hne), add_self]) hj, mul_zero])] at h0
  rcases mul_eq_zero h0 with e | e
  · exact e
  · refine absurd e (pr_ne (fun l hl => ?_))
    by_cases hlj : l = j
    · rw [if_pos hlj]; exact one_ne
    · rw [if_neg hlj]; exact fun e => hy.ne hj hl (Ne.symm hlj) (eq_of_add e)

/-- A row of the code. -/
def gen (k i : Nat) : Nat → G := fun j => if i < k then (if i = j then 1 else 0) else G.inv (G.of i + G.of j)

theorem of_ne {a b : Nat} (ha : a < 256) (hb : b < 256) (h : a ≠ b) : G.of a ≠ G.of b := fun e => h (by have := congrArg G.n e; rwa [G.of_n ha, G.of_n hb] at this)

theorem gen_full {k r : Nat} {W : Nat → Nat} {A : Mt} (hk : k ≤ 100) (hW : ∀ i, i < k → W i < 200) (hd : ∀ i j, i < j → j < k → W i ≠ W j) (hA : ∀ i, i < k → ∀ j, j < k → A i j = gen k (W i) j) (hr : IsRank k k A r) : r = k := by
  refine full_of_kernel hr (fun w hw => ?_)
  refine cauchy (y := fun j => G.of j) (pts := fun i => G.of (W i)) (fun i j hij hj => of_ne (by omega) (by omega) (by omega)) (fun i j hij hj => of_ne (by have := hW i (by omega); omega) (by have := hW j hj; omega) (hd i j hij hj)) (fun i hi => ?_)
  have h1 := hw i hi
  rw [sum_congr (g := fun j => gen k (W i) j * w j) (fun j hj => by rw [hA i hi j hj])] at h1
  have hWi := hW i hi
  by_cases hlt : W i < k
  · refine .inl ⟨W i, hlt, rfl, ?_⟩
    rw [sum_one hlt _ (fun l hl hne => by simp only [gen]; rw [if_pos hlt, if_neg (Ne.symm hne), zero_mul])] at h1
    simp only [gen] at h1
    rw [if_pos hlt, if_pos trivial, one_mul] at h1
    exact h1
  · refine .inr ⟨fun l hl e => of_ne (by omega) (by omega) (show W i ≠ l by omega) (eq_of_add e), ?_⟩
    rw [← h1]
    exact sum_congr (fun j hj => by simp only [gen]; rw [if_neg hlt])

end Go.Rf.Lin
