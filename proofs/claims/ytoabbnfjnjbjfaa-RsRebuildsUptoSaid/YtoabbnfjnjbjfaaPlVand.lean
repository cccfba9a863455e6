/-
  A polynomial below degree n with n zeros is 0; unlike rows of powers are independent.
-/
import Derived.Test.YtoabbnfjnjbjfaaPlRank
set_option linter.unusedVariables false
set_option linter.unusedSimpArgs false
namespace Go.Rf.Lin
open Go.Rf.Lin.G

def pw (x : G) : Nat → G
  | 0 => 1
  | n + 1 => pw x n * x

/-- A polynomial's value. -/
def ev (n : Nat) (w : Nat → G) (x : G) : G := sum n (fun j => w j * pw x j)

theorem ev_succ (n : Nat) (w : Nat → G) (x : G) : ev (n + 1) w x = w 0 + x * ev n (fun j => w (j + 1)) x := by
  unfold ev
  rw [sum_split n 0 (Nat.zero_le _)]
  congr 1
  · exact mul_one _
  · rw [mul_sum]
    refine sum_congr (fun i _ => ?_)
    rw [if_neg (by omega)]
    show w (i + 1) * (pw x i * x) = x * (w (i + 1) * pw x i)
    ac_rfl

theorem divide : ∀ (n : Nat) (w : Nat → G) (a : G), ∃ q : Nat → G, (∀ x, ev (n + 1) w x + ev (n + 1) w a = (x + a) * ev n q x) ∧
    ((∀ j, j < n → q j = 0) → ev (n + 1) w a = 0 → ∀ j, j < n + 1 → w j = 0) := by
  intro n
  induction n with
  | zero =>
    intro w a
    refine ⟨w, fun x => ?_, fun _ h j hj => ?_⟩
    · rw [ev_succ, ev_succ]
      show w 0 + x * 0 + (w 0 + a * 0) = (x + a) * 0
      rw [mul_zero, mul_zero, mul_zero, add_zero, add_self]
    · rw [ev_succ] at h
      have h' : w 0 + a * 0 = 0 := h
      rw [mul_zero, add_zero] at h'
      rw [show j = 0 by omega]; exact h'
  | succ n ih =>
    intro w a
    obtain ⟨q', h1, h2⟩ := ih (fun j => w (j + 1)) a
    let c : G := ev (n + 1) (fun j => w (j + 1)) a
    refine ⟨fun j => match j with | 0 => c | j + 1 => q' j, fun x => ?_, fun hz h j hj => ?_⟩
    · have e0 : ev (n + 1) (fun j => match j with | 0 => c | j + 1 => q' j) x = c + x * ev n q' x := ev_succ n _ x
      rw [ev_succ (n + 1) w x, ev_succ (n + 1) w a, e0]
      show w 0 + x * ev (n + 1) (fun j => w (j + 1)) x + (w 0 + a * c) = (x + a) * (c + x * ev n q' x)
      have h3 : ev (n + 1) (fun j => w (j + 1)) x = (x + a) * ev n q' x + c := by
        rw [← h1 x, add_assoc, add_self, add_zero]
      rw [h3]
      have e1 : w 0 + x * ((x + a) * ev n q' x + c) + (w 0 + a * c) = (w 0 + w 0) + (x * ((x + a) * ev n q' x) + (x * c + a * c)) := by
        rw [mul_add]; ac_rfl
      rw [e1, add_self, zero_add, ← add_mul, mul_add]
      have e2 : x * ((x + a) * ev n q' x) = (x + a) * (x * ev n q' x) := by ac_rfl
      rw [e2]; ac_rfl
    · have hc : c = 0 := hz 0 (by omega)
      have hw := h2 (fun j hj => hz (j + 1) (by omega)) hc
      match j with
      | 0 =>
        rw [ev_succ] at h
        have h' : w 0 + a * c = 0 := h
        rw [hc, mul_zero, add_zero] at h'
        exact h'
      | j + 1 => exact hw j (by omega)

theorem roots : ∀ (n : Nat) (w pts : Nat → G), (∀ i j, i < j → j < n → pts i ≠ pts j) → (∀ i, i < n → ev n w (pts i) = 0) → ∀ j, j < n → w j = 0 := by
  intro n
  induction n with
  | zero => exact fun _ _ _ _ j hj => absurd hj (by omega)
  | succ n ih =>
    intro w pts hd hz
    obtain ⟨q, h1, h2⟩ := divide n w (pts n)
    refine h2 (ih q pts (fun i j hij hj => hd i j hij (by omega)) (fun i hi => ?_)) (hz n (by omega))
    have h3 := h1 (pts i)
    rw [hz i (by omega), hz n (by omega), add_zero] at h3
    rcases mul_eq_zero h3.symm with h4 | h4
    · exact absurd (eq_of_add h4) (hd i n hi (by omega))
    · exact h4

/-- A square matrix that sends nothing but 0 to 0 has full rank. -/
theorem full_of_kernel {n r : Nat} {A : Mt} (hr : IsRank n n A r) (h : ∀ w : Nat → G, (∀ i, i < n → sum n (fun j => A i j * w j) = 0) → ∀ j, j < n → w j = 0) : r = n := by
  refine Nat.le_antisymm hr.rows (Nat.le_of_not_lt (fun hc => ?_))
  obtain ⟨X, Y, h1⟩ := hr.1
  obtain ⟨v, ⟨i, hi, hv⟩, hk⟩ := kernel r n hc (tr Y)
  refine hv (h v (fun a ha => ?_) i hi)
  rw [show sum n (fun j => A a j * v j) = sum n (fun j => sum r (fun l => X a l * Y l j * v j)) from sum_congr (fun j hj => by rw [h1 a ha j hj]; simp only [mm]; rw [sum_mul])]
  rw [sum_comm]
  refine sum_zero (fun l hl => ?_)
  have h2 := hk l hl
  rw [show sum n (fun j => X a l * Y l j * v j) = X a l * sum n (fun j => v j * tr Y j l) from by
    rw [mul_sum]; exact sum_congr (fun j _ => by simp only [tr]; ac_rfl)]
  rw [h2, mul_zero]

theorem vand_full {n r : Nat} {A : Mt} {pts : Nat → G} (hd : ∀ i j, i < j → j < n → pts i ≠ pts j) (hA : ∀ i, i < n → ∀ j, j < n → A i j = pw (pts i) j) (hr : IsRank n n A r) : r = n := by
  refine full_of_kernel hr (fun w hw => roots n w pts hd (fun i hi => ?_))
  rw [← hw i hi]
  exact sum_congr (fun j hj => by rw [hA i hi j hj, mul_comm])

end Go.Rf.Lin
