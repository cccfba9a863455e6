/-
  Sums and matrices over the field of 256; how many dimensions there are.
-/
import Derived.Test.YtoabbnfjnjbjfaaPlGf
set_option linter.unusedVariables false
set_option linter.unusedSimpArgs false
namespace Go.Rf.Lin
open Go.Rf.Gf (mul mul_lt pow pow_lt mul_xor_left mul_xor_right mul_zero_left mul_zero_right)

/-- An element of the field. -/
structure G where
  n : Nat
  lt : n < 256

namespace G
theorem ext' {a b : G} (h : a.n = b.n) : a = b := by cases a; cases b; cases h; rfl
def of (n : Nat) : G := if h : n < 256 then ⟨n, h⟩ else ⟨0, by omega⟩
theorem of_n {n : Nat} (h : n < 256) : (of n).n = n := by unfold of; rw [dif_pos h]
theorem of_self (a : G) : of a.n = a := ext' (of_n a.lt)
def ad (a b : G) : G := ⟨a.n ^^^ b.n, Nat.xor_lt_two_pow (n := 8) a.lt b.lt⟩
def ml (a b : G) : G := ⟨mul a.n b.n, mul_lt b.n a.lt⟩
instance : Add G := ⟨ad⟩
instance : Mul G := ⟨ml⟩
instance : OfNat G 0 := ⟨⟨0, by omega⟩⟩
instance : OfNat G 1 := ⟨⟨1, by omega⟩⟩
instance : DecidableEq G := fun a b => if h : a.n = b.n then isTrue (ext' h) else isFalse (fun e => h (by rw [e]))
def inv (a : G) : G := ⟨pow a.n 254, pow_lt 254⟩
theorem add_n (a b : G) : (a + b).n = a.n ^^^ b.n := rfl
theorem mul_n (a b : G) : (a * b).n = mul a.n b.n := rfl
theorem zero_n : (0 : G).n = 0 := rfl
theorem one_n : (1 : G).n = 1 := rfl
theorem add_comm (a b : G) : a + b = b + a := ext' (Nat.xor_comm ..)
theorem add_assoc (a b c : G) : a + b + c = a + (b + c) := ext' (Nat.xor_assoc ..)
theorem add_zero (a : G) : a + 0 = a := ext' (Nat.xor_zero _)
theorem zero_add (a : G) : 0 + a = a := ext' (Nat.zero_xor _)
theorem add_self (a : G) : a + a = 0 := ext' (Nat.xor_self _)
theorem mul_comm (a b : G) : a * b = b * a := ext' (Gf.mul_comm a.lt b.lt)
theorem mul_assoc (a b c : G) : a * b * c = a * (b * c) := ext' (Gf.mul_assoc a.lt b.lt c.lt)
theorem mul_one (a : G) : a * 1 = a := ext' (Gf.mul_one a.lt)
theorem one_mul (a : G) : 1 * a = a := ext' (Gf.one_mul a.lt)
theorem mul_zero (a : G) : a * 0 = 0 := ext' (mul_zero_right _)
theorem zero_mul (a : G) : 0 * a = 0 := ext' (mul_zero_left _)
theorem add_mul (a b c : G) : (a + b) * c = a * c + b * c := ext' (mul_xor_left c.n a.lt b.lt)
theorem mul_add (a b c : G) : a * (b + c) = a * b + a * c := ext' (mul_xor_right a.n b.n c.n)
theorem mul_inv {a : G} (h : a ≠ 0) : a * inv a = 1 := ext' (Gf.mul_inv a.lt (fun e => h (ext' e)))
theorem one_ne : (1 : G) ≠ 0 := fun e => by have := congrArg G.n e; cases this
theorem mul_eq_zero {a b : G} (h : a * b = 0) : a = 0 ∨ b = 0 := by
  have h1 : mul a.n b.n = 0 := congrArg G.n h
  rcases (Gf.mul_eq_zero a.lt b.lt).1 h1 with h2 | h2
  · exact .inl (ext' h2)
  · exact .inr (ext' h2)
theorem eq_of_add {a b : G} (h : a + b = 0) : a = b := by
  have : a + b + b = b := by rw [h, zero_add]
  rwa [add_assoc, add_self, add_zero] at this
instance : Std.Commutative (α := G) (· + ·) := ⟨add_comm⟩
instance : Std.Associative (α := G) (· + ·) := ⟨add_assoc⟩
instance : Std.Commutative (α := G) (· * ·) := ⟨mul_comm⟩
instance : Std.Associative (α := G) (· * ·) := ⟨mul_assoc⟩
end G
open G

def sum : Nat → (Nat → G) → G
  | 0, _ => 0
  | n + 1, f => sum n f + f n

theorem sum_congr {f g : Nat → G} : ∀ {n : Nat}, (∀ i, i < n → f i = g i) → sum n f = sum n g
  | 0, _ => rfl
  | n + 1, h => by simp only [sum]; rw [sum_congr (n := n) (fun i hi => h i (by omega)), h n (by omega)]

theorem sum_zero {f : Nat → G} : ∀ {n : Nat}, (∀ i, i < n → f i = 0) → sum n f = 0
  | 0, _ => rfl
  | n + 1, h => by simp only [sum]; rw [sum_zero (n := n) (fun i hi => h i (by omega)), h n (by omega), add_zero]

theorem sum_add (n : Nat) (f g : Nat → G) : sum n (fun i => f i + g i) = sum n f + sum n g := by
  induction n with
  | zero => exact (add_zero _).symm
  | succ n ih => simp only [sum]; rw [ih]; ac_rfl

theorem mul_sum (n : Nat) (c : G) (f : Nat → G) : c * sum n f = sum n (fun i => c * f i) := by
  induction n with
  | zero => exact mul_zero _
  | succ n ih => simp only [sum]; rw [mul_add, ih]

theorem sum_mul (n : Nat) (c : G) (f : Nat → G) : sum n f * c = sum n (fun i => f i * c) := by
  rw [mul_comm, mul_sum]; exact sum_congr (fun i _ => mul_comm ..)

theorem sum_comm (m n : Nat) (f : Nat → Nat → G) : sum m (fun i => sum n (fun j => f i j)) = sum n (fun j => sum m (fun i => f i j)) := by
  induction m with
  | zero => exact (sum_zero (fun _ _ => rfl)).symm
  | succ m ih => simp only [sum]; rw [ih, ← sum_add]

theorem sum_one {n j : Nat} (hj : j < n) (f : Nat → G) (h : ∀ i, i < n → i ≠ j → f i = 0) : sum n f = f j := by
  induction n with
  | zero => omega
  | succ n ih =>
    simp only [sum]
    rcases Nat.lt_or_ge j n with h1 | h1
    · rw [ih h1 (fun i hi hne => h i (by omega) hne), h n (by omega) (by omega), add_zero]
    · have : j = n := by omega
      subst this
      rw [sum_zero (fun i hi => h i (by omega) (by omega)), zero_add]

/-- A sum without one of its places. -/
theorem sum_split (n i0 : Nat) (h : i0 ≤ n) (f : Nat → G) : sum (n + 1) f = f i0 + sum n (fun i => f (if i < i0 then i else i + 1)) := by
  induction n with
  | zero =>
    have : i0 = 0 := by omega
    subst this
    simp only [sum]; rw [zero_add, add_zero]
  | succ n ih =>
    rcases Nat.lt_or_ge i0 (n + 1) with h1 | h1
    · rw [show sum (n + 1 + 1) f = sum (n + 1) f + f (n + 1) from rfl, ih (by omega)]
      rw [show sum (n + 1) (fun i => f (if i < i0 then i else i + 1)) = sum n (fun i => f (if i < i0 then i else i + 1)) + f (if n < i0 then n else n + 1) from rfl]
      rw [if_neg (by omega)]; ac_rfl
    · have : i0 = n + 1 := by omega
      subst this
      rw [show sum (n + 1 + 1) f = sum (n + 1) f + f (n + 1) from rfl, add_comm]
      congr 1
      exact sum_congr (fun i hi => by rw [if_pos (by omega)])

abbrev Mt := Nat → Nat → G
/-- The product of two matrices, of which the first has k columns. -/
def mm (k : Nat) (A B : Mt) : Mt := fun i j => sum k (fun l => A i l * B l j)
def one : Mt := fun i j => if i = j then 1 else 0
def tr (A : Mt) : Mt := fun i j => A j i
/-- Alike in m rows and n columns. -/
def Same (m n : Nat) (A B : Mt) : Prop := ∀ i, i < m → ∀ j, j < n → A i j = B i j

theorem Same.refl (m n : Nat) (A : Mt) : Same m n A A := fun _ _ _ _ => rfl
theorem Same.symm {m n : Nat} {A B : Mt} (h : Same m n A B) : Same m n B A := fun i hi j hj => (h i hi j hj).symm
theorem Same.trans {m n : Nat} {A B C : Mt} (h : Same m n A B) (h' : Same m n B C) : Same m n A C := fun i hi j hj => (h i hi j hj).trans (h' i hi j hj)
theorem Same.mm {m k n : Nat} {A A' B B' : Mt} (h : Same m k A A') (h' : Same k n B B') : Same m n (mm k A B) (Lin.mm k A' B') :=
  fun i hi j hj => sum_congr (fun l hl => by rw [h i hi l hl, h' l hl j hj])
theorem mm_assoc (k l : Nat) (A B C : Mt) : mm l (mm k A B) C = mm k A (mm l B C) := by
  funext i j
  simp only [mm]
  rw [show sum l (fun x => sum k (fun y => A i y * B y x) * C x j) = sum l (fun x => sum k (fun y => A i y * B y x * C x j)) from sum_congr (fun x _ => sum_mul ..)]
  rw [sum_comm]
  exact sum_congr (fun y _ => by rw [mul_sum]; exact sum_congr (fun x _ => mul_assoc ..))
theorem one_mm {m n : Nat} (A : Mt) : Same m n (mm m one A) A := by
  intro i hi j hj
  simp only [mm, one]
  rw [sum_one hi _ (fun l hl hne => by rw [if_neg (Ne.symm hne), zero_mul]), if_pos rfl, one_mul]
theorem mm_one {m n : Nat} (A : Mt) : Same m n (mm n A one) A := by
  intro i hi j hj
  simp only [mm, one]
  rw [sum_one hj _ (fun l hl hne => by rw [if_neg hne, mul_zero]), if_pos rfl, mul_one]
theorem tr_mm (k : Nat) (A B : Mt) : tr (mm k A B) = mm k (tr B) (tr A) := by
  funext i j
  exact sum_congr (fun l _ => mul_comm ..)

/-- Fewer equations than unknowns have an answer that is not 0. -/
theorem kernel : ∀ (s r : Nat), s < r → ∀ X : Mt, ∃ v : Nat → G, (∃ i, i < r ∧ v i ≠ 0) ∧ ∀ j, j < s → sum r (fun i => v i * X i j) = 0 := by
  intro s
  induction s with
  | zero => exact fun r h X => ⟨fun _ => 1, ⟨0, h, one_ne⟩, fun j hj => absurd hj (by omega)⟩
  | succ s ih =>
    intro r h X
    by_cases hz : ∃ i0, i0 < r ∧ X i0 s ≠ 0
    · obtain ⟨i0, hi0, hne⟩ := hz
      obtain ⟨q, rfl⟩ : ∃ q, r = q + 1 := ⟨r - 1, by omega⟩
      let sg : Nat → Nat := fun i => if i < i0 then i else i + 1
      obtain ⟨v', ⟨i1, hi1, hv1⟩, hk⟩ := ih q (by omega) (fun i j => X (sg i) j + X (sg i) s * inv (X i0 s) * X i0 j)
      let c : G := sum q (fun i => v' i * (X (sg i) s * inv (X i0 s)))
      let v : Nat → G := fun k => if k < i0 then v' k else if k = i0 then c else v' (k - 1)
      have hvs : ∀ i, v (sg i) = v' i := by
        intro i
        show (if sg i < i0 then v' (sg i) else if sg i = i0 then c else v' (sg i - 1)) = v' i
        by_cases hi : i < i0
        · have : sg i = i := if_pos hi
          rw [this, if_pos hi]
        · have : sg i = i + 1 := if_neg hi
          rw [this, if_neg (by omega), if_neg (by omega)]; rfl
      have hv0 : v i0 = c := by
        show (if i0 < i0 then v' i0 else if i0 = i0 then c else v' (i0 - 1)) = c
        rw [if_neg (by omega), if_pos rfl]
      have hsl : ∀ i, i < q → sg i < q + 1 := by
        intro i hi
        show (if i < i0 then i else i + 1) < q + 1
        split <;> omega
      refine ⟨v, ⟨sg i1, hsl i1 hi1, by rw [hvs]; exact hv1⟩, ?_⟩
      intro j hj
      rw [sum_split q i0 (by omega)]
      have e1 : sum q (fun i => v (if i < i0 then i else i + 1) * X (if i < i0 then i else i + 1) j) = sum q (fun i => v' i * X (sg i) j) := sum_congr (fun i _ => by rw [show (if i < i0 then i else i + 1) = sg i from rfl, hvs])
      rw [e1, hv0, sum_mul, ← sum_add]
      rcases Nat.lt_or_ge j s with h1 | h1
      · rw [← hk j h1]
        exact sum_congr (fun i _ => by rw [mul_add]; ac_rfl)
      · have : j = s := by omega
        subst this
        apply sum_zero
        intro i hi
        rw [mul_assoc (v' i), mul_assoc (X (sg i) j), mul_comm (inv _), mul_inv hne, mul_one, add_self]
    · obtain ⟨v, hv, hk⟩ := ih r (by omega) X
      refine ⟨v, hv, ?_⟩
      intro j hj
      rcases Nat.lt_or_ge j s with h1 | h1
      · exact hk j h1
      · have : j = s := by omega
        subst this
        exact sum_zero (fun i hi => by rw [Decidable.byContradiction (fun hc => hz ⟨i, hi, hc⟩), mul_zero])

/-- What is neutral in r dimensions goes through no fewer. -/
theorem dim {r s : Nat} {X Y : Mt} (h : Same r r (mm s X Y) one) : r ≤ s := by
  refine Nat.le_of_not_lt (fun hc => ?_)
  obtain ⟨v, ⟨i, hi, hv⟩, hk⟩ := kernel s r hc X
  apply hv
  have e1 : sum r (fun k => v k * mm s X Y k i) = v i := by
    rw [sum_one hi _ (fun k hk' hne => by rw [h k hk' i hi]; simp only [one]; rw [if_neg hne, mul_zero]), h i hi i hi]
    simp only [one]; rw [if_pos trivial, mul_one]
  rw [← e1]
  simp only [mm]
  rw [show sum r (fun k => v k * sum s (fun l => X k l * Y l i)) = sum r (fun k => sum s (fun l => v k * X k l * Y l i)) from sum_congr (fun k _ => by rw [mul_sum]; exact sum_congr (fun l _ => (mul_assoc ..).symm))]
  rw [sum_comm]
  refine sum_zero (fun l hl => ?_)
  rw [← sum_mul, hk l hl, zero_mul]

end Go.Rf.Lin
