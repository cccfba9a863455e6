/-
  The field of 256 elements, on natural numbers: products by shifting and adding, and the laws of a field.
-/
set_option linter.unusedVariables false
set_option linter.unusedSimpArgs false
namespace Go.Rf.Gf

/-- Times 2. -/
def xt (x : Nat) : Nat := if 255 < 2 * x then (2 * x) ^^^ 285 else 2 * x

def mulk : Nat → Nat → Nat → Nat
  | 0, _, _ => 0
  | k + 1, x, b => (if b % 2 = 1 then x else 0) ^^^ mulk k (xt x) (b / 2)

/-- The product of two bytes. -/
def mul (a b : Nat) : Nat := mulk 8 a b

theorem xt_lt : ∀ x : Nat, x < 256 → xt x < 256 := by decide +kernel

theorem mulk_lt : ∀ (k x b : Nat), x < 256 → mulk k x b < 256
  | 0, _, _, _ => by simp [mulk]
  | k + 1, x, b, h => by
    simp only [mulk]
    refine Nat.xor_lt_two_pow (n := 8) ?_ (mulk_lt k _ _ (xt_lt x h))
    split
    · exact h
    · omega

theorem mul_lt {a : Nat} (b : Nat) (h : a < 256) : mul a b < 256 := mulk_lt 8 a b h

theorem xt_eq (x : Nat) (h : x < 256) : xt x = (2 * x) ^^^ (if x / 128 = 1 then 285 else 0) := by
  unfold xt
  by_cases h1 : 255 < 2 * x
  · rw [if_pos h1, if_pos (by omega)]
  · rw [if_neg h1, if_neg (by omega)]; simp

theorem two_mul_xor (x y : Nat) : 2 * (x ^^^ y) = (2 * x) ^^^ (2 * y) := by
  have := Nat.shiftLeft_xor_distrib (a := x) (b := y) (i := 1)
  simp only [Nat.shiftLeft_eq, Nat.pow_one] at this
  rw [Nat.mul_comm 2, Nat.mul_comm 2, Nat.mul_comm 2]
  exact this

theorem div_xor (x y : Nat) : (x ^^^ y) / 128 = (x / 128) ^^^ (y / 128) := by
  have := Nat.shiftRight_xor_distrib (a := x) (b := y) (i := 7)
  simpa [Nat.shiftRight_eq_div_pow] using this

theorem half_xor (x y : Nat) : (x ^^^ y) / 2 = (x / 2) ^^^ (y / 2) := by
  have := Nat.shiftRight_xor_distrib (a := x) (b := y) (i := 1)
  simpa [Nat.shiftRight_eq_div_pow] using this

theorem mod_xor (x y : Nat) : (x ^^^ y) % 2 = (x % 2 + y % 2) % 2 := by
  have := Nat.xor_mod_two_pow (a := x) (b := y) (n := 1)
  simp only [Nat.pow_one] at this
  rw [this]
  rcases Nat.mod_two_eq_zero_or_one x with h | h <;> rcases Nat.mod_two_eq_zero_or_one y with h' | h' <;> rw [h, h'] <;> rfl

theorem xor4 (a b c d : Nat) : (a ^^^ b) ^^^ (c ^^^ d) = (a ^^^ c) ^^^ (b ^^^ d) := by
  rw [Nat.xor_assoc, ← Nat.xor_assoc b, Nat.xor_comm b c, Nat.xor_assoc c, ← Nat.xor_assoc a]

theorem xt_xor {x y : Nat} (hx : x < 256) (hy : y < 256) : xt (x ^^^ y) = xt x ^^^ xt y := by
  have hxy : x ^^^ y < 256 := Nat.xor_lt_two_pow (n := 8) hx hy
  rw [xt_eq _ hxy, xt_eq _ hx, xt_eq _ hy, two_mul_xor, div_xor, xor4]
  congr 1
  have h1 : x / 128 = 0 ∨ x / 128 = 1 := by omega
  have h2 : y / 128 = 0 ∨ y / 128 = 1 := by omega
  rcases h1 with h1 | h1 <;> rcases h2 with h2 | h2 <;> rw [h1, h2] <;> rfl

theorem mulk_xor_left : ∀ (k : Nat) {x y : Nat} (b : Nat), x < 256 → y < 256 → mulk k (x ^^^ y) b = mulk k x b ^^^ mulk k y b
  | 0, _, _, _, _, _ => by simp [mulk]
  | k + 1, x, y, b, hx, hy => by
    simp only [mulk]
    rw [xt_xor hx hy, mulk_xor_left k (b / 2) (xt_lt x hx) (xt_lt y hy), xor4]
    congr 1
    split <;> simp

theorem mulk_xor_right : ∀ (k x b c : Nat), mulk k x (b ^^^ c) = mulk k x b ^^^ mulk k x c
  | 0, _, _, _ => by simp [mulk]
  | k + 1, x, b, c => by
    simp only [mulk]
    rw [half_xor, mulk_xor_right k (xt x) (b / 2) (c / 2), xor4]
    congr 1
    rw [mod_xor]
    rcases Nat.mod_two_eq_zero_or_one b with h | h <;> rcases Nat.mod_two_eq_zero_or_one c with h' | h' <;> rw [h, h'] <;> simp

theorem mul_xor_left {x y : Nat} (b : Nat) (hx : x < 256) (hy : y < 256) : mul (x ^^^ y) b = mul x b ^^^ mul y b := mulk_xor_left 8 b hx hy
theorem mul_xor_right (x b c : Nat) : mul x (b ^^^ c) = mul x b ^^^ mul x c := mulk_xor_right 8 x b c

/-- What holds of the powers of 2, and of sums, holds of all. -/
theorem span {P : Nat → Prop} (h0 : P 0) (hb : ∀ i, i < 8 → P (2 ^ i)) (hx : ∀ a b, a < 256 → b < 256 → P a → P b → P (a ^^^ b)) : ∀ a, a < 256 → P a := by
  have key : ∀ k, k ≤ 8 → ∀ a, a < 2 ^ k → P a := by
    intro k
    induction k with
    | zero => intro _ a ha; have : a = 0 := by simpa using ha
              subst this; exact h0
    | succ k ih =>
      intro hk a ha
      have hp : 2 ^ (k + 1) = 2 * 2 ^ k := by rw [Nat.pow_succ, Nat.mul_comm]
      by_cases h : a < 2 ^ k
      · exact ih (by omega) a h
      · have hlow : a - 2 ^ k < 2 ^ k := by omega
        have e : a = 2 ^ k ^^^ (a - 2 ^ k) := by
          have h1 := Nat.two_pow_add_eq_or_of_lt hlow 1
          have h2 : 2 ^ k * 1 + (a - 2 ^ k) = a := by omega
          have h3 : (2 ^ k * 1 ||| (a - 2 ^ k)) = 2 ^ k ^^^ (a - 2 ^ k) := by
            rw [Nat.mul_one]
            apply Nat.eq_of_testBit_eq
            intro i
            rw [Nat.testBit_or, Nat.testBit_xor, Nat.testBit_two_pow]
            by_cases hi : k = i
            · subst hi
              rw [Nat.testBit_lt_two_pow hlow]; simp
            · simp [hi]
          rw [← h3, ← h1, h2]
        have h8 : 2 ^ (k + 1) ≤ 256 := by
          have := Nat.pow_le_pow_right (n := 2) (by omega) hk
          simpa using this
        rw [e]
        exact hx _ _ (by omega) (by omega) (hb k (by omega)) (ih (by omega) _ hlow)
  intro a ha
  exact key 8 (Nat.le_refl _) a ha

theorem mul_zero_left (b : Nat) : mul 0 b = 0 := by
  have := mul_xor_left (x := 0) (y := 0) b (by omega) (by omega)
  simpa using this
theorem mul_zero_right (a : Nat) : mul a 0 = 0 := by
  have := mul_xor_right a 0 0
  simpa using this

theorem base_comm : ∀ i : Nat, i < 8 → ∀ j : Nat, j < 8 → mul (2 ^ i) (2 ^ j) = mul (2 ^ j) (2 ^ i) := by decide +kernel
theorem base_assoc : ∀ i : Nat, i < 8 → ∀ j : Nat, j < 8 → ∀ k : Nat, k < 8 → mul (mul (2 ^ i) (2 ^ j)) (2 ^ k) = mul (2 ^ i) (mul (2 ^ j) (2 ^ k)) := by decide +kernel

theorem pow_lt8 {i : Nat} (h : i < 8) : 2 ^ i < 256 := Nat.pow_lt_pow_right (by omega) (n := 8) (m := i) h

theorem mul_comm {a b : Nat} (ha : a < 256) (hb : b < 256) : mul a b = mul b a := by
  refine span (P := fun a => ∀ b, b < 256 → mul a b = mul b a) ?_ ?_ ?_ a ha b hb
  · intro b _; rw [mul_zero_left, mul_zero_right]
  · intro i hi
    refine span ?_ ?_ ?_
    · rw [mul_zero_left, mul_zero_right]
    · exact fun j hj => base_comm i hi j hj
    · intro c d hc hd h1 h2; rw [mul_xor_right, mul_xor_left _ hc hd, h1, h2]
  · intro c d hc hd h1 h2 b hb
    rw [mul_xor_left _ hc hd, mul_xor_right, h1 b hb, h2 b hb]

theorem mul_assoc {a b c : Nat} (ha : a < 256) (hb : b < 256) (hc : c < 256) : mul (mul a b) c = mul a (mul b c) := by
  refine span (P := fun a => ∀ b, b < 256 → ∀ c, c < 256 → mul (mul a b) c = mul a (mul b c)) ?_ ?_ ?_ a ha b hb c hc
  · intro b _ c _; simp only [mul_zero_left]
  · intro i hi
    refine span (P := fun b => ∀ c, c < 256 → mul (mul (2 ^ i) b) c = mul (2 ^ i) (mul b c)) ?_ ?_ ?_
    · intro c _; simp only [mul_zero_left, mul_zero_right]
    · intro j hj
      refine span ?_ ?_ ?_
      · simp only [mul_zero_right]
      · exact fun k hk => base_assoc i hi j hj k hk
      · intro d e hd he h1 h2; simp only [mul_xor_right, h1, h2]
    · intro d e hd he h1 h2 c hc
      rw [mul_xor_right, mul_xor_left _ (mul_lt _ (pow_lt8 hi)) (mul_lt _ (pow_lt8 hi)), mul_xor_left _ hd he, mul_xor_right, h1 c hc, h2 c hc]
  · intro d e hd he h1 h2 b hb c hc
    rw [mul_xor_left _ hd he, mul_xor_left _ (mul_lt _ hd) (mul_lt _ he), mul_xor_left _ hd he, h1 b hb c hc, h2 b hb c hc]

theorem mul_one {a : Nat} (ha : a < 256) : mul a 1 = a := by
  refine span (P := fun a => mul a 1 = a) (by decide +kernel) (by decide +kernel) ?_ a ha
  intro c d hc hd h1 h2; rw [mul_xor_left _ hc hd, h1, h2]

theorem one_mul {a : Nat} (ha : a < 256) : mul 1 a = a := by rw [mul_comm (by omega) ha, mul_one ha]

/-- Powers. -/
def pow (a : Nat) : Nat → Nat
  | 0 => 1
  | n + 1 => mul (pow a n) a

theorem pow_lt {a : Nat} (n : Nat) : pow a n < 256 := by
  induction n with
  | zero => simp [pow]
  | succ n ih => simp only [pow]; exact mul_lt _ ih

theorem pow_add {a : Nat} (ha : a < 256) (m n : Nat) : pow a (m + n) = mul (pow a m) (pow a n) := by
  induction n with
  | zero => simp only [Nat.add_zero, pow]; rw [mul_one (pow_lt _)]
  | succ n ih => rw [← Nat.add_assoc]; simp only [pow]; rw [ih, mul_assoc (pow_lt _) (pow_lt _) ha]

theorem pow_one {a : Nat} (ha : a < 256) : pow a 1 = a := by simp only [pow]; exact one_mul ha

theorem pow_mul2 {a : Nat} (ha : a < 256) (n : Nat) : pow (mul a a) n = pow a (2 * n) := by
  induction n with
  | zero => rfl
  | succ n ih =>
    have h2 : pow a 2 = mul a a := by
      have := pow_add ha 1 1
      rw [pow_one ha] at this
      exact this
    rw [show 2 * (n + 1) = 2 * n + 2 by omega, pow_add ha, h2]
    simp only [pow]
    rw [ih]

/-- Powers by squaring. -/
def powf : Nat → Nat → Nat → Nat → Nat
  | 0, p, _, _ => p
  | k + 1, p, a, n => powf k (if n % 2 = 1 then mul p a else p) (mul a a) (n / 2)

theorem powf_eq : ∀ (k p a n : Nat), p < 256 → a < 256 → n < 2 ^ k → powf k p a n = mul p (pow a n)
  | 0, p, a, n, hp, ha, hn => by
    have : n = 0 := by simpa using hn
    subst this
    simp only [powf, pow]
    rw [mul_one hp]
  | k + 1, p, a, n, hp, ha, hn => by
    simp only [powf]
    rw [powf_eq k _ _ _ (by split <;> first | exact mul_lt _ hp | exact hp) (mul_lt _ ha) (by rw [Nat.pow_succ] at hn; omega), pow_mul2 ha]
    split
    · rename_i h
      have e : n = 1 + 2 * (n / 2) := by omega
      rw [mul_assoc hp ha (pow_lt _)]
      conv => rhs; rw [e, pow_add ha, pow_one ha]
    · rename_i h
      have e : n = 2 * (n / 2) := by omega
      conv => rhs; rw [e]

theorem inv_all : ∀ a : Nat, a < 256 → a ≠ 0 → mul a (powf 8 1 a 254) = 1 := by decide +kernel

theorem mul_inv {a : Nat} (ha : a < 256) (h : a ≠ 0) : mul a (pow a 254) = 1 := by
  have := inv_all a ha h
  rw [powf_eq 8 1 a 254 (by omega) ha (by omega), one_mul (pow_lt _)] at this
  exact this

theorem mul_eq_zero {a b : Nat} (ha : a < 256) (hb : b < 256) : mul a b = 0 ↔ a = 0 ∨ b = 0 := by
  constructor
  · intro h
    by_cases h0 : a = 0
    · exact .inl h0
    · right
      have h1 : mul (pow a 254) (mul a b) = b := by
        rw [← mul_assoc (pow_lt _) ha hb, mul_comm (pow_lt _) ha, mul_inv ha h0, one_mul hb]
      rw [h, mul_zero_right] at h1
      exact h1.symm
  · rintro (h | h)
    · rw [h, mul_zero_left]
    · rw [h, mul_zero_right]

theorem pow_255 {a : Nat} (ha : a < 256) (h : a ≠ 0) : pow a 255 = 1 := by
  show mul (pow a 254) a = 1
  rw [mul_comm (pow_lt _) ha, mul_inv ha h]

end Go.Rf.Gf
