/-
  The reference's products, powers and inverses, as the rs laws have them.
-/
import Derived.Test.YtoabbnfjnjbjfaaPlRsMul
set_option linter.unusedVariables false
set_option linter.unusedSimpArgs false
namespace Go.Rf.W
open Go Go.Rf Go.Rf.Gf

theorem deq (a b : Nat) : decide (((a : Nat) : Int) = ((b : Nat) : Int)) = decide (a = b) := decide_eq_decide.2 (by omega)
theorem deq0 (a : Nat) : decide (((a : Nat) : Int) = 0) = decide (a = 0) := decide_eq_decide.2 (by omega)

theorem bit_and (b i : Nat) : (b &&& 2 ^ i = 0) ↔ ¬ (b / 2 ^ i % 2 = 1) := by
  have ht : b.testBit i = decide (b / 2 ^ i % 2 = 1) := Nat.testBit_eq_decide_div_mod_eq
  constructor
  · intro h h1
    have h2 : (b &&& 2 ^ i).testBit i = true := by rw [Nat.testBit_and, ht, Nat.testBit_two_pow]; simp [h1]
    rw [h] at h2
    simp at h2
  · intro h
    apply Nat.eq_of_testBit_eq
    intro j
    rw [Nat.testBit_and, Nat.testBit_two_pow]
    by_cases hj : i = j
    · subst hj; rw [ht]; simp [h]
    · simp [hj]

theorem refMul_loop (N : Nat) : ∀ (k n b p x i : Nat), i + k = 8 → b < 256 → p < 256 → x < 256 → k < n →
    loopF (granaryref02_Mul_b0 N) n ((b : Int), (p : Int), (x : Int), (i : Int)) = some ((p ^^^ mulk k x (b / 2 ^ i) : Nat) : Int)
  | k, 0, b, p, x, i, hi, _, _, _, hn => by omega
  | 0, n + 1, b, p, x, i, hi, hb, hp, hx, hn => by
    have : i = 8 := by omega
    subst this
    simp [loopF, granaryref02_Mul_b0, mulk]
  | k + 1, n + 1, b, p, x, i, hi, hb, hp, hx, hn => by
    have ih := refMul_loop N k n b (if b / 2 ^ i % 2 = 1 then p ^^^ x else p) (xt x) (i + 1) (by omega) hb
      (by split <;> first | exact Nat.xor_lt_two_pow (n := 8) hp hx | exact hp) (xt_lt x hx) (by omega)
    have e0 : decide (((i : Nat) : Int) < 8) = true := by simp; omega
    have e1 : wrapF .u64 (i : Int) = (i : Int) := wrapF_u64 (by omega) (by omega)
    have e1' : decide ((0 : Int) ≤ (i : Int)) = true := by simp
    have hp2 : (2 : Nat) ^ i ≤ 2 ^ 7 := Nat.pow_le_pow_right (by omega) (by omega)
    have e2 : shlF .u8 (1 : Int) (i : Int) = ((2 ^ i : Nat) : Int) := by
      have := shlF_nat .u8 (a := 1) (n := i) (by simp [bitsA]; omega) (by simp [topA]; omega)
      rw [Nat.one_mul] at this
      exact this
    have e3 : andF .u8 (b : Int) ((2 ^ i : Nat) : Int) = ((b &&& 2 ^ i : Nat) : Int) := andF_nat .u8 (by simpa [topA] using hb) (by simp only [topA]; omega)
    have e4 : xorF .i64 (p : Int) (x : Int) = ((p ^^^ x : Nat) : Int) := xorF_nat .i64 (by simp [topA]; omega) (by simp [topA]; omega)
    have e5 : wrapF .i64 ((2 : Int) * (x : Int)) = ((2 * x : Nat) : Int) := by rw [wrapF_i64 (by omega) (by omega)]; omega
    have e6 : decide ((255 : Int) < ((2 * x : Nat) : Int)) = decide (255 < 2 * x) := decide_eq_decide.2 (by omega)
    have e7 : xorF .i64 ((2 * x : Nat) : Int) 285 = (((2 * x) ^^^ 285 : Nat) : Int) := by
      have h := xorF_nat .i64 (a := 2 * x) (b := 285) (by simp [topA]; omega) (by simp [topA])
      have e285 : ((285 : Nat) : Int) = 285 := rfl
      rw [e285] at h
      exact h
    have e8 : wrapF .i64 ((i : Int) + 1) = ((i + 1 : Nat) : Int) := by rw [wrapF_i64 (by omega) (by omega)]; omega
    have hb2 := bit_and b i
    have hd : b / 2 ^ i / 2 = b / 2 ^ (i + 1) := by rw [Nat.div_div_eq_div_mul, Nat.pow_succ]
    have exor : p ^^^ mulk (k + 1) x (b / 2 ^ i) = (if b / 2 ^ i % 2 = 1 then p ^^^ x else p) ^^^ mulk k (xt x) (b / 2 ^ (i + 1)) := by
      show p ^^^ ((if b / 2 ^ i % 2 = 1 then x else 0) ^^^ mulk k (xt x) (b / 2 ^ i / 2)) = _
      rw [← Nat.xor_assoc, hd]
      by_cases hb2 : b / 2 ^ i % 2 = 1 <;> simp [hb2]
    rw [exor, ← ih]
    simp only [loopF, granaryref02_Mul_b0, e0, e1, e1', e2, e3, e4, e5, e6, e7, e8, deq0, cond_true, xt]
    by_cases h1 : b / 2 ^ i % 2 = 1
    · have h2 : ¬ (b &&& 2 ^ i = 0) := fun h => hb2.1 h h1
      by_cases hx2 : 255 < 2 * x <;> simp [h1, h2, hx2]
    · have h2 : b &&& 2 ^ i = 0 := hb2.2 h1
      by_cases hx2 : 255 < 2 * x <;> simp [h1, h2, hx2]

theorem refMul_eq {N a b : Nat} (hN : 8 < N) (ha : a < 256) (hb : b < 256) : granaryref02_Mul N ((a : Int), (b : Int)) = some ((mul a b : Nat) : Int) := by
  have hw : wrapF .i64 (a : Int) = (a : Int) := wrapF_i64 (by omega) (by omega)
  have := refMul_loop N 8 N b 0 a 0 (by omega) hb (by omega) ha hN
  simp only [granaryref02_Mul, granaryref02_Mul_l0, hw]
  have e0 : ((0 : Nat) : Int) = 0 := rfl
  rw [e0] at this
  rw [this]
  have hm := mul_lt b ha
  simp only [Option.bind_some, Nat.zero_xor, Nat.pow_zero, Nat.div_one]
  rw [wrapF_u8 (by omega) (by unfold mul at hm; omega)]
  rfl

theorem refPower_loop {N : Nat} (hN : 8 < N) : ∀ (k n a m i : Nat), i + k = m → m < 1000 → a < 256 → k < n →
    loopF (granaryref02_power_b0 N) n ((a : Int), (m : Int), ((Gf.pow a i : Nat) : Int), (i : Int)) = some ((Gf.pow a m : Nat) : Int)
  | k, 0, a, m, i, hi, _, _, hn => by omega
  | 0, n + 1, a, m, i, hi, hm, ha, hn => by
    have : i = m := by omega
    subst this
    simp [loopF, granaryref02_power_b0]
  | k + 1, n + 1, a, m, i, hi, hm, ha, hn => by
    have ih := refPower_loop hN k n a m (i + 1) (by omega) hm ha (by omega)
    have e0 : decide (((i : Nat) : Int) < (m : Int)) = true := by simp; omega
    have e1 := refMul_eq hN (pow_lt (a := a) i) ha
    have e8 : wrapF .i64 ((i : Int) + 1) = ((i + 1 : Nat) : Int) := by rw [wrapF_i64 (by omega) (by omega)]; omega
    rw [← ih]
    simp only [loopF, granaryref02_power_b0, e0, e1, e8, cond_true, Option.bind_some, Gf.pow]

theorem refPower_eq {N a m : Nat} (hN : 8 < N) (hm : m < 1000) (hN2 : m < N) (ha : a < 256) : granaryref02_power N ((a : Int), (m : Int)) = some ((Gf.pow a m : Nat) : Int) := by
  have := refPower_loop hN m N a m 0 (by omega) hm ha hN2
  have e1 : ((Gf.pow a 0 : Nat) : Int) = 1 := rfl
  rw [e1] at this
  simp only [granaryref02_power, granaryref02_power_l0]
  have e0 : ((0 : Nat) : Int) = 0 := rfl
  rw [e0] at this
  rw [this]
  rfl

theorem refInv_eq {N a : Nat} (hN : 260 < N) (ha : a < 256) : granaryref02_Inv N (a : Int) = some (if a = 0 then (0, 20) else (((Gf.pow a 254 : Nat) : Int), 0)) := by
  unfold granaryref02_Inv
  by_cases h0 : a = 0
  · subst h0; rfl
  · have e0 : decide ((a : Int) = 0) = false := by simp; exact h0
    have := refPower_eq (N := N) (m := 254) (by omega) (by omega) (by omega) ha
    have e2 : ((254 : Nat) : Int) = 254 := rfl
    rw [e2] at this
    simp only [e0, cond_false, this, Option.bind_some, if_neg h0]

end Go.Rf.W
