/-
  The printed products and powers are the field's.
-/
import Derived.Test.YtoabbnfjnjbjfaaRsF0
import Derived.Test.YtoabbnfjnjbjfaaPlNum
import Derived.Test.YtoabbnfjnjbjfaaPlGf
set_option linter.unusedVariables false
set_option linter.unusedSimpArgs false
namespace Go.Rf.W
open Go Go.Rf Go.Rf.Gf

theorem and1 (k : IntKind) {b : Nat} (h : b < 2 ^ topA k) : andF k (b : Int) 1 = ((b % 2 : Nat) : Int) := by
  have h1 : (1 : Nat) < 2 ^ topA k := by cases k <;> decide
  have := andF_nat k (a := b) (b := 1) h h1
  rw [Nat.and_one_is_mod] at this
  exact this

theorem dec1 (n : Nat) : decide (((n % 2 : Nat) : Int) = (1 : Int)) = decide (n % 2 = 1) := decide_eq_decide.2 (by omega)

theorem mul_loop (N : Nat) : ∀ (k n b p x : Nat), b < 2 ^ k → b < 256 → p < 256 → x < 256 → k < n → loopF (gf_Mul_b0 N) n ((b : Int), (p : Int), (x : Int)) = some ((p ^^^ mulk k x b : Nat) : Int)
  | k, 0, b, p, x, hb, _, _, _, hn => by omega
  | 0, n + 1, b, p, x, hb, _, _, _, hn => by
    have : b = 0 := by simpa using hb
    subst this
    simp [loopF, gf_Mul_b0, mulk]
  | k + 1, n + 1, b, p, x, hb, hb8, hp, hx, hn => by
    by_cases h0 : b = 0
    · subst h0
      have hz : mulk (k + 1) x 0 = 0 := by
        have := mulk_xor_right (k + 1) x 0 0
        simpa using this
      simp [loopF, gf_Mul_b0, hz]
    · have ih := mul_loop N k n (b / 2) (if b % 2 = 1 then p ^^^ x else p) (xt x) (by rw [Nat.pow_succ] at hb; omega) (by omega)
        (by split <;> first | exact Nat.xor_lt_two_pow (n := 8) hp hx | exact hp) (xt_lt x hx) (by omega)
      have e0 : decide (((b : Nat) : Int) = 0) = false := by simp; exact h0
      have e1 : andF .u8 (b : Int) 1 = ((b % 2 : Nat) : Int) := and1 .u8 (by simpa [topA] using hb8)
      have e2 : xorF .i64 (p : Int) (x : Int) = ((p ^^^ x : Nat) : Int) := xorF_nat .i64 (by simp [topA]; omega) (by simp [topA]; omega)
      have e3 : shlF .i64 (x : Int) 1 = ((2 * x : Nat) : Int) := by
        have := shlF_nat .i64 (a := x) (n := 1) (by decide) (by simp [topA]; omega)
        rw [Nat.mul_comm] at this
        exact this
      have e4 : xorF .i64 ((2 * x : Nat) : Int) 285 = (((2 * x) ^^^ 285 : Nat) : Int) := by
        have h := xorF_nat .i64 (a := 2 * x) (b := 285) (by simp [topA]; omega) (by simp [topA])
        have e285 : ((285 : Nat) : Int) = 285 := rfl
        rw [e285] at h
        exact h
      have e5 : shrF .u8 (b : Int) 1 = ((b / 2 : Nat) : Int) := shrF_nat .u8 (a := b) (n := 1) (by decide)
      have e6 : decide ((255 : Int) < ((2 * x : Nat) : Int)) = decide (255 < 2 * x) := decide_eq_decide.2 (by omega)
      have exor : p ^^^ mulk (k + 1) x b = (if b % 2 = 1 then p ^^^ x else p) ^^^ mulk k (xt x) (b / 2) := by
        show p ^^^ ((if b % 2 = 1 then x else 0) ^^^ mulk k (xt x) (b / 2)) = _
        rw [← Nat.xor_assoc]
        by_cases hb2 : b % 2 = 1 <;> simp [hb2]
      rw [exor, ← ih]
      simp only [loopF, gf_Mul_b0, e0, e1, e2, e3, e4, e5, e6, dec1, xt]
      by_cases hb2 : b % 2 = 1 <;> by_cases hx2 : 255 < 2 * x <;> simp [hb2, hx2]

theorem gf_Mul_eq {N a b : Nat} (hN : 8 < N) (ha : a < 256) (hb : b < 256) : gf_Mul N ((a : Int), (b : Int)) = some ((mul a b : Nat) : Int) := by
  have hw : wrapF .i64 (a : Int) = (a : Int) := wrapF_i64 (by omega) (by omega)
  have := mul_loop N 8 N b 0 a (by omega) hb (by omega) ha hN
  simp only [gf_Mul, gf_Mul_l0, hw]
  have e0 : ((0 : Nat) : Int) = 0 := rfl
  rw [e0] at this
  rw [this]
  have hm := mul_lt b ha
  simp only [Option.bind_some, Nat.zero_xor]
  rw [wrapF_u8 (by omega) (by unfold mul at hm; omega)]
  rfl

theorem gf_Add_eq {a b : Nat} (ha : a < 256) (hb : b < 256) : gf_Add ((a : Int), (b : Int)) = some ((a ^^^ b : Nat) : Int) := by
  simp only [gf_Add]
  rw [xorF_nat .u8 (by simpa [topA] using ha) (by simpa [topA] using hb)]

theorem pow_loop {N : Nat} (hN : 8 < N) : ∀ (k n a m p : Nat), m < 2 ^ k → m < 1000 → a < 256 → p < 256 → k < n → loopF (gf_Pow_b0 N) n ((a : Int), (m : Int), (p : Int)) = some ((powf k p a m : Nat) : Int)
  | k, 0, a, m, p, hm, _, _, _, hn => by omega
  | 0, n + 1, a, m, p, hm, _, _, _, hn => by
    have : m = 0 := by simpa using hm
    subst this
    simp [loopF, gf_Pow_b0, powf]
  | k + 1, n + 1, a, m, p, hm, hm2, ha, hp, hn => by
    by_cases h0 : m = 0
    · subst h0
      have e : powf (k + 1) p a 0 = p := by
        rw [powf_eq (k + 1) p a 0 hp ha (by exact Nat.two_pow_pos _)]
        simp only [Gf.pow]
        exact mul_one hp
      simp [loopF, gf_Pow_b0, e]
    · have ih := pow_loop hN k n (mul a a) (m / 2) (if m % 2 = 1 then mul p a else p) (by rw [Nat.pow_succ] at hm; omega) (by omega) (mul_lt _ ha) (by split <;> first | exact mul_lt _ hp | exact hp) (by omega)
      have e0 : decide ((0 : Int) < (m : Int)) = true := by simp; omega
      have e1 : andF .i64 (m : Int) 1 = ((m % 2 : Nat) : Int) := and1 .i64 (by simp [topA]; omega)
      have e2 := gf_Mul_eq hN hp ha
      have e3 := gf_Mul_eq hN ha ha
      have e5 : shrF .i64 (m : Int) 1 = ((m / 2 : Nat) : Int) := shrF_nat .i64 (a := m) (n := 1) (by decide)
      simp only [powf]
      rw [← ih]
      simp only [loopF, gf_Pow_b0, e0, e1, e2, e3, e5, dec1, Option.bind_some, cond_true]
      by_cases hb2 : m % 2 = 1 <;> simp [hb2]

theorem gf_Pow_eq {N a : Nat} {n : Int} (hN : 12 < N) (ha : a < 256) (hn : -9223372036854775808 ≤ n) (hn2 : n < 9223372036854775808) :
    gf_Pow N ((a : Int), n) = some (if a = 0 then (if n = 0 then 1 else 0) else ((Gf.pow a (n % 255).toNat : Nat) : Int)) := by
  unfold gf_Pow
  by_cases h0 : a = 0
  · subst h0
    by_cases h1 : n = 0
    · subst h1; rfl
    · simp [h1]
  · have e0 : decide ((a : Int) = 0) = false := by simp; exact h0
    rw [if_neg h0]
    simp only [e0, cond_false]
    have key : (cond (decide (Int.tmod n 255 < 0)) (some (wrapF .i64 (Int.tmod n 255 + 255))) (some (Int.tmod n 255))) = some (((n % 255).toNat : Nat) : Int) := by
      have hb := Int.tmod_lt_of_pos n (b := 255) (by omega)
      have hl : -255 < Int.tmod n 255 := by
        have := Int.lt_tmod_of_pos n (b := 255) (by omega)
        omega
      have hd : Int.tmod n 255 = n - 255 * Int.tdiv n 255 := by
        have := Int.tmod_add_mul_tdiv n 255
        omega
      by_cases hneg : Int.tmod n 255 < 0
      · have : decide (Int.tmod n 255 < 0) = true := by simpa using hneg
        rw [this]
        simp only [cond_true]
        rw [wrapF_i64 (by omega) (by omega)]
        congr 1
        omega
      · have : decide (Int.tmod n 255 < 0) = false := by simpa using hneg
        rw [this]
        simp only [cond_false]
        congr 1
        omega
    rw [key]
    simp only [Option.bind_some, gf_Pow_l0]
    have hm : (n % 255).toNat < 255 := by omega
    have := pow_loop (N := N) (by omega) 8 N a (n % 255).toNat 1 (by omega) (by omega) ha (by omega) (by omega)
    have e1 : ((1 : Nat) : Int) = 1 := rfl
    rw [e1] at this
    rw [this, powf_eq 8 1 a _ (by omega) ha (by omega), one_mul (pow_lt _)]
    rfl

theorem gf_Div_eq {N a b : Nat} (hN : 12 < N) (ha : a < 256) (hb : b < 256) :
    gf_Div N ((a : Int), (b : Int)) = some (if b = 0 then (0, 20) else (((mul a (Gf.pow b 254) : Nat) : Int), 0)) := by
  unfold gf_Div
  by_cases h0 : b = 0
  · subst h0; rfl
  · have e0 : decide ((b : Int) = 0) = false := by simp; exact h0
    simp only [e0, cond_false]
    rw [gf_Pow_eq hN hb (by omega) (by omega), if_neg h0, if_neg h0]
    have : ((254 : Int) % 255).toNat = 254 := rfl
    rw [this]
    simp only [Option.bind_some]
    rw [gf_Mul_eq (by omega) ha (pow_lt _)]
    rfl

theorem gf_Inv_eq {N a : Nat} (hN : 12 < N) (ha : a < 256) :
    gf_Inv N (a : Int) = some (if a = 0 then (0, 20) else (((Gf.pow a 254 : Nat) : Int), 0)) := by
  unfold gf_Inv
  have := gf_Div_eq (N := N) (a := 1) hN (by omega) ha
  have e1 : ((1 : Nat) : Int) = 1 := rfl
  rw [e1] at this
  rw [this]
  by_cases h0 : a = 0
  · simp [h0]
  · simp only [if_neg h0, Option.bind_some]
    rw [one_mul (pow_lt _)]

end Go.Rf.W
