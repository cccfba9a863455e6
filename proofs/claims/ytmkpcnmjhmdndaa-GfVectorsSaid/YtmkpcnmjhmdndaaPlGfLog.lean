/-
  Logarithms, and the reference's products, powers and logarithms.
-/
import Derived.Test.YtmkpcnmjhmdndaaPlGfMul
set_option linter.unusedVariables false
set_option linter.unusedSimpArgs false
namespace Go.Rf.W
open Go Go.Rf Go.Rf.Gf

theorem deq (a b : Nat) : decide (((a : Nat) : Int) = ((b : Nat) : Int)) = decide (a = b) := decide_eq_decide.2 (by omega)
theorem deq0 (a : Nat) : decide (((a : Nat) : Int) = 0) = decide (a = 0) := decide_eq_decide.2 (by omega)

theorem bit_and (b i : Nat) : (b &&& 2 ^ i = 0) ↔ ¬ (b / 2 ^ i % 2 = 1) := by
  have ht : b.testBit i = decide (b / 2 ^ i % 2 = 1) := Nat.testBit_eq_decide_div_mod_eq
  constructor
  · intro h h1
    have h2 : (b &&& 2 ^ i).testBit i = true := by rw [Nat.testBit_and, ht, Nat.testBit_two_pow]; simp [h1]
    rw [h] at h2
    simp at h2
  · intro h
    apply Nat.eq_of_testBit_eq
    intro j
    rw [Nat.testBit_and, Nat.testBit_two_pow]
    by_cases hj : i = j
    · subst hj; rw [ht]; simp [h]
    · simp [hj]

theorem refMul_loop (N : Nat) : ∀ (k n b p x i : Nat), i + k = 8 → b < 256 → p < 256 → x < 256 → k < n →
    loopF (granaryref02_Mul_b0 N) n ((b : Int), (p : Int), (x : Int), (i : Int)) = some ((p ^^^ mulk k x (b / 2 ^ i) : Nat) : Int)
  | k, 0, b, p, x, i, hi, _, _, _, hn => by omega
  | 0, n + 1, b, p, x, i, hi, hb, hp, hx, hn => by
    have : i = 8 := by omega
    subst this
    simp [loopF, granaryref02_Mul_b0, mulk]
  | k + 1, n + 1, b, p, x, i, hi, hb, hp, hx, hn => by
    have ih := refMul_loop N k n b (if b / 2 ^ i % 2 = 1 then p ^^^ x else p) (xt x) (i + 1) (by omega) hb
      (by split <;> first | exact Nat.xor_lt_two_pow (n := 8) hp hx | exact hp) (xt_lt x hx) (by omega)
    have e0 : decide (((i : Nat) : Int) < 8) = true := by simp; omega
    have e1 : wrapF .u64 (i : Int) = (i : Int) := wrapF_u64 (by omega) (by omega)
    have e1' : decide ((0 : Int) ≤ (i : Int)) = true := by simp
    have hp2 : (2 : Nat) ^ i ≤ 2 ^ 7 := Nat.pow_le_pow_right (by omega) (by omega)
    have e2 : shlF .u8 (1 : Int) (i : Int) = ((2 ^ i : Nat) : Int) := by
      have := shlF_nat .u8 (a := 1) (n := i) (by simp [bitsA]; omega) (by simp [topA]; omega)
      rw [Nat.one_mul] at this
      exact this
    have e3 : andF .u8 (b : Int) ((2 ^ i : Nat) : Int) = ((b &&& 2 ^ i : Nat) : Int) := andF_nat .u8 (by simpa [topA] using hb) (by simp only [topA]; omega)
    have e4 : xorF .i64 (p : Int) (x : Int) = ((p ^^^ x : Nat) : Int) := xorF_nat .i64 (by simp [topA]; omega) (by simp [topA]; omega)
    have e5 : wrapF .i64 ((2 : Int) * (x : Int)) = ((2 * x : Nat) : Int) := by rw [wrapF_i64 (by omega) (by omega)]; omega
    have e6 : decide ((255 : Int) < ((2 * x : Nat) : Int)) = decide (255 < 2 * x) := decide_eq_decide.2 (by omega)
    have e7 : xorF .i64 ((2 * x : Nat) : Int) 285 = (((2 * x) ^^^ 285 : Nat) : Int) := by
      have h := xorF_nat .i64 (a := 2 * x) (b := 285) (by simp [topA]; omega) (by simp [topA])
      have e285 : ((285 : Nat) : Int) = 285 := rfl
      rw [e285] at h
      exact h
    have e8 : wrapF .i64 ((i : Int) + 1) = ((i + 1 : Nat) : Int) := by rw [wrapF_i64 (by omega) (by omega)]; omega
    have hb2 := bit_and b i
    have hd : b / 2 ^ i / 2 = b / 2 ^ (i + 1) := by rw [Nat.div_div_eq_div_mul, Nat.pow_succ]
    have exor : p ^^^ mulk (k + 1) x (b / 2 ^ i) = (if b / 2 ^ i % 2 = 1 then p ^^^ x else p) ^^^ mulk k (xt x) (b / 2 ^ (i + 1)) := by
      show p ^^^ ((if b / 2 ^ i % 2 = 1 then x else 0) ^^^ mulk k (xt x) (b / 2 ^ i / 2)) = _
      rw [← Nat.xor_assoc, hd]
      by_cases hb2 : b / 2 ^ i % 2 = 1 <;> simp [hb2]
    rw [exor, ← ih]
    simp only [loopF, granaryref02_Mul_b0, e0, e1, e1', e2, e3, e4, e5, e6, e7, e8, deq0, cond_true, xt]
    by_cases h1 : b / 2 ^ i % 2 = 1
    · have h2 : ¬ (b &&& 2 ^ i = 0) := fun h => hb2.1 h h1
      by_cases hx2 : 255 < 2 * x <;> simp [h1, h2, hx2]
    · have h2 : b &&& 2 ^ i = 0 := hb2.2 h1
      by_cases hx2 : 255 < 2 * x <;> simp [h1, h2, hx2]

theorem refMul_eq {N a b : Nat} (hN : 8 < N) (ha : a < 256) (hb : b < 256) : granaryref02_Mul N ((a : Int), (b : Int)) = some ((mul a b : Nat) : Int) := by
  have hw : wrapF .i64 (a : Int) = (a : Int) := wrapF_i64 (by omega) (by omega)
  have := refMul_loop N 8 N b 0 a 0 (by omega) hb (by omega) ha hN
  simp only [granaryref02_Mul, granaryref02_Mul_l0, hw]
  have e0 : ((0 : Nat) : Int) = 0 := rfl
  rw [e0] at this
  rw [this]
  have hm := mul_lt b ha
  simp only [Option.bind_some, Nat.zero_xor, Nat.pow_zero, Nat.div_one]
  rw [wrapF_u8 (by omega) (by unfold mul at hm; omega)]
  rfl

theorem refPower_loop {N : Nat} (hN : 8 < N) : ∀ (k n a m i : Nat), i + k = m → m < 1000 → a < 256 → k < n →
    loopF (granaryref02_power_b0 N) n ((a : Int), (m : Int), ((Gf.pow a i : Nat) : Int), (i : Int)) = some ((Gf.pow a m : Nat) : Int)
  | k, 0, a, m, i, hi, _, _, hn => by omega
  | 0, n + 1, a, m, i, hi, hm, ha, hn => by
    have : i = m := by omega
    subst this
    simp [loopF, granaryref02_power_b0]
  | k + 1, n + 1, a, m, i, hi, hm, ha, hn => by
    have ih := refPower_loop hN k n a m (i + 1) (by omega) hm ha (by omega)
    have e0 : decide (((i : Nat) : Int) < (m : Int)) = true := by simp; omega
    have e1 := refMul_eq hN (pow_lt (a := a) i) ha
    have e8 : wrapF .i64 ((i : Int) + 1) = ((i + 1 : Nat) : Int) := by rw [wrapF_i64 (by omega) (by omega)]; omega
    rw [← ih]
    simp only [loopF, granaryref02_power_b0, e0, e1, e8, cond_true, Option.bind_some, Gf.pow]

theorem refPower_eq {N a m : Nat} (hN : 8 < N) (hm : m < 1000) (hN2 : m < N) (ha : a < 256) : granaryref02_power N ((a : Int), (m : Int)) = some ((Gf.pow a m : Nat) : Int) := by
  have := refPower_loop hN m N a m 0 (by omega) hm ha hN2
  have e1 : ((Gf.pow a 0 : Nat) : Int) = 1 := rfl
  rw [e1] at this
  simp only [granaryref02_power, granaryref02_power_l0]
  have e0 : ((0 : Nat) : Int) = 0 := rfl
  rw [e0] at this
  rw [this]
  rfl

theorem refPow_eq {N a : Nat} {n : Int} (hN : 260 < N) (ha : a < 256) (hn : -9223372036854775808 ≤ n) (hn2 : n < 9223372036854775808) :
    granaryref02_Pow N ((a : Int), n) = some (if a = 0 then (if n = 0 then 1 else 0) else ((Gf.pow a (n % 255).toNat : Nat) : Int)) := by
  unfold granaryref02_Pow
  by_cases h0 : a = 0
  · subst h0
    by_cases h1 : n = 0
    · subst h1; rfl
    · simp [h1]
  · have e0 : decide ((a : Int) = 0) = false := by simp; exact h0
    rw [if_neg h0]
    simp only [e0, cond_false]
    have key : (cond (decide (Int.tmod n 255 < 0)) (some (wrapF .i64 (Int.tmod n 255 + 255))) (some (Int.tmod n 255))) = some (((n % 255).toNat : Nat) : Int) := by
      have hb := Int.tmod_lt_of_pos n (b := 255) (by omega)
      have hl : -255 < Int.tmod n 255 := by
        have := Int.lt_tmod_of_pos n (b := 255) (by omega)
        omega
      have hd : Int.tmod n 255 = n - 255 * Int.tdiv n 255 := by
        have := Int.tmod_add_mul_tdiv n 255
        omega
      by_cases hneg : Int.tmod n 255 < 0
      · have : decide (Int.tmod n 255 < 0) = true := by simpa using hneg
        rw [this]
        simp only [cond_true]
        rw [wrapF_i64 (by omega) (by omega)]
        congr 1
        omega
      · have : decide (Int.tmod n 255 < 0) = false := by simpa using hneg
        rw [this]
        simp only [cond_false]
        congr 1
        omega
    rw [key]
    simp only [Option.bind_some]
    rw [refPower_eq (by omega) (by omega) (by omega) ha]
    rfl

theorem refInv_eq {N a : Nat} (hN : 260 < N) (ha : a < 256) : granaryref02_Inv N (a : Int) = some (if a = 0 then (0, 20) else (((Gf.pow a 254 : Nat) : Int), 0)) := by
  unfold granaryref02_Inv
  by_cases h0 : a = 0
  · subst h0; rfl
  · have e0 : decide ((a : Int) = 0) = false := by simp; exact h0
    have := refPower_eq (N := N) (m := 254) (by omega) (by omega) (by omega) ha
    have e2 : ((254 : Nat) : Int) = 254 := rfl
    rw [e2] at this
    simp only [e0, cond_false, this, Option.bind_some, if_neg h0]

theorem refDiv_eq {N a b : Nat} (hN : 260 < N) (ha : a < 256) (hb : b < 256) :
    granaryref02_Div N ((a : Int), (b : Int)) = some (if b = 0 then (0, 20) else (((mul a (Gf.pow b 254) : Nat) : Int), 0)) := by
  unfold granaryref02_Div
  rw [refInv_eq hN hb]
  by_cases h0 : b = 0
  · subst h0
    have := refMul_eq (N := N) (by omega) ha (b := 0) (by omega)
    rw [mul_zero_right] at this
    have e0 : ((0 : Nat) : Int) = 0 := rfl
    rw [e0] at this
    simp [this]
  · simp only [if_neg h0, Option.bind_some, refMul_eq (N := N) (by omega) ha (pow_lt _)]

/-! Logarithms -/

/-- Powers of 2. -/
def pw : Nat → Nat
  | 0 => 1
  | n + 1 => xt (pw n)

theorem pw_lt (n : Nat) : pw n < 256 := by
  induction n with
  | zero => simp [pw]
  | succ n ih => exact xt_lt _ ih

theorem mul_two {x : Nat} (hx : x < 256) : mul x 2 = xt x := by
  have h1 : mul (xt x) 1 = xt x := mul_one (xt_lt x hx)
  have e : ∀ k y, mulk (k + 1) y 2 = mulk k (xt y) 1 := fun k y => by simp [mulk]
  have e2 : ∀ k y, mulk (k + 1) y 1 = y := by
    intro k y
    have hz : ∀ k y, mulk k y 0 = 0 := fun k y => by
      have := mulk_xor_right k y 0 0
      simpa using this
    simp [mulk, hz]
  show mulk (7 + 1) x 2 = _
  rw [e, e2]

theorem pw_eq (n : Nat) : pw n = Gf.pow 2 n := by
  induction n with
  | zero => rfl
  | succ n ih => simp only [pw, Gf.pow]; rw [mul_two (pow_lt _), ih]

/-- The table of logarithms, as it is made. -/
noncomputable def logs : List Int := match gf_made 300 () with
  | some r => r.2
  | none => []

theorem made_logs : ∃ E, gf_made 300 () = some (E, logs) := by
  have h : (gf_made 300 ()).isSome = true := by decide +kernel
  unfold logs
  cases hm : gf_made 300 () with
  | none => rw [hm] at h; cases h
  | some r => exact ⟨r.1, rfl⟩

theorem logs_length : logs.length = 256 := by decide +kernel
theorem logs_pw : ∀ m : Nat, m < 255 → logs.getD (pw m) 0 = m := by decide +kernel
theorem logs_all : ∀ a : Nat, a < 256 → a ≠ 0 → pw (logs.getD a 0).toNat = a ∧ 0 ≤ logs.getD a 0 ∧ logs.getD a 0 < 255 := by decide +kernel

theorem gf_Log_eq {a : Nat} (ha : a < 256) : gf_Log 300 (a : Int) = some (if a = 0 then (0, 20) else (logs.getD a 0, 0)) := by
  obtain ⟨E, hE⟩ := made_logs
  unfold gf_Log
  by_cases h0 : a = 0
  · subst h0; rfl
  · have e0 : decide ((a : Int) = 0) = false := by simp; exact h0
    have e1 : decide ((0 : Int) ≤ (a : Int)) = true := by simp
    have e2 : decide ((a : Int) < 256) = true := by simp; omega
    have e3 : decide (a < logs.length) = true := by rw [logs_length]; simpa using ha
    simp only [e0, cond_false, hE, Option.bind_some, e1, e2, Bool.and_self, cond_true, Int.toNat_natCast, e3, if_neg h0, EK.dflt]

theorem refLog_loop : ∀ (k n a m i : Nat), i + k = m → m < 255 → k < n → a = pw m →
    loopF (granaryref02_Log_b0 300) n ((a : Int), (i : Int), ((pw i : Nat) : Int)) = some (m : Int)
  | k, 0, a, m, i, hi, _, hn, _ => by omega
  | 0, n + 1, a, m, i, hi, hm, hn, ha => by
    have : i = m := by omega
    subst this; subst ha
    simp [loopF, granaryref02_Log_b0]
  | k + 1, n + 1, a, m, i, hi, hm, hn, ha => by
    have ih := refLog_loop k n a m (i + 1) (by omega) hm (by omega) ha
    have hne : ¬ pw i = a := by
      intro h
      have h1 := logs_pw i (by omega)
      have h2 := logs_pw m (by omega)
      rw [h, ha, h2] at h1
      omega
    have e0 : decide (((pw i : Nat) : Int) = (a : Int)) = false := by rw [deq]; simpa using hne
    have e1 := refMul_eq (N := 300) (by omega) (pw_lt i) (b := 2) (by omega)
    rw [mul_two (pw_lt i)] at e1
    have e2 : ((2 : Nat) : Int) = 2 := rfl
    rw [e2] at e1
    have e8 : wrapF .i64 ((i : Int) + 1) = ((i + 1 : Nat) : Int) := by rw [wrapF_i64 (by omega) (by omega)]; omega
    rw [← ih]
    simp only [loopF, granaryref02_Log_b0, e0, e1, e8, Bool.not_false, cond_true, Option.bind_some, pw]

theorem refLog_eq {a : Nat} (ha : a < 256) : granaryref02_Log 300 (a : Int) = some (if a = 0 then (0, 20) else (logs.getD a 0, 0)) := by
  unfold granaryref02_Log
  by_cases h0 : a = 0
  · subst h0; rfl
  · have e0 : decide ((a : Int) = 0) = false := by simp; exact h0
    obtain ⟨h1, h2, h3⟩ := logs_all a ha h0
    have := refLog_loop (logs.getD a 0).toNat 300 a (logs.getD a 0).toNat 0 (by omega) (by omega) (by omega) h1.symm
    have e1 : ((0 : Nat) : Int) = 0 := rfl
    have e2 : ((pw 0 : Nat) : Int) = 1 := rfl
    rw [e1, e2] at this
    simp only [e0, cond_false, granaryref02_Log_l0, this, Option.bind_some, if_neg h0]
    rw [Int.toNat_of_nonneg h2]

theorem gf_Exp_eq {N : Nat} {n : Int} (hN : 12 < N) (hn : -9223372036854775808 ≤ n) (hn2 : n < 9223372036854775808) : gf_Exp N n = some ((Gf.pow 2 (n % 255).toNat : Nat) : Int) := by
  unfold gf_Exp
  have := gf_Pow_eq (N := N) (a := 2) (n := n) hN (by omega) hn hn2
  rw [if_neg (by omega)] at this
  have e2 : ((2 : Nat) : Int) = 2 := rfl
  rw [e2] at this
  rw [this]
  rfl

end Go.Rf.W
