/-
  Powers add, come again, and squares add, of the printed functions.
-/
import Derived.Test.YtmkpcnmjhmdndaaGfFGfPowers
import Derived.Test.YtmkpcnmjhmdndaaPlGfLog
import Derived.Test.YtmkpcnmjhmdndaaRfC
set_option linter.unusedVariables false
set_option linter.unusedSimpArgs false
namespace Go.Rf.W.Pure
open Go Go.Rf Go.Rf.W Go.Rf.Gf

theorem live300 : granarylaw02_live 300 () = some true := by decide +kernel

theorem u8_nat {n : Int} (h : EK.wf (.int .u8) n) : ∃ m : Nat, n = (m : Int) ∧ m < 256 := by
  have h' : 0 ≤ n ∧ n ≤ 255 := by simpa [EK.wf, Lit.wf, IntKind.min, IntKind.max, IntKind.signed, IntKind.bits] using h
  exact ⟨n.toNat, by omega, by omega⟩

theorem i64_bd {n : Int} (h : EK.wf (.int .i64) n) : -9223372036854775808 ≤ n ∧ n < 9223372036854775808 := by
  have h' : -9223372036854775808 ≤ n ∧ n ≤ 9223372036854775807 := by simpa [EK.wf, Lit.wf, IntKind.min, IntKind.max, IntKind.signed, IntKind.bits] using h
  omega

theorem pow_per {a : Nat} (ha : a < 256) (h : a ≠ 0) (k q : Nat) : Gf.pow a (k + 255 * q) = Gf.pow a k := by
  induction q with
  | zero => rfl
  | succ q ih => rw [show k + 255 * (q + 1) = (k + 255 * q) + 255 by omega, Gf.pow_add ha, pow_255 ha h, Gf.mul_one (pow_lt _), ih]

theorem pow_sum {a : Nat} (ha : a < 256) (h : a ≠ 0) (m n : Int) : mul (Gf.pow a (m % 255).toNat) (Gf.pow a (n % 255).toNat) = Gf.pow a ((m + n) % 255).toNat := by
  rw [← Gf.pow_add ha]
  have h1 : (m % 255).toNat + (n % 255).toNat = ((m + n) % 255).toNat ∨ (m % 255).toNat + (n % 255).toNat = ((m + n) % 255).toNat + 255 * 1 := by omega
  rcases h1 with h1 | h1
  · rw [h1]
  · rw [h1, pow_per ha h]

theorem gfPowers (x : EKs [(.pair (.int .u8) (.pair (.int .u8) (.pair (.int .i64) (.pair (.int .i64) .unit))))]) (hw : wfs [(.pair (.int .u8) (.pair (.int .u8) (.pair (.int .i64) (.pair (.int .i64) .unit))))] x) : ∃ N, granarylaw02_GfPowers N (x.1, x.2.1, x.2.2.1, x.2.2.2.1) = some true := by
  obtain ⟨x1, x2, m, n, u⟩ := x
  change Int at m n
  obtain ⟨h1, h2, h3, h4, _⟩ := hw
  obtain ⟨a, e1, ha⟩ := u8_nat h1
  obtain ⟨b, e2, hb⟩ := u8_nat h2
  have hm := i64_bd h3
  have hn := i64_bd h4
  simp only at e1 e2 hm hn
  subst e1; subst e2
  refine ⟨300, ?_⟩
  have hs : a ^^^ b < 256 := Nat.xor_lt_two_pow (n := 8) ha hb
  have haa := mul_lt a ha
  have hbb := mul_lt b hb
  have m1 := gf_Add_eq ha hb
  have m2 := gf_Mul_eq (N := 300) (by omega) hs hs
  have m3 := gf_Mul_eq (N := 300) (by omega) ha ha
  have m4 := gf_Mul_eq (N := 300) (by omega) hb hb
  have m5 := gf_Add_eq haa hbb
  have hsq : mul (a ^^^ b) (a ^^^ b) = mul a a ^^^ mul b b := by
    rw [mul_xor_left _ ha hb, mul_xor_right, mul_xor_right, mul_comm hb ha, Nat.xor_assoc, ← Nat.xor_assoc (mul a b), Nat.xor_self, Nat.zero_xor]
  have m6 := gf_Pow_eq (N := 300) (n := 2) (by omega) hs (by omega) (by omega)
  have m7 := gf_Pow_eq (N := 300) (n := 0) (by omega) ha (by omega) (by omega)
  have p2 : (if a ^^^ b = 0 then (if (2 : Int) = 0 then (1 : Int) else 0) else ((Gf.pow (a ^^^ b) ((2 : Int) % 255).toNat : Nat) : Int)) = ((mul a a ^^^ mul b b : Nat) : Int) := by
    rw [← hsq]
    by_cases h0 : a ^^^ b = 0
    · rw [h0, mul_zero_left]; rfl
    · rw [if_neg h0]
      have : ((2 : Int) % 255).toNat = 2 := rfl
      rw [this]
      show ((mul (mul 1 (a ^^^ b)) (a ^^^ b) : Nat) : Int) = _
      rw [one_mul hs]
  rw [p2] at m6
  have p0 : (if a = 0 then (if (0 : Int) = 0 then (1 : Int) else 0) else ((Gf.pow a ((0 : Int) % 255).toNat : Nat) : Int)) = 1 := by
    by_cases h0 : a = 0
    · simp [h0]
    · rw [if_neg h0]; rfl
  rw [p0] at m7
  simp only [granarylaw02_GfPowers, m1, m2, m3, m4, m5, hsq, Option.bind_some, decide_true, Bool.not_true, cond_false, m6, m7, deq0]
  by_cases h0 : a = 0
  · simp [h0, live300]
  by_cases g1 : (2305843009213693952 : Int) < m
  · simp [h0, g1, live300]
  by_cases g2 : m < (-2305843009213693952 : Int)
  · simp [h0, g1, g2, live300]
  by_cases g3 : (2305843009213693952 : Int) < n
  · simp [h0, g1, g2, g3, live300]
  by_cases g4 : n < (-2305843009213693952 : Int)
  · simp [h0, g1, g2, g3, g4, live300]
  have w1 : wrapF .i64 (m + n) = m + n := wrapF_i64 (by omega) (by omega)
  have m8 := gf_Pow_eq (N := 300) (n := m) (by omega) ha (by omega) (by omega)
  have m9 := gf_Pow_eq (N := 300) (n := n) (by omega) ha (by omega) (by omega)
  have m10 := gf_Pow_eq (N := 300) (n := m + n) (by omega) ha (by omega) (by omega)
  have m11 := gf_Pow_eq (N := 300) (n := 255) (by omega) ha (by omega) (by omega)
  rw [if_neg h0] at m8 m9 m10 m11
  have m12 := gf_Mul_eq (N := 300) (by omega) (pow_lt (a := a) (m % 255).toNat) (pow_lt (a := a) (n % 255).toNat)
  rw [pow_sum ha h0] at m12
  have e255 : ((Gf.pow a ((255 : Int) % 255).toNat : Nat) : Int) = 1 := rfl
  rw [e255] at m11
  have m13 := gf_Log_eq ha
  rw [if_neg h0] at m13
  obtain ⟨l1, l2, l3⟩ := logs_all a ha h0
  have m14 := gf_Exp_eq (N := 300) (n := logs.getD a 0) (by omega) (by omega) (by omega)
  have e14 : ((logs.getD a 0) % 255).toNat = (logs.getD a 0).toNat := by
    rw [Int.emod_eq_of_lt l2 l3]
  rw [e14, ← pw_eq, l1] at m14
  generalize logs.getD a 0 = l at m13 m14 l2 l3
  simp [h0, g1, g2, g3, g4, m8, m9, m10, m11, m12, m13, m14, w1, granarylaw02_num, l2, l3, live300]

end Go.Rf.W.Pure
