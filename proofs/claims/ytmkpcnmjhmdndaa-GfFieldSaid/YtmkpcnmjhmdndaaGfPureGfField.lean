/-
  The laws of a field, of the printed functions.
-/
import Derived.Test.YtmkpcnmjhmdndaaGfFGfField
import Derived.Test.YtmkpcnmjhmdndaaPlGfMul
import Derived.Test.YtmkpcnmjhmdndaaRfC
set_option linter.unusedVariables false
set_option linter.unusedSimpArgs false
namespace Go.Rf.W.Pure
open Go Go.Rf Go.Rf.W Go.Rf.Gf

theorem live20 : granarylaw02_live 20 () = some true := by decide +kernel

theorem u8_nat {n : Int} (h : EK.wf (.int .u8) n) : ∃ m : Nat, n = (m : Int) ∧ m < 256 := by
  have h' : 0 ≤ n ∧ n ≤ 255 := by simpa [EK.wf, Lit.wf, IntKind.min, IntKind.max, IntKind.signed, IntKind.bits] using h
  exact ⟨n.toNat, by omega, by omega⟩

theorem deq (a b : Nat) : decide (((a : Nat) : Int) = ((b : Nat) : Int)) = decide (a = b) := decide_eq_decide.2 (by omega)
theorem deq0 (a : Nat) : decide (((a : Nat) : Int) = 0) = decide (a = 0) := decide_eq_decide.2 (by omega)

theorem gfField (x : EKs [(.int .u8), (.int .u8), (.int .u8)]) (hw : wfs [(.int .u8), (.int .u8), (.int .u8)] x) : ∃ N, granarylaw02_GfField N (x.1, x.2.1, x.2.2) = some true := by
  obtain ⟨x1, x2, x3⟩ := x
  obtain ⟨h1, h2, h3⟩ := hw
  obtain ⟨a, e1, ha⟩ := u8_nat h1
  obtain ⟨b, e2, hb⟩ := u8_nat h2
  obtain ⟨c, e3, hc⟩ := u8_nat h3
  simp only at e1 e2 e3
  subst e1; subst e2; subst e3
  refine ⟨20, ?_⟩
  have hab := mul_lt b ha
  have hbc := mul_lt c hb
  have hac := mul_lt c ha
  have hxbc : b ^^^ c < 256 := Nat.xor_lt_two_pow (n := 8) hb hc
  have m1 := gf_Mul_eq (N := 20) (by omega) ha hb
  have m2 := gf_Mul_eq (N := 20) (by omega) hb ha
  have m3 := gf_Mul_eq (N := 20) (by omega) hab hc
  have m4 := gf_Mul_eq (N := 20) (by omega) hb hc
  have m5 := gf_Mul_eq (N := 20) (by omega) ha hbc
  have m6 := gf_Add_eq hb hc
  have m7 := gf_Mul_eq (N := 20) (by omega) ha hxbc
  have m8 := gf_Mul_eq (N := 20) (by omega) ha hc
  have m9 := gf_Add_eq hab hac
  have m10 : gf_Mul 20 ((a : Int), 1) = some ((a : Nat) : Int) := by
    have := gf_Mul_eq (N := 20) (by omega) ha (b := 1) (by omega)
    rw [mul_one ha] at this
    exact this
  have m11 : gf_Add ((a : Int), 0) = some ((a : Nat) : Int) := by
    have := gf_Add_eq ha (b := 0) (by omega)
    rw [Nat.xor_zero] at this
    exact this
  have m12 : gf_Add ((a : Int), (a : Int)) = some 0 := by
    have := gf_Add_eq ha ha
    rw [Nat.xor_self] at this
    exact this
  have m13 := gf_Inv_eq (N := 20) (by omega) ha
  have hcm : mul a b = mul b a := mul_comm ha hb
  have hassoc : mul (mul a b) c = mul a (mul b c) := mul_assoc ha hb hc
  have hdist : mul a (b ^^^ c) = mul a b ^^^ mul a c := mul_xor_right a b c
  simp only [granarylaw02_GfField, m1, m2, Option.bind_some, ← hcm, decide_true, Bool.not_true, cond_false, m3, m4, m5, hassoc, m6, m7, m8, m9, ← hdist, m10, m11, m12, m13, granarylaw02_num, live20, deq, deq0]
  by_cases h0 : a = 0
  · subst h0
    simp [mul_zero_left]
  · have hinv := mul_inv ha h0
    have m14 := gf_Mul_eq (N := 20) (by omega) ha (pow_lt (a := a) 254)
    rw [hinv] at m14
    have hz := mul_eq_zero ha hb
    simp only [if_neg h0, m14, Option.bind_some]
    by_cases hb0 : b = 0
    · subst hb0; simp [mul_zero_right, h0]
    · have : ¬ mul a b = 0 := fun h => (hz.1 h).elim h0 hb0
      simp [h0, hb0, this]

end Go.Rf.W.Pure
