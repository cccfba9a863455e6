/-
  Sums, products, quotients, inverses, logarithms, powers: the program's printed functions answer as the reference's.
-/
import Derived.Test.YtmkpcnmjhmdndaaGfFGfElements
import Derived.Test.YtmkpcnmjhmdndaaPlGfLog
import Derived.Test.YtmkpcnmjhmdndaaRfC
set_option linter.unusedVariables false
set_option linter.unusedSimpArgs false
namespace Go.Rf.W.Pure
open Go Go.Rf Go.Rf.W Go.Rf.Gf

theorem live300e : granarylaw02_live 300 () = some true := by decide +kernel

theorem gfElements (x : EKs [(.int .u8), (.int .u8), (.int .i64)]) (hw : wfs [(.int .u8), (.int .u8), (.int .i64)] x) : ∃ N, granarylaw02_GfElements N (x.1, x.2.1, x.2.2) = some true := by
  obtain ⟨x1, x2, n⟩ := x
  obtain ⟨h1, h2, h3⟩ := hw
  have hu : ∀ {n : Int}, EK.wf (.int .u8) n → ∃ m : Nat, n = (m : Int) ∧ m < 256 := fun {n} h => by
    have h' : 0 ≤ n ∧ n ≤ 255 := by simpa [EK.wf, Lit.wf, IntKind.min, IntKind.max, IntKind.signed, IntKind.bits] using h
    exact ⟨n.toNat, by omega, by omega⟩
  obtain ⟨a, e1, ha⟩ := hu h1
  obtain ⟨b, e2, hb⟩ := hu h2
  change Int at n
  have h3' : EK.wf (.int .i64) n := h3
  have hn : -9223372036854775808 ≤ n ∧ n ≤ 9223372036854775807 := by simpa [EK.wf, Lit.wf, IntKind.min, IntKind.max, IntKind.signed, IntKind.bits] using h3'
  simp only at e1 e2
  subst e1; subst e2
  refine ⟨300, ?_⟩
  have m1 := gf_Div_eq (N := 300) (by omega) ha hb
  have m2 := refDiv_eq (N := 300) (by omega) ha hb
  have m3 := gf_Inv_eq (N := 300) (by omega) ha
  have m4 := refInv_eq (N := 300) (by omega) ha
  have m5 := gf_Log_eq ha
  have m6 := refLog_eq ha
  have m7 := gf_Add_eq ha hb
  have m8 : xorF .u8 (a : Int) (b : Int) = ((a ^^^ b : Nat) : Int) := xorF_nat .u8 (by simpa [topA] using ha) (by simpa [topA] using hb)
  have m9 := gf_Mul_eq (N := 300) (by omega) ha hb
  have m10 := refMul_eq (N := 300) (by omega) ha hb
  have m11 := gf_Pow_eq (N := 300) (n := n) (by omega) ha (by omega) (by omega)
  have m12 := refPow_eq (N := 300) (n := n) (by omega) ha (by omega) (by omega)
  have m13 := gf_Exp_eq (N := 300) (n := n) (by omega) (by omega) (by omega)
  have m14 := refPow_eq (N := 300) (a := 2) (n := n) (by omega) (by omega) (by omega) (by omega)
  rw [if_neg (by omega)] at m14
  have e2 : ((2 : Nat) : Int) = 2 := rfl
  rw [e2] at m14
  simp only [granarylaw02_GfElements, m1, m2, m3, m4, m5, m6, m7, m8, m9, m10, m11, m12, m13, m14, Option.bind_some, granarylaw02_num, decide_true, cond_true, live300e]

end Go.Rf.W.Pure
