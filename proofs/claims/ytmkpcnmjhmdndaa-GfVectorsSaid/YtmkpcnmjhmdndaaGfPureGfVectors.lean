/-
  Every vectors, every polynomials, every points: the plain law.
-/
import Derived.Test.YtmkpcnmjhmdndaaGfFGfVectors
import Derived.Test.YtmkpcnmjhmdndaaPlGfThr2
import Derived.Test.YtmkpcnmjhmdndaaRfC
set_option linter.unusedVariables false
set_option linter.unusedSimpArgs false
namespace Go.Rf.W.Pure
open Go Go.Rf Go.Rf.W Go.Rf.Lin

theorem live600 : granarylaw02_live 600 () = some true := by decide +kernel
theorem num_eq (x : Int) : granarylaw02_num x = some x := rfl

theorem u8s {J : List Int} (h1 : EK.wf (.sl (.int .u8)) J) : ∀ y, y ∈ J → 0 ≤ y ∧ y < 256 := by
  intro y hy
  have h2 : EK.wf (.int .u8) y := h1.2 y hy
  have h3 : 0 ≤ y ∧ y ≤ 255 := by simpa [EK.wf, Lit.wf, IntKind.min, IntKind.max, IntKind.signed, IntKind.bits] using h2
  omega

theorem vmain {N : Nat} {c : Int} {V W : List Int} (hlive : granarylaw02_live N () = some true) (lV : V.length ≤ 200) (lW : W.length ≤ 200)
    {rS : Int × List Int} (s1 : gf_Sum N (V, W) = some rS) (s2 : granaryref02_Sum N (V, W) = some rS)
    {rT : Int × List Int} (t1 : gf_Through N (V, W) = some rT) (t2 : granaryref02_Through N (V, W) = some rT)
    {rC : List Int} (c1 : gf_Scale N (c, V) = some rC) (c2 : granaryref02_Scale N (c, V) = some rC)
    {rE : Int} (e1 : gf_Eval N (V, c) = some rE) (e2 : granaryref02_Eval N (V, c) = some rE) : granarylaw02_GfVectors N (c, V, W) = some true := by
  have d1 : ¬ ((200 : Int) < ((V.length : Nat) : Int)) := by omega
  have d2 : ¬ ((200 : Int) < ((W.length : Nat) : Int)) := by omega
  have f1 : fits 1 V.length = true := by simp [fits]; omega
  have f2 : fits 1 W.length = true := by simp [fits]; omega
  unfold granarylaw02_GfVectors
  dsimp only
  rw [dF d1, cond_false, dF d2, Option.bind_some, cond_false, f1, cond_true, f2, cond_true, s1, Option.bind_some, s2, Option.bind_some, t1, Option.bind_some, t2, Option.bind_some, c1, Option.bind_some, c2, Option.bind_some]
  repeat (first | rw [dT rfl] | rw [cond_true] | rw [Option.bind_some] | rw [num_eq] | rw [e1] | rw [e2] | rw [hlive])

theorem gfVectors (x : EKs [(.int .u8), (.sl (.int .u8)), (.sl (.int .u8))]) (hw : wfs [(.int .u8), (.sl (.int .u8)), (.sl (.int .u8))] x) : ∃ N, granarylaw02_GfVectors N (x.1, x.2.1, x.2.2) = some true := by
  obtain ⟨c, V, W⟩ := x
  change Int at c
  change List Int at V W
  have hV := u8s (J := V) hw.2.1
  have hW := u8s (J := W) hw.2.2
  have hc : 0 ≤ c ∧ c ≤ 255 := by
    have h2 : EK.wf (.int .u8) c := hw.1
    simpa [EK.wf, Lit.wf, IntKind.min, IntKind.max, IntKind.signed, IntKind.bits] using h2
  refine ⟨600, ?_⟩
  show granarylaw02_GfVectors 600 (c, V, W) = some true
  by_cases d1 : (200 : Int) < ((V.length : Nat) : Int)
  · simp only [granarylaw02_GfVectors, dT d1, Option.bind_some, cond_true, live600]
  by_cases d2 : (200 : Int) < ((W.length : Nat) : Int)
  · simp only [granarylaw02_GfVectors, dF d1, dT d2, Option.bind_some, cond_true, cond_false, live600]
  obtain ⟨g, rfl⟩ : ∃ g : G, c = (g.n : Int) := ⟨G.of c.toNat, by rw [G.of_n (by omega)]; omega⟩
  have vV := Vec.of hV
  have vW := Vec.of hW
  obtain ⟨rC, c1, c2⟩ := scale_same (N := 600) (by omega) (by omega) g vV
  have e1 := evalG (N := 600) (by omega) g vV (by omega)
  have e2 := revalG (N := 600) g (by omega) vV (by omega)
  by_cases hl : V.length = W.length
  · rw [← hl] at vW
    have vW' : Vec V.length W _ := vW
    obtain ⟨rS, s1, s2⟩ := sum_same (N := 600) (by omega) (by omega) vV vW'
    obtain ⟨rT, t1, t2⟩ := through_same (N := 600) (by omega) (by omega) vV vW'
    exact vmain live600 (by omega) (by omega) s1 s2 t1 t2 c1 c2 e1 e2
  · exact vmain live600 (by omega) (by omega) (sum_side hl).1 (sum_side hl).2 (through_side2 hl).1 (through_side2 hl).2 c1 c2 e1 e2

end Go.Rf.W.Pure
