/-
  The law's printed function is what the program does.
-/
import Derived.Test.YtmkpcnmjhmdndaaGfK0
import Derived.Test.YtmkpcnmjhmdndaaGfFGfPowers
set_option linter.unusedVariables false
set_option maxRecDepth 100000
namespace Go.Rf.W
open Go Go.Rf Go.Proofs
noncomputable def granarylaw02_GfPowers_c : Code := codeOf Try.f6.body
noncomputable def granarylaw02_GfPowers_J (N : Nat) : Nat → Hint := fun cx => hintOf cx [(0, { reg := fun k => assoc0 k [(3, ⟨⟨[(44, (.av (.one .bool)))], [(.keep, true), (.keep, true), (.keep, true), (.keep, false)]⟩, [], [], [.bool]⟩), (5, ⟨⟨[(62, (.av (.one .bool)))], [(.keep, true), (.keep, true), (.keep, true), (.keep, false)]⟩, [], [], [.bool]⟩), (8, ⟨⟨[(2, (.av (.one .bool)))], [(.keep, true), (.keep, true), (.keep, true), (.keep, false)]⟩, [], [], [.bool]⟩)], cnd := fun k => assoc0 k [], loop := fun k => assoc0 k [], nil := fun k => assoc0 k [], unr := fun k => assocN k [], blk := fun k => assoc0 k [] })]
noncomputable def granarylaw02_GfPowers_C (N : Nat) : Nat → List GS := fun k => tabOf k [(13, [gf_Add_g N]), (12, [gf_Mul_g N]), (28, [gf_Pow_g N]), (16, [granarylaw02_live_g N]), (25, [gf_Log_g N]), (15, [granarylaw02_num_g N]), (30, [gf_Exp_g N])]
def granarylaw02_GfPowers_o : Shp := ⟨[(0, (.av (.one .bool)))], []⟩
noncomputable def granarylaw02_GfPowers_g (N : Nat) : GS := { ins := ⟨[(0, (.av (.agg [(.one (.int .u8)), (.one (.int .u8)), (.one (.int .i64)), (.one (.int .i64))])))], []⟩, lend := [.keep], outs := ssOf granarylaw02_GfPowers_o, its := [.int, .int, .int, .int], ots := [.bool], F := granarylaw02_GfPowers N }
theorem granarylaw02_GfPowers_t (N : Nat) : TabC Try.prog (granarylaw02_GfPowers_C N) := tab_ok ⟨⟨gf_Add_ok N, trivial⟩, ⟨gf_Mul_ok N, trivial⟩, ⟨gf_Pow_ok N, trivial⟩, ⟨granarylaw02_live_ok N, trivial⟩, ⟨gf_Log_ok N, trivial⟩, ⟨granarylaw02_num_ok N, trivial⟩, ⟨gf_Exp_ok N, trivial⟩, trivial⟩
theorem granarylaw02_GfPowers_i : loopsOf granarylaw02_GfPowers_c = [] := by kernel_rfl
theorem granarylaw02_GfPowers_e (N : Nat) (x) : (granarylaw02_GfPowers_g N).F x = fnStep Γ (granarylaw02_GfPowers_C N) (granarylaw02_GfPowers_J N) 109 Try.f6.results.toList (granarylaw02_GfPowers_g N) granarylaw02_GfPowers_o granarylaw02_GfPowers_c x := by kernel_rfl
theorem granarylaw02_GfPowers_y : Try.f6.body = some granarylaw02_GfPowers_c := by kernel_rfl
theorem granarylaw02_GfPowers_n : (Try.f6.name == "runtime.NumGoroutine") = false := by kernel_rfl
theorem granarylaw02_GfPowers_ok (N : Nat) : FnDoes Try.prog 6 (granarylaw02_GfPowers_g N) := fn_ok tabOK (granarylaw02_GfPowers_t N) mixedOK (J := granarylaw02_GfPowers_J N) (body := granarylaw02_GfPowers_c) Try.func6 granarylaw02_GfPowers_y granarylaw02_GfPowers_n Try.ntmps6 (jok_from granarylaw02_GfPowers_i ⟨trivial, trivial⟩) rfl (le_of_ble rfl) (le_of_ble rfl) (granarylaw02_GfPowers_e N)
end Go.Rf.W
