/-
  The law's printed function is what the program does.
-/
import Derived.Test.YtmkpcnmjhmdndaaGfK0
import Derived.Test.YtmkpcnmjhmdndaaGfFGfElements
set_option linter.unusedVariables false
set_option maxRecDepth 100000
namespace Go.Rf.W
open Go Go.Rf Go.Proofs
noncomputable def granarylaw02_GfElements_c : Code := codeOf Try.f5.body
noncomputable def granarylaw02_GfElements_J (N : Nat) : Nat → Hint := fun cx => hintOf cx [(0, { reg := fun k => assoc0 k [(7, ⟨⟨[(6, (.av (.one .bool)))], []⟩, [], [], [.bool]⟩)], cnd := fun k => assoc0 k [], loop := fun k => assoc0 k [], nil := fun k => assoc0 k [], unr := fun k => assocN k [], blk := fun k => assoc0 k [] })]
noncomputable def granarylaw02_GfElements_C (N : Nat) : Nat → List GS := fun k => tabOf k [(22, [gf_Div_g N]), (23, [granaryref02_Div_g N]), (14, [gf_Inv_g N]), (24, [granaryref02_Inv_g N]), (25, [gf_Log_g N]), (26, [granaryref02_Log_g N]), (13, [gf_Add_g N]), (12, [gf_Mul_g N]), (27, [granaryref02_Mul_g N]), (15, [granarylaw02_num_g N]), (28, [gf_Pow_g N]), (29, [granaryref02_Pow_g N]), (30, [gf_Exp_g N]), (16, [granarylaw02_live_g N])]
def granarylaw02_GfElements_o : Shp := ⟨[(0, (.av (.one .bool)))], []⟩
noncomputable def granarylaw02_GfElements_g (N : Nat) : GS := { ins := ⟨[(0, (.av (.one (.int .u8)))), (1, (.av (.one (.int .u8)))), (2, (.av (.one (.int .i64))))], []⟩, lend := [.keep, .keep, .keep], outs := ssOf granarylaw02_GfElements_o, its := [.int, .int, .int], ots := [.bool], F := granarylaw02_GfElements N }
theorem granarylaw02_GfElements_t (N : Nat) : TabC Try.prog (granarylaw02_GfElements_C N) := tab_ok ⟨⟨gf_Div_ok N, trivial⟩, ⟨granaryref02_Div_ok N, trivial⟩, ⟨gf_Inv_ok N, trivial⟩, ⟨granaryref02_Inv_ok N, trivial⟩, ⟨gf_Log_ok N, trivial⟩, ⟨granaryref02_Log_ok N, trivial⟩, ⟨gf_Add_ok N, trivial⟩, ⟨gf_Mul_ok N, trivial⟩, ⟨granaryref02_Mul_ok N, trivial⟩, ⟨granarylaw02_num_ok N, trivial⟩, ⟨gf_Pow_ok N, trivial⟩, ⟨granaryref02_Pow_ok N, trivial⟩, ⟨gf_Exp_ok N, trivial⟩, ⟨granarylaw02_live_ok N, trivial⟩, trivial⟩
theorem granarylaw02_GfElements_i : loopsOf granarylaw02_GfElements_c = [] := by kernel_rfl
theorem granarylaw02_GfElements_e (N : Nat) (x) : (granarylaw02_GfElements_g N).F x = fnStep Γ (granarylaw02_GfElements_C N) (granarylaw02_GfElements_J N) 119 Try.f5.results.toList (granarylaw02_GfElements_g N) granarylaw02_GfElements_o granarylaw02_GfElements_c x := by kernel_rfl
theorem granarylaw02_GfElements_y : Try.f5.body = some granarylaw02_GfElements_c := by kernel_rfl
theorem granarylaw02_GfElements_n : (Try.f5.name == "runtime.NumGoroutine") = false := by kernel_rfl
theorem granarylaw02_GfElements_ok (N : Nat) : FnDoes Try.prog 5 (granarylaw02_GfElements_g N) := fn_ok tabOK (granarylaw02_GfElements_t N) mixedOK (J := granarylaw02_GfElements_J N) (body := granarylaw02_GfElements_c) Try.func5 granarylaw02_GfElements_y granarylaw02_GfElements_n Try.ntmps5 (jok_from granarylaw02_GfElements_i ⟨trivial, trivial⟩) rfl (le_of_ble rfl) (le_of_ble rfl) (granarylaw02_GfElements_e N)
end Go.Rf.W
