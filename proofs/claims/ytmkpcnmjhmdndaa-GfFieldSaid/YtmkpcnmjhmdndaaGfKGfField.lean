/-
  The law's printed function is what the program does.
-/
import Derived.Test.YtmkpcnmjhmdndaaGfK0
import Derived.Test.YtmkpcnmjhmdndaaGfFGfField
set_option linter.unusedVariables false
set_option maxRecDepth 100000
namespace Go.Rf.W
open Go Go.Rf Go.Proofs
noncomputable def granarylaw02_GfField_c : Code := codeOf Try.f3.body
noncomputable def granarylaw02_GfField_J (N : Nat) : Nat → Hint := fun cx => hintOf cx [(0, { reg := fun k => assoc0 k [(1, ⟨⟨[(61, (.av (.one .bool)))], []⟩, [], [], [.bool]⟩), (4, ⟨⟨[(95, (.av (.one .bool)))], []⟩, [], [], [.bool]⟩)], cnd := fun k => assoc0 k [], loop := fun k => assoc0 k [], nil := fun k => assoc0 k [], unr := fun k => assocN k [], blk := fun k => assoc0 k [] })]
noncomputable def granarylaw02_GfField_C (N : Nat) : Nat → List GS := fun k => tabOf k [(12, [gf_Mul_g N]), (13, [gf_Add_g N]), (14, [gf_Inv_g N]), (15, [granarylaw02_num_g N]), (16, [granarylaw02_live_g N])]
def granarylaw02_GfField_o : Shp := ⟨[(0, (.av (.one .bool)))], []⟩
noncomputable def granarylaw02_GfField_g (N : Nat) : GS := { ins := ⟨[(0, (.av (.one (.int .u8)))), (1, (.av (.one (.int .u8)))), (2, (.av (.one (.int .u8))))], []⟩, lend := [.keep, .keep, .keep], outs := ssOf granarylaw02_GfField_o, its := [.int, .int, .int], ots := [.bool], F := granarylaw02_GfField N }
theorem granarylaw02_GfField_t (N : Nat) : TabC Try.prog (granarylaw02_GfField_C N) := tab_ok ⟨⟨gf_Mul_ok N, trivial⟩, ⟨gf_Add_ok N, trivial⟩, ⟨gf_Inv_ok N, trivial⟩, ⟨granarylaw02_num_ok N, trivial⟩, ⟨granarylaw02_live_ok N, trivial⟩, trivial⟩
theorem granarylaw02_GfField_i : loopsOf granarylaw02_GfField_c = [] := by kernel_rfl
theorem granarylaw02_GfField_e (N : Nat) (x) : (granarylaw02_GfField_g N).F x = fnStep Γ (granarylaw02_GfField_C N) (granarylaw02_GfField_J N) 97 Try.f3.results.toList (granarylaw02_GfField_g N) granarylaw02_GfField_o granarylaw02_GfField_c x := by kernel_rfl
theorem granarylaw02_GfField_y : Try.f3.body = some granarylaw02_GfField_c := by kernel_rfl
theorem granarylaw02_GfField_n : (Try.f3.name == "runtime.NumGoroutine") = false := by kernel_rfl
theorem granarylaw02_GfField_ok (N : Nat) : FnDoes Try.prog 3 (granarylaw02_GfField_g N) := fn_ok tabOK (granarylaw02_GfField_t N) mixedOK (J := granarylaw02_GfField_J N) (body := granarylaw02_GfField_c) Try.func3 granarylaw02_GfField_y granarylaw02_GfField_n Try.ntmps3 (jok_from granarylaw02_GfField_i ⟨trivial, trivial⟩) rfl (le_of_ble rfl) (le_of_ble rfl) (granarylaw02_GfField_e N)
end Go.Rf.W
