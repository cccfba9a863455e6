/-
  The law's printed function is what the program does.
-/
import Derived.Test.YtmkpcnmjhmdndaaGfK0
import Derived.Test.YtmkpcnmjhmdndaaGfFGfMakes
set_option linter.unusedVariables false
set_option maxRecDepth 100000
namespace Go.Rf.W
open Go Go.Rf Go.Proofs
noncomputable def granarylaw02_GfMakes_c : Code := codeOf Try.f4.body
noncomputable def granarylaw02_GfMakes_J (N : Nat) : Nat → Hint := fun cx => hintOf cx [(0, { reg := fun k => assoc0 k [(5, ⟨⟨[(4, (.av (.one .bool)))], [(.keep, false), (.keep, true), (.keep, true), (.keep, false), (.keep, false), (.keep, true), (.keep, true), (.keep, false), (.keep, false), (.keep, true), (.keep, true), (.keep, false), (.keep, false), (.keep, true), (.keep, true), (.keep, false)]⟩, [], [], [.bool]⟩)], cnd := fun k => assoc0 k [], loop := fun k => assoc0 k [], nil := fun k => assoc0 k [], unr := fun k => assocN k [], blk := fun k => assoc0 k [] })]
noncomputable def granarylaw02_GfMakes_C (N : Nat) : Nat → List GS := fun k => tabOf k [(17, [gf_Identity_g N]), (18, [granaryref02_Identity_g N]), (19, [gf_Powers_g N]), (20, [granaryref02_Powers_g N]), (21, [granarylaw02_same_g N]), (16, [granarylaw02_live_g N])]
def granarylaw02_GfMakes_o : Shp := ⟨[(0, (.av (.one .bool)))], []⟩
noncomputable def granarylaw02_GfMakes_g (N : Nat) : GS := { ins := ⟨[(0, (.av (.one (.int .i64)))), (1, (.av (.one (.int .i64))))], []⟩, lend := [.keep, .keep], outs := ssOf granarylaw02_GfMakes_o, its := [.int, .int], ots := [.bool], F := granarylaw02_GfMakes N }
theorem granarylaw02_GfMakes_t (N : Nat) : TabC Try.prog (granarylaw02_GfMakes_C N) := tab_ok ⟨⟨gf_Identity_ok N, trivial⟩, ⟨granaryref02_Identity_ok N, trivial⟩, ⟨gf_Powers_ok N, trivial⟩, ⟨granaryref02_Powers_ok N, trivial⟩, ⟨granarylaw02_same_ok N, trivial⟩, ⟨granarylaw02_live_ok N, trivial⟩, trivial⟩
theorem granarylaw02_GfMakes_i : loopsOf granarylaw02_GfMakes_c = [] := by kernel_rfl
theorem granarylaw02_GfMakes_e (N : Nat) (x) : (granarylaw02_GfMakes_g N).F x = fnStep Γ (granarylaw02_GfMakes_C N) (granarylaw02_GfMakes_J N) 50 Try.f4.results.toList (granarylaw02_GfMakes_g N) granarylaw02_GfMakes_o granarylaw02_GfMakes_c x := by kernel_rfl
theorem granarylaw02_GfMakes_y : Try.f4.body = some granarylaw02_GfMakes_c := by kernel_rfl
theorem granarylaw02_GfMakes_n : (Try.f4.name == "runtime.NumGoroutine") = false := by kernel_rfl
theorem granarylaw02_GfMakes_ok (N : Nat) : FnDoes Try.prog 4 (granarylaw02_GfMakes_g N) := fn_ok tabOK (granarylaw02_GfMakes_t N) mixedOK (J := granarylaw02_GfMakes_J N) (body := granarylaw02_GfMakes_c) Try.func4 granarylaw02_GfMakes_y granarylaw02_GfMakes_n Try.ntmps4 (jok_from granarylaw02_GfMakes_i ⟨trivial, trivial⟩) rfl (le_of_ble rfl) (le_of_ble rfl) (granarylaw02_GfMakes_e N)
end Go.Rf.W
