/-
  The law's printed function is what the program does.
-/
import Derived.Test.YtcehhkdpdehjhaaInoK0
import Derived.Test.YtcehhkdpdehjhaaInoFInodeHandles
set_option linter.unusedVariables false
set_option maxRecDepth 100000
namespace Go.Rf.W
open Go Go.Rf Go.Proofs
noncomputable def granarylaw12_InodeHandles_c : Code := codeOf Try.f6.body
noncomputable def granarylaw12_InodeHandles_J (N : Nat) : Nat → Hint := fun cx => hintOf cx [(0, { reg := fun k => assoc0 k [(8, ⟨⟨[(4, (.av (.one .bool)))], [(.keep, true), (.keep, true), (.keep, false), (.keep, false), (.keep, false), (.keep, false), (.keep, false), (.keep, true), (.keep, true), (.keep, false), (.keep, true), (.keep, true), (.keep, false)]⟩, [], [], [.bool]⟩)], cnd := fun k => assoc0 k [], loop := fun k => assoc0 k [], nil := fun k => assoc0 k [], unr := fun k => assocN k [], blk := fun k => assoc0 k [] })]
noncomputable def granarylaw12_InodeHandles_C (N : Nat) : Nat → List GS := fun k => tabOf k [(12, [granarylaw12_live_g N]), (24, [inode_PutHandle_g N]), (25, [granaryref12_PutHandle_g N]), (26, [inode_GetHandle_g N]), (27, [granaryref12_GetHandle_g N]), (17, [granarylaw12_num_g N])]
def granarylaw12_InodeHandles_o : List (Shp × List Nat) := [(⟨[(0, (.av (.one .bool)))], []⟩, [])]
noncomputable def granarylaw12_InodeHandles_g (N : Nat) : GS := { ins := ⟨[(0, (.av (.agg [(.one (.int .u32)), (.one (.int .u64)), (.one (.int .u32))]))), (1, (.av (.one (.rsl (.int .u8)))))], []⟩, lend := [.keep, .keep], outs := granarylaw12_InodeHandles_o.map fun s => ssOf s.1, its := [.int, .int, .int, .lst (.int .u8)], ots := [[.bool]], F := granarylaw12_InodeHandles N }
theorem granarylaw12_InodeHandles_t (N : Nat) : TabC Try.prog (granarylaw12_InodeHandles_C N) := tab_ok ⟨⟨granarylaw12_live_ok N, trivial⟩, ⟨inode_PutHandle_ok N, trivial⟩, ⟨granaryref12_PutHandle_ok N, trivial⟩, ⟨inode_GetHandle_ok N, trivial⟩, ⟨granaryref12_GetHandle_ok N, trivial⟩, ⟨granarylaw12_num_ok N, trivial⟩, trivial⟩
theorem granarylaw12_InodeHandles_i : loopsOf granarylaw12_InodeHandles_c = [] := by kernel_rfl
theorem granarylaw12_InodeHandles_e (N : Nat) (x) : (granarylaw12_InodeHandles_g N).F x = fnStep Γ (granarylaw12_InodeHandles_C N) (granarylaw12_InodeHandles_J N) 73 Try.f6.results.toList (granarylaw12_InodeHandles_g N) granarylaw12_InodeHandles_o granarylaw12_InodeHandles_c x := by kernel_rfl
theorem granarylaw12_InodeHandles_y : Try.f6.body = some granarylaw12_InodeHandles_c := by kernel_rfl
theorem granarylaw12_InodeHandles_n : (Try.f6.name == "runtime.NumGoroutine") = false := by kernel_rfl
theorem granarylaw12_InodeHandles_ok (N : Nat) : FnDoes Try.prog 6 (granarylaw12_InodeHandles_g N) := fn_ok tabOK (granarylaw12_InodeHandles_t N) mixedOK (J := granarylaw12_InodeHandles_J N) (body := granarylaw12_InodeHandles_c) Try.func6 granarylaw12_InodeHandles_y granarylaw12_InodeHandles_n Try.ntmps6 (jok_from granarylaw12_InodeHandles_i ⟨trivial, trivial⟩) rfl rfl (le_of_ble rfl) (granarylaw12_InodeHandles_e N)
end Go.Rf.W
