/-
  The law's printed function is what the program does.
-/
import Derived.Test.YtcehhkdpdehjhaaInoK0
import Derived.Test.YtcehhkdpdehjhaaInoFInodeNew
set_option linter.unusedVariables false
set_option maxRecDepth 100000
namespace Go.Rf.W
open Go Go.Rf Go.Proofs
noncomputable def granarylaw12_InodeNew_c : Code := codeOf Try.f8.body
noncomputable def granarylaw12_InodeNew_J (N : Nat) : Nat → Hint := fun cx => hintOf cx [(0, { reg := fun k => assoc0 k [(7, ⟨⟨[(6, (.av (.one .bool)))], [(.keep, true), (.keep, true), (.keep, true), (.keep, true), (.keep, true), (.keep, true), (.keep, true), (.keep, true), (.keep, true), (.keep, true), (.keep, true), (.keep, true), (.keep, true), (.keep, false), (.keep, true), (.keep, true), (.keep, true), (.keep, true), (.keep, true), (.keep, true), (.keep, true), (.keep, true), (.keep, true), (.keep, true), (.keep, true), (.keep, true), (.keep, true), (.keep, false), (.keep, true), (.keep, true), (.keep, true), (.keep, true), (.keep, true), (.keep, true), (.keep, true), (.keep, true), (.keep, true), (.keep, true), (.keep, true), (.keep, true), (.keep, true), (.keep, false), (.keep, true), (.keep, true), (.keep, true), (.keep, true), (.keep, true), (.keep, true), (.keep, true), (.keep, true), (.keep, true), (.keep, true), (.keep, true), (.keep, false), (.keep, true), (.keep, true), (.keep, true), (.keep, true), (.keep, true), (.keep, true), (.keep, true), (.keep, true), (.keep, true), (.keep, true), (.keep, true), (.keep, false)]⟩, [], [], [.bool]⟩)], cnd := fun k => assoc0 k [], loop := fun k => assoc0 k [], nil := fun k => assoc0 k [], unr := fun k => assocN k [], blk := fun k => assoc0 k [] })]
noncomputable def granarylaw12_InodeNew_C (N : Nat) : Nat → List GS := fun k => tabOf k [(11, [granarylaw12_long_g N]), (12, [granarylaw12_live_g N]), (28, [inode_New_g N]), (29, [granaryref12_New_g N]), (30, [inode_Attributes_g N]), (31, [granaryref12_Attributes_g N]), (17, [granarylaw12_num_g N])]
def granarylaw12_InodeNew_o : List (Shp × List Nat) := [(⟨[(0, (.av (.one .bool)))], []⟩, [])]
noncomputable def granarylaw12_InodeNew_g (N : Nat) : GS := { ins := ⟨[(0, (.av (.agg [(.one (.int .u64)), (.one (.int .u32)), (.one (.int .i64)), (.one (.int .u32)), (.one (.int .u32)), (.one (.int .u32)), (.one (.int .u32)), (.one (.int .u64)), (.one (.int .u64)), (.one (.int .u64)), (.one (.int .u64)), (.one (.int .u64)), (.one (.int .u64)), (.one .str)]))), (1, (.av (.one (.int .u64)))), (2, (.av (.one (.int .u32))))], []⟩, lend := [.keep, .keep, .keep], outs := granarylaw12_InodeNew_o.map fun s => ssOf s.1, its := [.int, .int, .int, .int, .int, .int, .int, .int, .int, .int, .int, .int, .int, .str, .int, .int], ots := [[.bool]], F := granarylaw12_InodeNew N }
theorem granarylaw12_InodeNew_t (N : Nat) : TabC Try.prog (granarylaw12_InodeNew_C N) := tab_ok ⟨⟨granarylaw12_long_ok N, trivial⟩, ⟨granarylaw12_live_ok N, trivial⟩, ⟨inode_New_ok N, trivial⟩, ⟨granaryref12_New_ok N, trivial⟩, ⟨inode_Attributes_ok N, trivial⟩, ⟨granaryref12_Attributes_ok N, trivial⟩, ⟨granarylaw12_num_ok N, trivial⟩, trivial⟩
theorem granarylaw12_InodeNew_i : loopsOf granarylaw12_InodeNew_c = [] := by kernel_rfl
theorem granarylaw12_InodeNew_e (N : Nat) (x) : (granarylaw12_InodeNew_g N).F x = fnStep Γ (granarylaw12_InodeNew_C N) (granarylaw12_InodeNew_J N) 87 Try.f8.results.toList (granarylaw12_InodeNew_g N) granarylaw12_InodeNew_o granarylaw12_InodeNew_c x := by kernel_rfl
theorem granarylaw12_InodeNew_y : Try.f8.body = some granarylaw12_InodeNew_c := by kernel_rfl
theorem granarylaw12_InodeNew_n : (Try.f8.name == "runtime.NumGoroutine") = false := by kernel_rfl
theorem granarylaw12_InodeNew_ok (N : Nat) : FnDoes Try.prog 8 (granarylaw12_InodeNew_g N) := fn_ok tabOK (granarylaw12_InodeNew_t N) mixedOK (J := granarylaw12_InodeNew_J N) (body := granarylaw12_InodeNew_c) Try.func8 granarylaw12_InodeNew_y granarylaw12_InodeNew_n Try.ntmps8 (jok_from granarylaw12_InodeNew_i ⟨trivial, trivial⟩) rfl rfl (le_of_ble rfl) (granarylaw12_InodeNew_e N)
end Go.Rf.W
