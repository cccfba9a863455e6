/-
  The law's printed function is what the program does.
-/
import Derived.Test.YtcehhkdpdehjhaaInoK0
import Derived.Test.YtcehhkdpdehjhaaInoFInodeApplies
set_option linter.unusedVariables false
set_option maxRecDepth 100000
namespace Go.Rf.W
open Go Go.Rf Go.Proofs
noncomputable def granarylaw12_InodeApplies_c : Code := codeOf Try.f4.body
noncomputable def granarylaw12_InodeApplies_J (N : Nat) : Nat → Hint := fun cx => hintOf cx [(0, { reg := fun k => assoc0 k [(5, ⟨⟨[(6, (.av (.one .bool)))], [(.keep, true), (.keep, true), (.keep, true), (.keep, true), (.keep, true), (.keep, true), (.keep, true), (.keep, true), (.keep, true), (.keep, true), (.keep, true), (.keep, true), (.keep, true), (.keep, false), (.keep, true), (.keep, true), (.keep, true), (.keep, true), (.keep, true), (.keep, true), (.keep, false), (.keep, true), (.keep, true), (.keep, true), (.keep, true), (.keep, true), (.keep, true), (.keep, true), (.keep, true), (.keep, true), (.keep, true), (.keep, true), (.keep, true), (.keep, true), (.keep, false), (.keep, true), (.keep, true), (.keep, true), (.keep, true), (.keep, true), (.keep, true), (.keep, true), (.keep, true), (.keep, true), (.keep, true), (.keep, true), (.keep, true), (.keep, true), (.keep, false)]⟩, [], [], [.bool]⟩)], cnd := fun k => assoc0 k [], loop := fun k => assoc0 k [], nil := fun k => assoc0 k [], unr := fun k => assocN k [], blk := fun k => assoc0 k [] })]
noncomputable def granarylaw12_InodeApplies_C (N : Nat) : Nat → List GS := fun k => tabOf k [(11, [granarylaw12_long_g N]), (12, [granarylaw12_live_g N]), (20, [inode_Apply_g N]), (21, [granaryref12_Apply_g N]), (17, [granarylaw12_num_g N])]
def granarylaw12_InodeApplies_o : List (Shp × List Nat) := [(⟨[(0, (.av (.one .bool)))], []⟩, [])]
noncomputable def granarylaw12_InodeApplies_g (N : Nat) : GS := { ins := ⟨[(0, (.av (.agg [(.one (.int .u64)), (.one (.int .u32)), (.one (.int .i64)), (.one (.int .u32)), (.one (.int .u32)), (.one (.int .u32)), (.one (.int .u32)), (.one (.int .u64)), (.one (.int .u64)), (.one (.int .u64)), (.one (.int .u64)), (.one (.int .u64)), (.one (.int .u64)), (.one .str)]))), (1, (.av (.agg [(.one (.int .i64)), (.one (.int .u32)), (.one (.int .u32)), (.one (.int .u32)), (.one (.int .u64)), (.one (.int .u64)), (.one (.int .u64))]))), (2, (.av (.one (.int .u64))))], []⟩, lend := [.keep, .keep, .keep], outs := granarylaw12_InodeApplies_o.map fun s => ssOf s.1, its := [.int, .int, .int, .int, .int, .int, .int, .int, .int, .int, .int, .int, .int, .str, .int, .int, .int, .int, .int, .int, .int, .int], ots := [[.bool]], F := granarylaw12_InodeApplies N }
theorem granarylaw12_InodeApplies_t (N : Nat) : TabC Try.prog (granarylaw12_InodeApplies_C N) := tab_ok ⟨⟨granarylaw12_long_ok N, trivial⟩, ⟨granarylaw12_live_ok N, trivial⟩, ⟨inode_Apply_ok N, trivial⟩, ⟨granaryref12_Apply_ok N, trivial⟩, ⟨granarylaw12_num_ok N, trivial⟩, trivial⟩
theorem granarylaw12_InodeApplies_i : loopsOf granarylaw12_InodeApplies_c = [] := by kernel_rfl
theorem granarylaw12_InodeApplies_e (N : Nat) (x) : (granarylaw12_InodeApplies_g N).F x = fnStep Γ (granarylaw12_InodeApplies_C N) (granarylaw12_InodeApplies_J N) 49 Try.f4.results.toList (granarylaw12_InodeApplies_g N) granarylaw12_InodeApplies_o granarylaw12_InodeApplies_c x := by kernel_rfl
theorem granarylaw12_InodeApplies_y : Try.f4.body = some granarylaw12_InodeApplies_c := by kernel_rfl
theorem granarylaw12_InodeApplies_n : (Try.f4.name == "runtime.NumGoroutine") = false := by kernel_rfl
theorem granarylaw12_InodeApplies_ok (N : Nat) : FnDoes Try.prog 4 (granarylaw12_InodeApplies_g N) := fn_ok tabOK (granarylaw12_InodeApplies_t N) mixedOK (J := granarylaw12_InodeApplies_J N) (body := granarylaw12_InodeApplies_c) Try.func4 granarylaw12_InodeApplies_y granarylaw12_InodeApplies_n Try.ntmps4 (jok_from granarylaw12_InodeApplies_i ⟨trivial, trivial⟩) rfl rfl (le_of_ble rfl) (granarylaw12_InodeApplies_e N)
end Go.Rf.W
