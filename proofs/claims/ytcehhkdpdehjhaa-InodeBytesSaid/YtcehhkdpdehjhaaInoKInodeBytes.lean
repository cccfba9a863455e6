/-
  The law's printed function is what the program does.
-/
import Derived.Test.YtcehhkdpdehjhaaInoK0
import Derived.Test.YtcehhkdpdehjhaaInoFInodeBytes
set_option linter.unusedVariables false
set_option maxRecDepth 100000
namespace Go.Rf.W
open Go Go.Rf Go.Proofs
noncomputable def granarylaw12_InodeBytes_c : Code := codeOf Try.f3.body
noncomputable def granarylaw12_InodeBytes_J (N : Nat) : Nat → Hint := fun cx => hintOf cx [(0, { reg := fun k => assoc0 k [(1, ⟨⟨[(20, (.av (.one .bool)))], [(.keep, true), (.keep, true), (.keep, true), (.keep, true), (.keep, true), (.keep, true), (.keep, true), (.keep, true), (.keep, true), (.keep, true), (.keep, true), (.keep, true), (.keep, true), (.keep, false)]⟩, [], [], [.bool]⟩), (8, ⟨⟨[(4, (.av (.one .bool)))], [(.keep, true), (.keep, true), (.keep, true), (.keep, true), (.keep, true), (.keep, true), (.keep, true), (.keep, true), (.keep, true), (.keep, true), (.keep, true), (.keep, true), (.keep, true), (.keep, false), (.keep, false), (.keep, false), (.keep, false), (.keep, false), (.keep, true), (.keep, true), (.keep, true), (.keep, true), (.keep, true), (.keep, true), (.keep, true), (.keep, true), (.keep, true), (.keep, true), (.keep, true), (.keep, true), (.keep, true), (.keep, false), (.keep, true), (.keep, true), (.keep, true), (.keep, true), (.keep, true), (.keep, true), (.keep, true), (.keep, true), (.keep, true), (.keep, true), (.keep, true), (.keep, true), (.keep, true), (.keep, false)]⟩, [], [], [.bool]⟩)], cnd := fun k => assoc0 k [], loop := fun k => assoc0 k [], nil := fun k => assoc0 k [], unr := fun k => assocN k [], blk := fun k => assoc0 k [] })]
noncomputable def granarylaw12_InodeBytes_C (N : Nat) : Nat → List GS := fun k => tabOf k [(11, [granarylaw12_long_g N]), (12, [granarylaw12_live_g N]), (13, [inode_Put_g N]), (14, [granaryref12_Put_g N]), (15, [inode_Get_g N]), (16, [granaryref12_Get_g N]), (17, [granarylaw12_num_g N]), (18, [inode_Check_g N]), (19, [granaryref12_Check_g N])]
def granarylaw12_InodeBytes_o : List (Shp × List Nat) := [(⟨[(0, (.av (.one .bool)))], []⟩, [])]
noncomputable def granarylaw12_InodeBytes_g (N : Nat) : GS := { ins := ⟨[(0, (.av (.agg [(.one (.int .u64)), (.one (.int .u32)), (.one (.int .i64)), (.one (.int .u32)), (.one (.int .u32)), (.one (.int .u32)), (.one (.int .u32)), (.one (.int .u64)), (.one (.int .u64)), (.one (.int .u64)), (.one (.int .u64)), (.one (.int .u64)), (.one (.int .u64)), (.one .str)]))), (1, (.av (.one (.rsl (.int .u8)))))], []⟩, lend := [.keep, .keep], outs := granarylaw12_InodeBytes_o.map fun s => ssOf s.1, its := [.int, .int, .int, .int, .int, .int, .int, .int, .int, .int, .int, .int, .int, .str, .lst (.int .u8)], ots := [[.bool]], F := granarylaw12_InodeBytes N }
theorem granarylaw12_InodeBytes_t (N : Nat) : TabC Try.prog (granarylaw12_InodeBytes_C N) := tab_ok ⟨⟨granarylaw12_long_ok N, trivial⟩, ⟨granarylaw12_live_ok N, trivial⟩, ⟨inode_Put_ok N, trivial⟩, ⟨granaryref12_Put_ok N, trivial⟩, ⟨inode_Get_ok N, trivial⟩, ⟨granaryref12_Get_ok N, trivial⟩, ⟨granarylaw12_num_ok N, trivial⟩, ⟨inode_Check_ok N, trivial⟩, ⟨granaryref12_Check_ok N, trivial⟩, trivial⟩
theorem granarylaw12_InodeBytes_i : loopsOf granarylaw12_InodeBytes_c = [] := by kernel_rfl
theorem granarylaw12_InodeBytes_e (N : Nat) (x) : (granarylaw12_InodeBytes_g N).F x = fnStep Γ (granarylaw12_InodeBytes_C N) (granarylaw12_InodeBytes_J N) 85 Try.f3.results.toList (granarylaw12_InodeBytes_g N) granarylaw12_InodeBytes_o granarylaw12_InodeBytes_c x := by kernel_rfl
theorem granarylaw12_InodeBytes_y : Try.f3.body = some granarylaw12_InodeBytes_c := by kernel_rfl
theorem granarylaw12_InodeBytes_n : (Try.f3.name == "runtime.NumGoroutine") = false := by kernel_rfl
theorem granarylaw12_InodeBytes_ok (N : Nat) : FnDoes Try.prog 3 (granarylaw12_InodeBytes_g N) := fn_ok tabOK (granarylaw12_InodeBytes_t N) mixedOK (J := granarylaw12_InodeBytes_J N) (body := granarylaw12_InodeBytes_c) Try.func3 granarylaw12_InodeBytes_y granarylaw12_InodeBytes_n Try.ntmps3 (jok_from granarylaw12_InodeBytes_i ⟨trivial, trivial⟩) rfl rfl (le_of_ble rfl) (granarylaw12_InodeBytes_e N)
end Go.Rf.W
