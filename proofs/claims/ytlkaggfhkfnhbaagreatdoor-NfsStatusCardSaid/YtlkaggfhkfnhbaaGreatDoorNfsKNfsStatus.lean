/-
  The law's printed function is what the program does.
-/
import Derived.Test.YtlkaggfhkfnhbaaGreatDoorNfsHStatusOfO
import Derived.Test.YtlkaggfhkfnhbaaGreatDoorNfsFNfsStatus
set_option linter.unusedVariables false
set_option maxRecDepth 100000
namespace Go.Rf.W
open Go Go.Rf Go.Proofs
noncomputable section
noncomputable def granarylaw22_NfsStatus_c : Code := codeOf Tryz.f4.body
noncomputable def granarylaw22_NfsStatus_J (N : Nat) : Nat → Hint := fun cx => hintOf cx [(0, mkH [(1, ⟨⟨[(12, (.av (.one .bool)))], []⟩, [], [], [.bool]⟩), (5, ⟨⟨[(4, (.av (.one .bool)))], [(.dead, true), (.dead, true), (.dead, false)]⟩, [], [0, 1, 2], [.bool]⟩)] [] [] [] [] [])]
def granarylaw22_NfsStatus_o : List (Shp × List Nat) := [(⟨[(0, (.av (.one .bool)))], []⟩, [])]
noncomputable def granarylaw22_NfsStatus_g (N : Nat) : GS := mkG ⟨[(0, (.av (.one (.int .i64)))), (1, (.av (.one (.int .i64))))], []⟩ [.keep, .keep] granarylaw22_NfsStatus_o [.int, .int] [[.bool]] (granarylaw22_NfsStatus N)
noncomputable def granarylaw22_NfsStatus_C (N : Nat) (f0 : Unit → Option (Bool)) (f1 : Int → Option (Int)) (f2 : Int → Option (Int)) (f3 : Ty119) (f4 : Unit → Option (Int)) (f5 : Int × Nat → Option (Int)) (f6 : Int × Nat → Option (Int)) : Nat → List GS := fun k => tabOf k [(10, [{ granarylaw22_live_g N with F := f0 }]), (20, [{ nfs_Status_g N with F := f1 }]), (21, [{ granaryref22_Status_g N with F := f2 }]), (23, [{ granarylaw22_wrapped_g N with F := f3 }]), (22, [{ nfs_StatusOf_v1_g N with F := f4 }, { nfs_StatusOf_g N with F := f5 }, { nfs_StatusOf_v2_g N with F := f6 }])]
theorem granarylaw22_NfsStatus_f (N : Nat) (f0 : Unit → Option (Bool)) (f1 : Int → Option (Int)) (f2 : Int → Option (Int)) (f3 : Ty119) (f4 : Unit → Option (Int)) (f5 : Int × Nat → Option (Int)) (f6 : Int × Nat → Option (Int)) (x) : granarylaw22_NfsStatus_a N f0 f1 f2 f3 f4 f5 f6 x = fnStep Γ (granarylaw22_NfsStatus_C N f0 f1 f2 f3 f4 f5 f6) (granarylaw22_NfsStatus_J N) 51 Tryz.f4.results.toList (granarylaw22_NfsStatus_g N) granarylaw22_NfsStatus_o granarylaw22_NfsStatus_c x := by kernel_rfl
theorem granarylaw22_NfsStatus_ok (N : Nat) : FnDoes Tryz.prog 4 (granarylaw22_NfsStatus_g N) := fn_ok tabOK (C := (granarylaw22_NfsStatus_C N (granarylaw22_live N) nfs_Status granaryref22_Status (granarylaw22_wrapped N) (nfs_StatusOf_v1 N) (nfs_StatusOf N) (nfs_StatusOf_v2 N))) (tab_ok ⟨⟨granarylaw22_live_ok N, trivial⟩, ⟨nfs_Status_ok N, trivial⟩, ⟨granaryref22_Status_ok N, trivial⟩, ⟨granarylaw22_wrapped_ok N, trivial⟩, ⟨nfs_StatusOf_v1_ok N, nfs_StatusOf_ok N, nfs_StatusOf_v2_ok N, trivial⟩, trivial⟩) mixedOK (J := (granarylaw22_NfsStatus_J N)) (body := granarylaw22_NfsStatus_c) Tryz.func4 (by kernel_rfl) (by kernel_rfl) Tryz.ntmps4 (jok_from (L := []) (by kernel_rfl) ⟨trivial, trivial⟩) (outs := granarylaw22_NfsStatus_o) rfl rfl (le_of_ble rfl) (fun x => Eq.trans (by kernel_rfl) (granarylaw22_NfsStatus_f N (granarylaw22_live N) nfs_Status granaryref22_Status (granarylaw22_wrapped N) (nfs_StatusOf_v1 N) (nfs_StatusOf N) (nfs_StatusOf_v2 N) x))
end
end Go.Rf.W
