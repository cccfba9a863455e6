/-
  The printed functions are what the program does.
-/
import Derived.Test.YtlkaggfhkfnhbaaGreatDoorNfsHStatusOfN
set_option linter.unusedVariables false
set_option maxRecDepth 100000
namespace Go.Rf.W
open Go Go.Rf Go.Proofs
noncomputable section
def hh202 : List (BSh × Bool) := [hh6, hh6, hh6, hh6, hh6, hh4, hh4, hh4, hh4, hh4, hh4, hh4, hh4, hh4, hh4, hh4, hh4, hh4, hh4, hh4, hh4, hh4, hh4, hh4, hh4, hh4, hh4, hh4, hh6, hh6, hh6, hh6, hh6, hh6, hh6]
noncomputable def granarylaw22_live_c : Code := codeOf Tryz.f10.body
noncomputable def granarylaw22_live_J (N : Nat) : Nat → Hint := fun cx => hintOf cx [(0, mkH [(7, ⟨⟨[(0, (.av (.one .bool)))], hh202⟩, [], [], [.bool]⟩)] [] [] [] [] [])]
def granarylaw22_live_o : List (Shp × List Nat) := [(⟨[(0, (.av (.one .bool)))], []⟩, [])]
noncomputable def granarylaw22_live_g (N : Nat) : GS := mkG ⟨[], []⟩ [] granarylaw22_live_o [] [[.bool]] (granarylaw22_live N)
noncomputable def granarylaw22_live_C (N : Nat) (f0 : Ty116) (f1 : Ty117) (f2 : Ty118) (f3 : Int → Option (Int)) (f4 : Int → Option (Bool)) (f5 : Int × Nat → Option (Int)) : Nat → List GS := fun k => tabOf k [(12, [{ nfs_PutArgs_g N with F := f0 }]), (14, [{ nfs_GetArgs_g N with F := f1 }]), (26, [{ nfs_PutRes_g N with F := f2 }]), (16, [{ granarylaw22_num_g N with F := f3 }]), (18, [{ nfs_Known_g N with F := f4 }]), (22, [{ nfs_StatusOf_g N with F := f5 }])]
theorem granarylaw22_live_f (N : Nat) (f0 : Ty116) (f1 : Ty117) (f2 : Ty118) (f3 : Int → Option (Int)) (f4 : Int → Option (Bool)) (f5 : Int × Nat → Option (Int)) (x) : granarylaw22_live_a N f0 f1 f2 f3 f4 f5 x = fnStep Γ (granarylaw22_live_C N f0 f1 f2 f3 f4 f5) (granarylaw22_live_J N) 113 Tryz.f10.results.toList (granarylaw22_live_g N) granarylaw22_live_o granarylaw22_live_c x := by kernel_rfl
theorem granarylaw22_live_ok (N : Nat) : FnDoes Tryz.prog 10 (granarylaw22_live_g N) := fn_ok tabOK (C := (granarylaw22_live_C N (nfs_PutArgs N) (nfs_GetArgs N) (nfs_PutRes N) granarylaw22_num nfs_Known (nfs_StatusOf N))) (tab_ok ⟨⟨nfs_PutArgs_ok N, trivial⟩, ⟨nfs_GetArgs_ok N, trivial⟩, ⟨nfs_PutRes_ok N, trivial⟩, ⟨granarylaw22_num_ok N, trivial⟩, ⟨nfs_Known_ok N, trivial⟩, ⟨nfs_StatusOf_ok N, trivial⟩, trivial⟩) mixedOK (J := (granarylaw22_live_J N)) (body := granarylaw22_live_c) Tryz.func10 (by kernel_rfl) (by kernel_rfl) Tryz.ntmps10 (jok_from (L := []) (by kernel_rfl) ⟨trivial, trivial⟩) (outs := granarylaw22_live_o) rfl rfl (le_of_ble rfl) (fun x => Eq.trans (by kernel_rfl) (granarylaw22_live_f N (nfs_PutArgs N) (nfs_GetArgs N) (nfs_PutRes N) granarylaw22_num nfs_Known (nfs_StatusOf N) x))
noncomputable def granaryref22_Status_c : Code := codeOf Tryz.f21.body
def granaryref22_Status_o : List (Shp × List Nat) := [(⟨[(0, (.av (.one (.int .u32))))], []⟩, [])]
noncomputable def granaryref22_Status_g (N : Nat) : GS := mkG ⟨[(0, (.av (.one (.int .i64))))], []⟩ [.keep] granaryref22_Status_o [.int] [[.int]] granaryref22_Status
theorem granaryref22_Status_ok (N : Nat) : FnDoes Tryz.prog 21 (granaryref22_Status_g N) := fn_ok tabOK (C := C0) (tab_ok trivial) mixedOK (J := J0) (body := granaryref22_Status_c) Tryz.func21 (by kernel_rfl) (by kernel_rfl) Tryz.ntmps21 (jok_from (L := []) (by kernel_rfl) trivial) (outs := granaryref22_Status_o) rfl rfl (le_of_ble rfl) (fun x => by kernel_rfl)
noncomputable def granarylaw22_wrapped_c : Code := codeOf Tryz.f23.body
noncomputable def granarylaw22_wrapped_c0 : Code := codeOf (getLoop 0 granarylaw22_wrapped_c)
noncomputable def granarylaw22_wrapped_d0 : LD := ⟨⟨[(1, (.av (.one (.int .i64)))), (5, (.av (.one (.ierr false)))), (6, (.av (.one (.int .i64))))], []⟩, [], [], [(.exit 0, ⟨[(5, (.av (.one (.ierr false))))], []⟩)], [.int, .int, .nat, .int], [[.int, .nat]]⟩
noncomputable def granarylaw22_wrapped_J (N : Nat) : Nat → Hint := fun cx => hintOf cx [(0, mkH [] [] [(0, ⟨granarylaw22_wrapped_d0, loopF (granarylaw22_wrapped_b0 N) N⟩)] [] [] [])]
def granarylaw22_wrapped_o : List (Shp × List Nat) := [(⟨[(0, (.av (.one (.ierr false))))], []⟩, [])]
noncomputable def granarylaw22_wrapped_g (N : Nat) : GS := mkG ⟨[(0, (.av (.one (.int .i64)))), (1, (.av (.one (.int .i64))))], []⟩ [.keep, .keep] granarylaw22_wrapped_o [.int, .int] [[.int, .nat]] (granarylaw22_wrapped N)
theorem granarylaw22_wrapped_t (N : Nat) : TabC Tryz.prog C0 := (tab_ok trivial)
theorem granarylaw22_wrapped_k0 (N : Nat) : LoopOK Tryz.prog 19 granarylaw22_wrapped_c0 ⟨granarylaw22_wrapped_d0, loopF (granarylaw22_wrapped_b0 N) N⟩ := loop_ok tabOK (granarylaw22_wrapped_t N) mixedOK (J := (granarylaw22_wrapped_J N)) (cx := 0) (body := granarylaw22_wrapped_c0) (nt := 19) (l := granarylaw22_wrapped_d0) (b := granarylaw22_wrapped_b0 N) (jok_from (L := []) (by kernel_rfl) ⟨trivial, trivial⟩) (fun next x => by kernel_rfl) N
theorem granarylaw22_wrapped_ok (N : Nat) : FnDoes Tryz.prog 23 (granarylaw22_wrapped_g N) := fn_ok tabOK (granarylaw22_wrapped_t N) mixedOK (J := (granarylaw22_wrapped_J N)) (body := granarylaw22_wrapped_c) Tryz.func23 (by kernel_rfl) (by kernel_rfl) Tryz.ntmps23 (jok_from (L := [(0, granarylaw22_wrapped_c0)]) (by kernel_rfl) ⟨⟨.inr ⟨_, rfl, granarylaw22_wrapped_k0 N⟩, trivial⟩, trivial⟩) (outs := granarylaw22_wrapped_o) rfl rfl (le_of_ble rfl) (fun x => by kernel_rfl)
end
end Go.Rf.W
