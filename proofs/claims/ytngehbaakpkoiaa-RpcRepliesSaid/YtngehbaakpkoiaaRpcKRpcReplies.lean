/-
  The law's printed function is what the program does.
-/
import Derived.Test.YtngehbaakpkoiaaRpcK2
import Derived.Test.YtngehbaakpkoiaaRpcFRpcReplies
set_option linter.unusedVariables false
set_option maxRecDepth 100000
namespace Go.Rf.W
open Go Go.Rf Go.Proofs
noncomputable def granarylaw21_RpcReplies_c : Code := codeOf Try.f10.body
noncomputable def granarylaw21_RpcReplies_J (N : Nat) : Nat → Hint := fun cx => hintOf cx [(0, { reg := fun k => assoc0 k [(7, ⟨⟨[(4, (.av (.one .bool)))], [(.keep, true), (.keep, true), (.keep, true), (.keep, true), (.keep, true), (.keep, false), (.keep, false), (.keep, false), (.keep, false), (.keep, false), (.keep, false), (.keep, true), (.keep, true), (.keep, true), (.keep, true), (.keep, true), (.keep, false), (.keep, false), (.keep, true), (.keep, true), (.keep, true), (.keep, true), (.keep, true), (.keep, false)]⟩, [], [], [.bool]⟩)], cnd := fun k => assoc0 k [], loop := fun k => assoc0 k [], nil := fun k => assoc0 k [], unr := fun k => assocN k [], blk := fun k => assoc0 k [] })]
noncomputable def granarylaw21_RpcReplies_C (N : Nat) : Nat → List GS := fun k => tabOf k [(12, [granarylaw21_live_g N]), (38, [rpc_PutReply_g N]), (39, [granaryref21_PutReply_g N]), (40, [rpc_GetReply_g N]), (41, [granaryref21_GetReply_g N]), (23, [granarylaw21_num_g N]), (42, [granaryref21_SameReply_g N])]
def granarylaw21_RpcReplies_o : List (Shp × List Nat) := [(⟨[(0, (.av (.one .bool)))], []⟩, [])]
noncomputable def granarylaw21_RpcReplies_g (N : Nat) : GS := { ins := ⟨[(0, (.av (.agg [(.one (.int .u32)), (.one (.int .i64)), (.one (.int .u32)), (.one (.int .u32)), (.one (.int .u32)), (.one (.rsl (.int .u8)))]))), (1, (.av (.one (.rsl (.int .u8)))))], []⟩, lend := [.keep, .keep], outs := granarylaw21_RpcReplies_o.map fun s => ssOf s.1, its := [.int, .int, .int, .int, .int, .lst (.int .u8), .lst (.int .u8)], ots := [[.bool]], F := granarylaw21_RpcReplies N }
noncomputable def granarylaw21_RpcReplies_CA (N : Nat) (f0 : Unit → Option (Bool)) (f1 : Int × Int × Int × Int × Int × (List Int) → Option (Int × (List Int))) (f2 : Int × Int × Int × Int × Int × (List Int) → Option (Int × (List Int))) (f3 : (List Int) → Option (Int × Int × Int × Int × Int × Int × (List Int))) (f4 : (List Int) → Option (Int × Int × Int × Int × Int × Int × (List Int))) (f5 : Int → Option (Int)) (f6 : Int × Int × Int × Int × Int × (List Int) × Int × Int × Int × Int × Int × (List Int) → Option (Bool)) : Nat → List GS := fun k => tabOf k [(12, [{ granarylaw21_live_g N with F := f0 }]), (38, [{ rpc_PutReply_g N with F := f1 }]), (39, [{ granaryref21_PutReply_g N with F := f2 }]), (40, [{ rpc_GetReply_g N with F := f3 }]), (41, [{ granaryref21_GetReply_g N with F := f4 }]), (23, [{ granarylaw21_num_g N with F := f5 }]), (42, [{ granaryref21_SameReply_g N with F := f6 }])]
theorem granarylaw21_RpcReplies_CE (N : Nat) : granarylaw21_RpcReplies_CA N (granarylaw21_live N) (rpc_PutReply N) (granaryref21_PutReply) (rpc_GetReply N) (granaryref21_GetReply N) (granarylaw21_num) (granaryref21_SameReply) = granarylaw21_RpcReplies_C N := by kernel_rfl
theorem granarylaw21_RpcReplies_t (N : Nat) : TabC Try.prog (granarylaw21_RpcReplies_C N) := tab_ok ⟨⟨granarylaw21_live_ok N, trivial⟩, ⟨rpc_PutReply_ok N, trivial⟩, ⟨granaryref21_PutReply_ok N, trivial⟩, ⟨rpc_GetReply_ok N, trivial⟩, ⟨granaryref21_GetReply_ok N, trivial⟩, ⟨granarylaw21_num_ok N, trivial⟩, ⟨granaryref21_SameReply_ok N, trivial⟩, trivial⟩
theorem granarylaw21_RpcReplies_i : loopsOf granarylaw21_RpcReplies_c = [] := by kernel_rfl
noncomputable def granarylaw21_RpcReplies_a (N : Nat) (f0 : Unit → Option (Bool)) (f1 : Int × Int × Int × Int × Int × (List Int) → Option (Int × (List Int))) (f2 : Int × Int × Int × Int × Int × (List Int) → Option (Int × (List Int))) (f3 : (List Int) → Option (Int × Int × Int × Int × Int × Int × (List Int))) (f4 : (List Int) → Option (Int × Int × Int × Int × Int × Int × (List Int))) (f5 : Int → Option (Int)) (f6 : Int × Int × Int × Int × Int × (List Int) × Int × Int × Int × Int × Int × (List Int) → Option (Bool)) (x : Int × Int × Int × Int × Int × (List Int) × (List Int)) : Option (Bool) :=
  (cond (decide ((20000 : Int) < (wrapF .i64 ((((List.length x.2.2.2.2.2.1) : Nat) : Int) + (((List.length x.2.2.2.2.2.2) : Nat) : Int)))))
  (Option.bind (f0 ()) fun r5 =>
  (some r5))
  (Option.bind (f1 (x.1, x.2.1, x.2.2.1, x.2.2.2.1, x.2.2.2.2.1, x.2.2.2.2.2.1)) fun r6 =>
  (Option.bind (f2 (x.1, x.2.1, x.2.2.1, x.2.2.2.1, x.2.2.2.2.1, x.2.2.2.2.2.1)) fun r7 =>
  (cond (fits 1 (List.length x.2.2.2.2.2.2))
  ((Option.bind (f3 x.2.2.2.2.2.2) fun r9 =>
  (Option.bind (f4 x.2.2.2.2.2.2) fun r10 =>
  (Option.bind
  (cond (decide ((List.map (fun (n : Int) => UInt8.ofNat n.toNat) r6.2) = (List.map (fun (n : Int) => UInt8.ofNat n.toNat) r7.2)))
  (Option.bind (f5 r6.1) fun r14 =>
  (cond (decide (r14 = r7.1))
  (Option.bind (f6 (r9.1, r9.2.1, r9.2.2.1, r9.2.2.2.1, r9.2.2.2.2.1, r9.2.2.2.2.2.2, r10.1, r10.2.1, r10.2.2.1, r10.2.2.2.1, r10.2.2.2.2.1, r10.2.2.2.2.2.2)) fun r16 =>
  (cond r16
  (Option.bind (f5 r9.2.2.2.2.2.1) fun r17 =>
  (cond (decide (r17 = r10.2.2.2.2.2.1))
  (Option.bind (f0 ()) fun r19 =>
  (some r19))
  (some false)))
  (some false)))
  (some false)))
  (some false))
  fun r20 =>
  (some r20)))))
  none))))
theorem granarylaw21_RpcReplies_f (N : Nat) (f0 : Unit → Option (Bool)) (f1 : Int × Int × Int × Int × Int × (List Int) → Option (Int × (List Int))) (f2 : Int × Int × Int × Int × Int × (List Int) → Option (Int × (List Int))) (f3 : (List Int) → Option (Int × Int × Int × Int × Int × Int × (List Int))) (f4 : (List Int) → Option (Int × Int × Int × Int × Int × Int × (List Int))) (f5 : Int → Option (Int)) (f6 : Int × Int × Int × Int × Int × (List Int) × Int × Int × Int × Int × Int × (List Int) → Option (Bool)) (x) : granarylaw21_RpcReplies_a N f0 f1 f2 f3 f4 f5 f6 x = fnStep Γ (granarylaw21_RpcReplies_CA N f0 f1 f2 f3 f4 f5 f6) (granarylaw21_RpcReplies_J N) 68 Try.f10.results.toList (granarylaw21_RpcReplies_g N) granarylaw21_RpcReplies_o granarylaw21_RpcReplies_c x := by kernel_rfl
theorem granarylaw21_RpcReplies_e (N : Nat) (x) : (granarylaw21_RpcReplies_g N).F x = fnStep Γ (granarylaw21_RpcReplies_C N) (granarylaw21_RpcReplies_J N) 68 Try.f10.results.toList (granarylaw21_RpcReplies_g N) granarylaw21_RpcReplies_o granarylaw21_RpcReplies_c x := by
  rw [← granarylaw21_RpcReplies_CE N]
  exact Eq.trans (by kernel_rfl) (granarylaw21_RpcReplies_f N (granarylaw21_live N) (rpc_PutReply N) (granaryref21_PutReply) (rpc_GetReply N) (granaryref21_GetReply N) (granarylaw21_num) (granaryref21_SameReply) x)
theorem granarylaw21_RpcReplies_y : Try.f10.body = some granarylaw21_RpcReplies_c := by kernel_rfl
theorem granarylaw21_RpcReplies_n : (Try.f10.name == "runtime.NumGoroutine") = false := by kernel_rfl
theorem granarylaw21_RpcReplies_ok (N : Nat) : FnDoes Try.prog 10 (granarylaw21_RpcReplies_g N) := fn_ok tabOK (granarylaw21_RpcReplies_t N) mixedOK (J := granarylaw21_RpcReplies_J N) (body := granarylaw21_RpcReplies_c) Try.func10 granarylaw21_RpcReplies_y granarylaw21_RpcReplies_n Try.ntmps10 (jok_from granarylaw21_RpcReplies_i ⟨trivial, trivial⟩) rfl rfl (le_of_ble rfl) (granarylaw21_RpcReplies_e N)
end Go.Rf.W
