/-
  The law's printed function is what the program does.
-/
import Derived.Test.YtngehbaakpkoiaaRpcK2
import Derived.Test.YtngehbaakpkoiaaRpcFRpcCalls
set_option linter.unusedVariables false
set_option maxRecDepth 100000
namespace Go.Rf.W
open Go Go.Rf Go.Proofs
noncomputable def granarylaw21_RpcCalls_c : Code := codeOf Try.f8.body
noncomputable def granarylaw21_RpcCalls_J (N : Nat) : Nat → Hint := fun cx => hintOf cx [(0, { reg := fun k => assoc0 k [(7, ⟨⟨[(4, (.av (.one .bool)))], [(.keep, true), (.keep, true), (.keep, true), (.keep, true), (.keep, true), (.keep, true), (.keep, true), (.keep, true), (.keep, true), (.keep, false), (.keep, false), (.keep, false), (.keep, false), (.keep, false), (.keep, false), (.keep, false), (.keep, false), (.keep, true), (.keep, true), (.keep, true), (.keep, true), (.keep, true), (.keep, true), (.keep, true), (.keep, true), (.keep, true), (.keep, false), (.keep, false), (.keep, false), (.keep, false), (.keep, true), (.keep, true), (.keep, true), (.keep, true), (.keep, true), (.keep, true), (.keep, true), (.keep, true), (.keep, true), (.keep, false)]⟩, [], [], [.bool]⟩)], cnd := fun k => assoc0 k [], loop := fun k => assoc0 k [], nil := fun k => assoc0 k [], unr := fun k => assocN k [], blk := fun k => assoc0 k [] })]
noncomputable def granarylaw21_RpcCalls_C (N : Nat) : Nat → List GS := fun k => tabOf k [(12, [granarylaw21_live_g N]), (27, [rpc_PutCall_g N]), (28, [granaryref21_PutCall_g N]), (29, [rpc_GetCall_g N]), (30, [granaryref21_GetCall_g N]), (23, [granarylaw21_num_g N]), (31, [granaryref21_SameCall_g N])]
def granarylaw21_RpcCalls_o : List (Shp × List Nat) := [(⟨[(0, (.av (.one .bool)))], []⟩, [])]
noncomputable def granarylaw21_RpcCalls_g (N : Nat) : GS := { ins := ⟨[(0, (.av (.agg [(.one (.int .u32)), (.one (.int .u32)), (.one (.int .u32)), (.one (.int .u32)), (.one (.int .u32)), (.one (.int .u32)), (.one (.rsl (.int .u8))), (.one (.int .u32)), (.one (.rsl (.int .u8))), (.one (.rsl (.int .u8)))]))), (1, (.av (.one (.rsl (.int .u8)))))], []⟩, lend := [.keep, .keep], outs := granarylaw21_RpcCalls_o.map fun s => ssOf s.1, its := [.int, .int, .int, .int, .int, .int, .lst (.int .u8), .int, .lst (.int .u8), .lst (.int .u8), .lst (.int .u8)], ots := [[.bool]], F := granarylaw21_RpcCalls N }
noncomputable def granarylaw21_RpcCalls_CA (N : Nat) (f0 : Unit → Option (Bool)) (f1 : Int × Int × Int × Int × Int × Int × (List Int) × Int × (List Int) × (List Int) → Option (Int × (List Int))) (f2 : Int × Int × Int × Int × Int × Int × (List Int) × Int × (List Int) × (List Int) → Option (Int × (List Int))) (f3 : (List Int) → Option (Int × Int × Int × Int × Int × Int × Int × Int × (List Int) × (List Int) × (List Int))) (f4 : (List Int) → Option (Int × Int × Int × Int × Int × Int × Int × Int × (List Int) × (List Int) × (List Int))) (f5 : Int → Option (Int)) (f6 : Int × Int × Int × Int × Int × Int × (List Int) × Int × (List Int) × (List Int) × Int × Int × Int × Int × Int × Int × (List Int) × Int × (List Int) × (List Int) → Option (Bool)) : Nat → List GS := fun k => tabOf k [(12, [{ granarylaw21_live_g N with F := f0 }]), (27, [{ rpc_PutCall_g N with F := f1 }]), (28, [{ granaryref21_PutCall_g N with F := f2 }]), (29, [{ rpc_GetCall_g N with F := f3 }]), (30, [{ granaryref21_GetCall_g N with F := f4 }]), (23, [{ granarylaw21_num_g N with F := f5 }]), (31, [{ granaryref21_SameCall_g N with F := f6 }])]
theorem granarylaw21_RpcCalls_CE (N : Nat) : granarylaw21_RpcCalls_CA N (granarylaw21_live N) (rpc_PutCall N) (granaryref21_PutCall N) (rpc_GetCall N) (granaryref21_GetCall N) (granarylaw21_num) (granaryref21_SameCall) = granarylaw21_RpcCalls_C N := by kernel_rfl
theorem granarylaw21_RpcCalls_t (N : Nat) : TabC Try.prog (granarylaw21_RpcCalls_C N) := tab_ok ⟨⟨granarylaw21_live_ok N, trivial⟩, ⟨rpc_PutCall_ok N, trivial⟩, ⟨granaryref21_PutCall_ok N, trivial⟩, ⟨rpc_GetCall_ok N, trivial⟩, ⟨granaryref21_GetCall_ok N, trivial⟩, ⟨granarylaw21_num_ok N, trivial⟩, ⟨granaryref21_SameCall_ok N, trivial⟩, trivial⟩
theorem granarylaw21_RpcCalls_i : loopsOf granarylaw21_RpcCalls_c = [] := by kernel_rfl
noncomputable def granarylaw21_RpcCalls_a (N : Nat) (f0 : Unit → Option (Bool)) (f1 : Int × Int × Int × Int × Int × Int × (List Int) × Int × (List Int) × (List Int) → Option (Int × (List Int))) (f2 : Int × Int × Int × Int × Int × Int × (List Int) × Int × (List Int) × (List Int) → Option (Int × (List Int))) (f3 : (List Int) → Option (Int × Int × Int × Int × Int × Int × Int × Int × (List Int) × (List Int) × (List Int))) (f4 : (List Int) → Option (Int × Int × Int × Int × Int × Int × Int × Int × (List Int) × (List Int) × (List Int))) (f5 : Int → Option (Int)) (f6 : Int × Int × Int × Int × Int × Int × (List Int) × Int × (List Int) × (List Int) × Int × Int × Int × Int × Int × Int × (List Int) × Int × (List Int) × (List Int) → Option (Bool)) (x : Int × Int × Int × Int × Int × Int × (List Int) × Int × (List Int) × (List Int) × (List Int)) : Option (Bool) :=
  (cond (decide ((20000 : Int) < (wrapF .i64 ((wrapF .i64 ((wrapF .i64 ((((List.length x.2.2.2.2.2.2.2.2.2.1) : Nat) : Int) + (((List.length x.2.2.2.2.2.2.1) : Nat) : Int))) + (((List.length x.2.2.2.2.2.2.2.2.1) : Nat) : Int))) + (((List.length x.2.2.2.2.2.2.2.2.2.2) : Nat) : Int)))))
  (Option.bind (f0 ()) fun r9 =>
  (some r9))
  (Option.bind (f1 (x.1, x.2.1, x.2.2.1, x.2.2.2.1, x.2.2.2.2.1, x.2.2.2.2.2.1, x.2.2.2.2.2.2.1, x.2.2.2.2.2.2.2.1, x.2.2.2.2.2.2.2.2.1, x.2.2.2.2.2.2.2.2.2.1)) fun r10 =>
  (Option.bind (f2 (x.1, x.2.1, x.2.2.1, x.2.2.2.1, x.2.2.2.2.1, x.2.2.2.2.2.1, x.2.2.2.2.2.2.1, x.2.2.2.2.2.2.2.1, x.2.2.2.2.2.2.2.2.1, x.2.2.2.2.2.2.2.2.2.1)) fun r11 =>
  (cond (fits 1 (List.length x.2.2.2.2.2.2.2.2.2.2))
  ((Option.bind (f3 x.2.2.2.2.2.2.2.2.2.2) fun r13 =>
  (Option.bind (f4 x.2.2.2.2.2.2.2.2.2.2) fun r14 =>
  (Option.bind
  (cond (decide ((List.map (fun (n : Int) => UInt8.ofNat n.toNat) r10.2) = (List.map (fun (n : Int) => UInt8.ofNat n.toNat) r11.2)))
  (Option.bind (f5 r10.1) fun r18 =>
  (cond (decide (r18 = r11.1))
  (Option.bind (f6 (r13.1, r13.2.1, r13.2.2.1, r13.2.2.2.1, r13.2.2.2.2.1, r13.2.2.2.2.2.1, r13.2.2.2.2.2.2.2.2.1, r13.2.2.2.2.2.2.1, r13.2.2.2.2.2.2.2.2.2.1, r13.2.2.2.2.2.2.2.2.2.2, r14.1, r14.2.1, r14.2.2.1, r14.2.2.2.1, r14.2.2.2.2.1, r14.2.2.2.2.2.1, r14.2.2.2.2.2.2.2.2.1, r14.2.2.2.2.2.2.1, r14.2.2.2.2.2.2.2.2.2.1, r14.2.2.2.2.2.2.2.2.2.2)) fun r20 =>
  (cond r20
  (Option.bind (f5 r13.2.2.2.2.2.2.2.1) fun r21 =>
  (cond (decide (r21 = r14.2.2.2.2.2.2.2.1))
  (Option.bind (f0 ()) fun r23 =>
  (some r23))
  (some false)))
  (some false)))
  (some false)))
  (some false))
  fun r24 =>
  (some r24)))))
  none))))
theorem granarylaw21_RpcCalls_f (N : Nat) (f0 : Unit → Option (Bool)) (f1 : Int × Int × Int × Int × Int × Int × (List Int) × Int × (List Int) × (List Int) → Option (Int × (List Int))) (f2 : Int × Int × Int × Int × Int × Int × (List Int) × Int × (List Int) × (List Int) → Option (Int × (List Int))) (f3 : (List Int) → Option (Int × Int × Int × Int × Int × Int × Int × Int × (List Int) × (List Int) × (List Int))) (f4 : (List Int) → Option (Int × Int × Int × Int × Int × Int × Int × Int × (List Int) × (List Int) × (List Int))) (f5 : Int → Option (Int)) (f6 : Int × Int × Int × Int × Int × Int × (List Int) × Int × (List Int) × (List Int) × Int × Int × Int × Int × Int × Int × (List Int) × Int × (List Int) × (List Int) → Option (Bool)) (x) : granarylaw21_RpcCalls_a N f0 f1 f2 f3 f4 f5 f6 x = fnStep Γ (granarylaw21_RpcCalls_CA N f0 f1 f2 f3 f4 f5 f6) (granarylaw21_RpcCalls_J N) 78 Try.f8.results.toList (granarylaw21_RpcCalls_g N) granarylaw21_RpcCalls_o granarylaw21_RpcCalls_c x := by kernel_rfl
theorem granarylaw21_RpcCalls_e (N : Nat) (x) : (granarylaw21_RpcCalls_g N).F x = fnStep Γ (granarylaw21_RpcCalls_C N) (granarylaw21_RpcCalls_J N) 78 Try.f8.results.toList (granarylaw21_RpcCalls_g N) granarylaw21_RpcCalls_o granarylaw21_RpcCalls_c x := by
  rw [← granarylaw21_RpcCalls_CE N]
  exact Eq.trans (by kernel_rfl) (granarylaw21_RpcCalls_f N (granarylaw21_live N) (rpc_PutCall N) (granaryref21_PutCall N) (rpc_GetCall N) (granaryref21_GetCall N) (granarylaw21_num) (granaryref21_SameCall) x)
theorem granarylaw21_RpcCalls_y : Try.f8.body = some granarylaw21_RpcCalls_c := by kernel_rfl
theorem granarylaw21_RpcCalls_n : (Try.f8.name == "runtime.NumGoroutine") = false := by kernel_rfl
theorem granarylaw21_RpcCalls_ok (N : Nat) : FnDoes Try.prog 8 (granarylaw21_RpcCalls_g N) := fn_ok tabOK (granarylaw21_RpcCalls_t N) mixedOK (J := granarylaw21_RpcCalls_J N) (body := granarylaw21_RpcCalls_c) Try.func8 granarylaw21_RpcCalls_y granarylaw21_RpcCalls_n Try.ntmps8 (jok_from granarylaw21_RpcCalls_i ⟨trivial, trivial⟩) rfl rfl (le_of_ble rfl) (granarylaw21_RpcCalls_e N)
end Go.Rf.W
