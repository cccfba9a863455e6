/-
  The law's printed function is what the program does.
-/
import Derived.Test.YtngehbaakpkoiaaRpcK2
import Derived.Test.YtngehbaakpkoiaaRpcFRpcCreds
set_option linter.unusedVariables false
set_option maxRecDepth 100000
namespace Go.Rf.W
open Go Go.Rf Go.Proofs
noncomputable def granarylaw21_RpcCreds_c : Code := codeOf Try.f9.body
noncomputable def granarylaw21_RpcCreds_J (N : Nat) : Nat → Hint := fun cx => hintOf cx [(0, { reg := fun k => assoc0 k [(7, ⟨⟨[(4, (.av (.one .bool)))], [(.keep, true), (.keep, true), (.keep, true), (.keep, true), (.keep, true), (.keep, false), (.keep, true), (.keep, false), (.keep, false), (.keep, true), (.keep, false), (.keep, false), (.keep, true), (.keep, false), (.keep, false), (.keep, true), (.keep, true), (.keep, true), (.keep, true), (.keep, true), (.keep, false), (.keep, false), (.keep, true), (.keep, true), (.keep, true), (.keep, true), (.keep, true), (.keep, false)]⟩, [], [], [.bool]⟩)], cnd := fun k => assoc0 k [], loop := fun k => assoc0 k [], nil := fun k => assoc0 k [], unr := fun k => assocN k [], blk := fun k => assoc0 k [] })]
noncomputable def granarylaw21_RpcCreds_C (N : Nat) : Nat → List GS := fun k => tabOf k [(12, [granarylaw21_live_g N]), (32, [rpc_PutCred_g N]), (33, [granaryref21_PutCred_g N]), (34, [rpc_GetCred_v1_g N]), (35, [granaryref21_GetCred_g N]), (36, [granaryref21_SameAuth_g N]), (23, [granarylaw21_num_g N]), (37, [granaryref21_SameCred_g N])]
def granarylaw21_RpcCreds_o : List (Shp × List Nat) := [(⟨[(0, (.av (.one .bool)))], []⟩, [])]
noncomputable def granarylaw21_RpcCreds_g (N : Nat) : GS := { ins := ⟨[(0, (.av (.agg [(.one (.int .u32)), (.one (.int .u32)), (.one .str), (.one (.int .u32)), (.one (.int .u32)), (.one (.rsl (.int .u32)))]))), (1, (.av (.agg [(.one (.int .u32)), (.one (.rsl (.int .u8)))])))], []⟩, lend := [.keep, .keep], outs := granarylaw21_RpcCreds_o.map fun s => ssOf s.1, its := [.int, .int, .str, .int, .int, .lst (.int .u32), .int, .lst (.int .u8)], ots := [[.bool]], F := granarylaw21_RpcCreds N }
noncomputable def granarylaw21_RpcCreds_CA (N : Nat) (f0 : Unit → Option (Bool)) (f1 : Int × Int × (List UInt8) × Int × Int × (List Int) → Option (Int × Int × (List Int))) (f2 : Int × Int × (List UInt8) × Int × Int × (List Int) → Option (Int × Int × (List Int))) (f3 : Int × (List Int) → Option (Int × Int × (List UInt8) × Int × Int × Int × (List Int))) (f4 : Int × (List Int) → Option (Int × Int × (List UInt8) × Int × Int × Int × (List Int))) (f5 : Int × (List Int) × Int × (List Int) → Option (Bool)) (f6 : Int → Option (Int)) (f7 : Int × Int × (List UInt8) × Int × Int × (List Int) × Int × Int × (List UInt8) × Int × Int × (List Int) → Option (Bool)) : Nat → List GS := fun k => tabOf k [(12, [{ granarylaw21_live_g N with F := f0 }]), (32, [{ rpc_PutCred_g N with F := f1 }]), (33, [{ granaryref21_PutCred_g N with F := f2 }]), (34, [{ rpc_GetCred_v1_g N with F := f3 }]), (35, [{ granaryref21_GetCred_g N with F := f4 }]), (36, [{ granaryref21_SameAuth_g N with F := f5 }]), (23, [{ granarylaw21_num_g N with F := f6 }]), (37, [{ granaryref21_SameCred_g N with F := f7 }])]
theorem granarylaw21_RpcCreds_CE (N : Nat) : granarylaw21_RpcCreds_CA N (granarylaw21_live N) (rpc_PutCred N) (granaryref21_PutCred N) (rpc_GetCred_v1 N) (granaryref21_GetCred N) (granaryref21_SameAuth) (granarylaw21_num) (granaryref21_SameCred N) = granarylaw21_RpcCreds_C N := by kernel_rfl
theorem granarylaw21_RpcCreds_t (N : Nat) : TabC Try.prog (granarylaw21_RpcCreds_C N) := tab_ok ⟨⟨granarylaw21_live_ok N, trivial⟩, ⟨rpc_PutCred_ok N, trivial⟩, ⟨granaryref21_PutCred_ok N, trivial⟩, ⟨rpc_GetCred_v1_ok N, trivial⟩, ⟨granaryref21_GetCred_ok N, trivial⟩, ⟨granaryref21_SameAuth_ok N, trivial⟩, ⟨granarylaw21_num_ok N, trivial⟩, ⟨granaryref21_SameCred_ok N, trivial⟩, trivial⟩
theorem granarylaw21_RpcCreds_i : loopsOf granarylaw21_RpcCreds_c = [] := by kernel_rfl
noncomputable def granarylaw21_RpcCreds_a (N : Nat) (f0 : Unit → Option (Bool)) (f1 : Int × Int × (List UInt8) × Int × Int × (List Int) → Option (Int × Int × (List Int))) (f2 : Int × Int × (List UInt8) × Int × Int × (List Int) → Option (Int × Int × (List Int))) (f3 : Int × (List Int) → Option (Int × Int × (List UInt8) × Int × Int × Int × (List Int))) (f4 : Int × (List Int) → Option (Int × Int × (List UInt8) × Int × Int × Int × (List Int))) (f5 : Int × (List Int) × Int × (List Int) → Option (Bool)) (f6 : Int → Option (Int)) (f7 : Int × Int × (List UInt8) × Int × Int × (List Int) × Int × Int × (List UInt8) × Int × Int × (List Int) → Option (Bool)) (x : Int × Int × (List UInt8) × Int × Int × (List Int) × Int × (List Int)) : Option (Bool) :=
  (cond (decide ((20000 : Int) < (wrapF .i64 ((wrapF .i64 ((((List.length x.2.2.1) : Nat) : Int) + (((List.length x.2.2.2.2.2.2.2) : Nat) : Int))) + (wrapF .i64 ((8 : Int) * (((List.length x.2.2.2.2.2.1) : Nat) : Int)))))))
  (Option.bind (f0 ()) fun r8 =>
  (some r8))
  (Option.bind (f1 (x.1, x.2.1, x.2.2.1, x.2.2.2.1, x.2.2.2.2.1, x.2.2.2.2.2.1)) fun r9 =>
  (Option.bind (f2 (x.1, x.2.1, x.2.2.1, x.2.2.2.1, x.2.2.2.2.1, x.2.2.2.2.2.1)) fun r10 =>
  (Option.bind (f3 (x.2.2.2.2.2.2.1, x.2.2.2.2.2.2.2)) fun r11 =>
  (Option.bind (f4 (x.2.2.2.2.2.2.1, x.2.2.2.2.2.2.2)) fun r13 =>
  (Option.bind
  (Option.bind (f5 (r9.1, r9.2.2, r10.1, r10.2.2)) fun r15 =>
  (cond r15
  (Option.bind (f6 r9.2.1) fun r16 =>
  (cond (decide (r16 = r10.2.1))
  (Option.bind (f7 (r11.1, r11.2.1, r11.2.2.1, r11.2.2.2.1, r11.2.2.2.2.1, r11.2.2.2.2.2.2, r13.1, r13.2.1, r13.2.2.1, r13.2.2.2.1, r13.2.2.2.2.1, r13.2.2.2.2.2.2)) fun r18 =>
  (cond r18
  (cond (decide (r11.2.2.2.2.2.1 = r13.2.2.2.2.2.1))
  (Option.bind (f0 ()) fun r20 =>
  (some r20))
  (some false))
  (some false)))
  (some false)))
  (some false)))
  fun r21 =>
  (some r21)))))))
theorem granarylaw21_RpcCreds_f (N : Nat) (f0 : Unit → Option (Bool)) (f1 : Int × Int × (List UInt8) × Int × Int × (List Int) → Option (Int × Int × (List Int))) (f2 : Int × Int × (List UInt8) × Int × Int × (List Int) → Option (Int × Int × (List Int))) (f3 : Int × (List Int) → Option (Int × Int × (List UInt8) × Int × Int × Int × (List Int))) (f4 : Int × (List Int) → Option (Int × Int × (List UInt8) × Int × Int × Int × (List Int))) (f5 : Int × (List Int) × Int × (List Int) → Option (Bool)) (f6 : Int → Option (Int)) (f7 : Int × Int × (List UInt8) × Int × Int × (List Int) × Int × Int × (List UInt8) × Int × Int × (List Int) → Option (Bool)) (x) : granarylaw21_RpcCreds_a N f0 f1 f2 f3 f4 f5 f6 f7 x = fnStep Γ (granarylaw21_RpcCreds_CA N f0 f1 f2 f3 f4 f5 f6 f7) (granarylaw21_RpcCreds_J N) 69 Try.f9.results.toList (granarylaw21_RpcCreds_g N) granarylaw21_RpcCreds_o granarylaw21_RpcCreds_c x := by kernel_rfl
theorem granarylaw21_RpcCreds_e (N : Nat) (x) : (granarylaw21_RpcCreds_g N).F x = fnStep Γ (granarylaw21_RpcCreds_C N) (granarylaw21_RpcCreds_J N) 69 Try.f9.results.toList (granarylaw21_RpcCreds_g N) granarylaw21_RpcCreds_o granarylaw21_RpcCreds_c x := by
  rw [← granarylaw21_RpcCreds_CE N]
  exact Eq.trans (by kernel_rfl) (granarylaw21_RpcCreds_f N (granarylaw21_live N) (rpc_PutCred N) (granaryref21_PutCred N) (rpc_GetCred_v1 N) (granaryref21_GetCred N) (granaryref21_SameAuth) (granarylaw21_num) (granaryref21_SameCred N) x)
theorem granarylaw21_RpcCreds_y : Try.f9.body = some granarylaw21_RpcCreds_c := by kernel_rfl
theorem granarylaw21_RpcCreds_n : (Try.f9.name == "runtime.NumGoroutine") = false := by kernel_rfl
theorem granarylaw21_RpcCreds_ok (N : Nat) : FnDoes Try.prog 9 (granarylaw21_RpcCreds_g N) := fn_ok tabOK (granarylaw21_RpcCreds_t N) mixedOK (J := granarylaw21_RpcCreds_J N) (body := granarylaw21_RpcCreds_c) Try.func9 granarylaw21_RpcCreds_y granarylaw21_RpcCreds_n Try.ntmps9 (jok_from granarylaw21_RpcCreds_i ⟨trivial, trivial⟩) rfl rfl (le_of_ble rfl) (granarylaw21_RpcCreds_e N)
end Go.Rf.W
