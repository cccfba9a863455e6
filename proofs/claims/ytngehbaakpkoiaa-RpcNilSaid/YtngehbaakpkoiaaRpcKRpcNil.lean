/-
  The law's printed function is what the program does.
-/
import Derived.Test.YtngehbaakpkoiaaRpcK1
import Derived.Test.YtngehbaakpkoiaaRpcFRpcNil
set_option linter.unusedVariables false
set_option maxRecDepth 100000
namespace Go.Rf.W
open Go Go.Rf Go.Proofs
noncomputable def granarylaw21_RpcNil_c : Code := codeOf Try.f7.body
noncomputable def granarylaw21_RpcNil_J (N : Nat) : Nat → Hint := fun cx => hintOf cx [(0, { reg := fun k => assoc0 k [(5, ⟨⟨[(2, (.av (.one .bool)))], []⟩, [], [], [.bool]⟩)], cnd := fun k => assoc0 k [], loop := fun k => assoc0 k [], nil := fun k => assoc0 k [(13, (.arr 2 .unit))], unr := fun k => assocN k [], blk := fun k => assoc0 k [] })]
noncomputable def granarylaw21_RpcNil_C (N : Nat) : Nat → List GS := fun k => tabOf k [(12, [granarylaw21_live_g N]), (20, [rpc_Framer_Feed_v2_g N]), (23, [granarylaw21_num_g N]), (24, [rpc_Framer_Left_g N]), (26, [rpc_Framer_Closed_g N])]
def granarylaw21_RpcNil_o : List (Shp × List Nat) := [(⟨[(0, (.av (.one .bool)))], []⟩, [])]
noncomputable def granarylaw21_RpcNil_g (N : Nat) : GS := { ins := ⟨[(0, (.av (.one (.rsl (.int .u8)))))], []⟩, lend := [.keep], outs := granarylaw21_RpcNil_o.map fun s => ssOf s.1, its := [.lst (.int .u8)], ots := [[.bool]], F := granarylaw21_RpcNil N }
noncomputable def granarylaw21_RpcNil_CA (N : Nat) (f0 : Unit → Option (Bool)) (f1 : (List Int) → Option (Unit)) (f2 : Int → Option (Int)) (f3 : Unit → Option (Unit)) (f4 : Unit → Option (Unit)) : Nat → List GS := fun k => tabOf k [(12, [{ granarylaw21_live_g N with F := f0 }]), (20, [{ rpc_Framer_Feed_v2_g N with F := f1 }]), (23, [{ granarylaw21_num_g N with F := f2 }]), (24, [{ rpc_Framer_Left_g N with F := f3 }]), (26, [{ rpc_Framer_Closed_g N with F := f4 }])]
theorem granarylaw21_RpcNil_CE (N : Nat) : granarylaw21_RpcNil_CA N (granarylaw21_live N) (rpc_Framer_Feed_v2) (granarylaw21_num) (rpc_Framer_Left) (rpc_Framer_Closed) = granarylaw21_RpcNil_C N := by kernel_rfl
theorem granarylaw21_RpcNil_t (N : Nat) : TabC Try.prog (granarylaw21_RpcNil_C N) := tab_ok ⟨⟨granarylaw21_live_ok N, trivial⟩, ⟨rpc_Framer_Feed_v2_ok N, trivial⟩, ⟨granarylaw21_num_ok N, trivial⟩, ⟨rpc_Framer_Left_ok N, trivial⟩, ⟨rpc_Framer_Closed_ok N, trivial⟩, trivial⟩
theorem granarylaw21_RpcNil_i : loopsOf granarylaw21_RpcNil_c = [] := by kernel_rfl
noncomputable def granarylaw21_RpcNil_a (N : Nat) (f0 : Unit → Option (Bool)) (f1 : (List Int) → Option (Unit)) (f2 : Int → Option (Int)) (f3 : Unit → Option (Unit)) (f4 : Unit → Option (Unit)) (x : (List Int)) : Option (Bool) :=
  (cond (decide ((20000 : Int) < (((List.length x) : Nat) : Int)))
  (Option.bind (f0 ()) fun r3 =>
  (some r3))
  (Option.bind (f1 x) fun r4 =>
  (Option.bind
  (Option.bind (f2 (7 : Int)) fun r5 =>
  (cond (decide (r5 = (7 : Int)))
  (Option.bind (f3 ()) fun r7 =>
  (Option.bind (f4 ()) fun r8 =>
  (Option.bind (f0 ()) fun r9 =>
  (some r9))))
  (some false)))
  fun r10 =>
  (some r10))))
theorem granarylaw21_RpcNil_f (N : Nat) (f0 : Unit → Option (Bool)) (f1 : (List Int) → Option (Unit)) (f2 : Int → Option (Int)) (f3 : Unit → Option (Unit)) (f4 : Unit → Option (Unit)) (x) : granarylaw21_RpcNil_a N f0 f1 f2 f3 f4 x = fnStep Γ (granarylaw21_RpcNil_CA N f0 f1 f2 f3 f4) (granarylaw21_RpcNil_J N) 37 Try.f7.results.toList (granarylaw21_RpcNil_g N) granarylaw21_RpcNil_o granarylaw21_RpcNil_c x := by kernel_rfl
theorem granarylaw21_RpcNil_e (N : Nat) (x) : (granarylaw21_RpcNil_g N).F x = fnStep Γ (granarylaw21_RpcNil_C N) (granarylaw21_RpcNil_J N) 37 Try.f7.results.toList (granarylaw21_RpcNil_g N) granarylaw21_RpcNil_o granarylaw21_RpcNil_c x := by
  rw [← granarylaw21_RpcNil_CE N]
  exact Eq.trans (by kernel_rfl) (granarylaw21_RpcNil_f N (granarylaw21_live N) (rpc_Framer_Feed_v2) (granarylaw21_num) (rpc_Framer_Left) (rpc_Framer_Closed) x)
theorem granarylaw21_RpcNil_y : Try.f7.body = some granarylaw21_RpcNil_c := by kernel_rfl
theorem granarylaw21_RpcNil_n : (Try.f7.name == "runtime.NumGoroutine") = false := by kernel_rfl
theorem granarylaw21_RpcNil_ok (N : Nat) : FnDoes Try.prog 7 (granarylaw21_RpcNil_g N) := fn_ok tabOK (granarylaw21_RpcNil_t N) mixedOK (J := granarylaw21_RpcNil_J N) (body := granarylaw21_RpcNil_c) Try.func7 granarylaw21_RpcNil_y granarylaw21_RpcNil_n Try.ntmps7 (jok_from granarylaw21_RpcNil_i ⟨trivial, trivial⟩) rfl rfl (le_of_ble rfl) (granarylaw21_RpcNil_e N)
end Go.Rf.W
