/-
  The law's printed function is what the program does.
-/
import Derived.Test.YtngehbaakpkoiaaRpcK1
import Derived.Test.YtngehbaakpkoiaaRpcFRpcFrames
set_option linter.unusedVariables false
set_option maxRecDepth 100000
namespace Go.Rf.W
open Go Go.Rf Go.Proofs
noncomputable def granarylaw21_RpcFrames_c : Code := codeOf Try.f3.body
noncomputable def granarylaw21_RpcFrames_J (N : Nat) : Nat → Hint := fun cx => hintOf cx [(0, { reg := fun k => assoc0 k [(1, ⟨⟨[(13, (.av (.one .bool)))], []⟩, [], [], [.bool]⟩), (4, ⟨⟨[(4, (.av (.one .bool)))], [(.keep, false), (.keep, false)]⟩, [], [], [.bool]⟩)], cnd := fun k => assoc0 k [], loop := fun k => assoc0 k [], nil := fun k => assoc0 k [], unr := fun k => assocN k [], blk := fun k => assoc0 k [] })]
noncomputable def granarylaw21_RpcFrames_C (N : Nat) : Nat → List GS := fun k => tabOf k [(12, [granarylaw21_live_g N]), (13, [rpc_Frame_g N]), (14, [granaryref21_Frame_g N])]
def granarylaw21_RpcFrames_o : List (Shp × List Nat) := [(⟨[(0, (.av (.one .bool)))], []⟩, [])]
noncomputable def granarylaw21_RpcFrames_g (N : Nat) : GS := { ins := ⟨[(0, (.av (.one (.rsl (.int .u8))))), (1, (.av (.one (.rsl (.int .i64)))))], []⟩, lend := [.keep, .keep], outs := granarylaw21_RpcFrames_o.map fun s => ssOf s.1, its := [.lst (.int .u8), .lst (.int .i64)], ots := [[.bool]], F := granarylaw21_RpcFrames N }
noncomputable def granarylaw21_RpcFrames_CA (N : Nat) (f0 : Unit → Option (Bool)) (f1 : (List Int) × (List Int) → Option ((List Int))) (f2 : (List Int) × (List Int) → Option ((List Int))) : Nat → List GS := fun k => tabOf k [(12, [{ granarylaw21_live_g N with F := f0 }]), (13, [{ rpc_Frame_g N with F := f1 }]), (14, [{ granaryref21_Frame_g N with F := f2 }])]
theorem granarylaw21_RpcFrames_CE (N : Nat) : granarylaw21_RpcFrames_CA N (granarylaw21_live N) (rpc_Frame N) (granaryref21_Frame N) = granarylaw21_RpcFrames_C N := by kernel_rfl
theorem granarylaw21_RpcFrames_t (N : Nat) : TabC Try.prog (granarylaw21_RpcFrames_C N) := tab_ok ⟨⟨granarylaw21_live_ok N, trivial⟩, ⟨rpc_Frame_ok N, trivial⟩, ⟨granaryref21_Frame_ok N, trivial⟩, trivial⟩
theorem granarylaw21_RpcFrames_i : loopsOf granarylaw21_RpcFrames_c = [] := by kernel_rfl
noncomputable def granarylaw21_RpcFrames_a (N : Nat) (f0 : Unit → Option (Bool)) (f1 : (List Int) × (List Int) → Option ((List Int))) (f2 : (List Int) × (List Int) → Option ((List Int))) (x : (List Int) × (List Int)) : Option (Bool) :=
  (Option.bind
  (cond (decide ((20000 : Int) < (((List.length x.1) : Nat) : Int)))
  (some true)
  (some (decide ((60 : Int) < (((List.length x.2) : Nat) : Int)))))
  fun r5 =>
  (cond r5
  (Option.bind (f0 ()) fun r6 =>
  (some r6))
  (cond (fits 1 (List.length x.1))
  ((Option.bind
  (cond (fits 8 (List.length x.2))
  ((Option.bind (f1 (x.1, x.2)) fun r9 =>
  (Option.bind (f2 (x.1, x.2)) fun r11 =>
  (cond (decide ((List.map (fun (n : Int) => UInt8.ofNat n.toNat) r9) = (List.map (fun (n : Int) => UInt8.ofNat n.toNat) r11)))
  (cond (decide ((List.map (fun (n : Int) => UInt8.ofNat n.toNat) x.1) = (List.map (fun (n : Int) => UInt8.ofNat n.toNat) x.1)))
  (Option.bind (f0 ()) fun r17 =>
  (some r17))
  (some false))
  (some false)))))
  none)
  fun r18 =>
  (some r18)))
  none)))
theorem granarylaw21_RpcFrames_f (N : Nat) (f0 : Unit → Option (Bool)) (f1 : (List Int) × (List Int) → Option ((List Int))) (f2 : (List Int) × (List Int) → Option ((List Int))) (x) : granarylaw21_RpcFrames_a N f0 f1 f2 x = fnStep Γ (granarylaw21_RpcFrames_CA N f0 f1 f2) (granarylaw21_RpcFrames_J N) 39 Try.f3.results.toList (granarylaw21_RpcFrames_g N) granarylaw21_RpcFrames_o granarylaw21_RpcFrames_c x := by kernel_rfl
theorem granarylaw21_RpcFrames_e (N : Nat) (x) : (granarylaw21_RpcFrames_g N).F x = fnStep Γ (granarylaw21_RpcFrames_C N) (granarylaw21_RpcFrames_J N) 39 Try.f3.results.toList (granarylaw21_RpcFrames_g N) granarylaw21_RpcFrames_o granarylaw21_RpcFrames_c x := by
  rw [← granarylaw21_RpcFrames_CE N]
  exact Eq.trans (by kernel_rfl) (granarylaw21_RpcFrames_f N (granarylaw21_live N) (rpc_Frame N) (granaryref21_Frame N) x)
theorem granarylaw21_RpcFrames_y : Try.f3.body = some granarylaw21_RpcFrames_c := by kernel_rfl
theorem granarylaw21_RpcFrames_n : (Try.f3.name == "runtime.NumGoroutine") = false := by kernel_rfl
theorem granarylaw21_RpcFrames_ok (N : Nat) : FnDoes Try.prog 3 (granarylaw21_RpcFrames_g N) := fn_ok tabOK (granarylaw21_RpcFrames_t N) mixedOK (J := granarylaw21_RpcFrames_J N) (body := granarylaw21_RpcFrames_c) Try.func3 granarylaw21_RpcFrames_y granarylaw21_RpcFrames_n Try.ntmps3 (jok_from granarylaw21_RpcFrames_i ⟨trivial, trivial⟩) rfl rfl (le_of_ble rfl) (granarylaw21_RpcFrames_e N)
end Go.Rf.W
