/-
  The law's function, printed.
-/
import Derived.Test.YtngehbaakpkoiaaRpcF0
set_option linter.unusedVariables false
set_option maxRecDepth 100000
namespace Go.Rf.W
open Go Go.Rf
noncomputable def granarylaw21_RpcClasses_b0 (N : Nat) (next : (List Int) × Int × (List Int) → Option (((List Int)))) (x : (List Int) × Int × (List Int)) : Option (((List Int))) :=
  (cond (decide (x.2.1 < (((List.length x.2.2) : Nat) : Int)))
  (cond ((decide ((0 : Int) ≤ x.2.1)) && (decide (x.2.1 < (((List.length x.2.2) : Nat) : Int))))
  ((let v3 : Nat := (Int.toNat x.2.1)
  (cond (decide (v3 < (List.length x.2.2)))
  ((cond ((decide ((0 : Int) ≤ x.2.1)) && (decide (x.2.1 < (((List.length x.2.2) : Nat) : Int))))
  ((let v6 : Nat := (Int.toNat x.2.1)
  (cond (decide (v6 < (List.length x.2.2)))
  ((next (x.1, (wrapF .i64 (x.2.1 + (1 : Int))), (List.set x.2.2 v6 (xorF .u8 (List.getD x.2.2 v3 (EK.dflt (.int .u8))) (85 : Int))))))
  none)))
  none))
  none)))
  none)
  (some x.2.2))
noncomputable def granarylaw21_RpcClasses_l0 (N : Nat) : (List Int) × Int × (List Int) → Option (((List Int))) := loopF (granarylaw21_RpcClasses_b0 N) N
noncomputable def granarylaw21_RpcClasses (N : Nat) (x : (List Int)) : Option (Bool) :=
  (cond (decide ((20000 : Int) < (((List.length x) : Nat) : Int)))
  (Option.bind (granarylaw21_live N ()) fun r3 =>
  (some r3))
  (cond (fits 1 (List.length x))
  ((Option.bind (rpc_Classify N x) fun r5 =>
  (Option.bind
  (Option.bind (granaryref21_Classify N x) fun r7 =>
  (Option.bind (granaryref21_SameClass N (r5.1, r5.2.1, r5.2.2.1, r5.2.2.2.1, r5.2.2.2.2.1, r5.2.2.2.2.2.1, ([] : List Int), r5.2.2.2.2.2.2.1, r5.2.2.2.2.2.2.2.1, r5.2.2.2.2.2.2.2.2.1, r5.2.2.2.2.2.2.2.2.2.1, r5.2.2.2.2.2.2.2.2.2.2.1, r5.2.2.2.2.2.2.2.2.2.2.2.1, r5.2.2.2.2.2.2.2.2.2.2.2.2.2.2.2.2.2.2.1, r5.2.2.2.2.2.2.2.2.2.2.2.2.1, r5.2.2.2.2.2.2.2.2.2.2.2.2.2.2.2.2.2.2.2.1, r5.2.2.2.2.2.2.2.2.2.2.2.2.2.2.2.2.2.2.2.2.1, r5.2.2.2.2.2.2.2.2.2.2.2.2.2.1, r5.2.2.2.2.2.2.2.2.2.2.2.2.2.2.1, r5.2.2.2.2.2.2.2.2.2.2.2.2.2.2.2.1, r5.2.2.2.2.2.2.2.2.2.2.2.2.2.2.2.2.1, r5.2.2.2.2.2.2.2.2.2.2.2.2.2.2.2.2.2.1, r5.2.2.2.2.2.2.2.2.2.2.2.2.2.2.2.2.2.2.2.2.2, r7.1, r7.2.1, r7.2.2.1, r7.2.2.2.1, r7.2.2.2.2.1, r7.2.2.2.2.2.1, ([] : List Int), r7.2.2.2.2.2.2.1, r7.2.2.2.2.2.2.2.1, r7.2.2.2.2.2.2.2.2.1, r7.2.2.2.2.2.2.2.2.2.1, r7.2.2.2.2.2.2.2.2.2.2.1, r7.2.2.2.2.2.2.2.2.2.2.2.1, r7.2.2.2.2.2.2.2.2.2.2.2.2.2.2.2.2.2.2.1, r7.2.2.2.2.2.2.2.2.2.2.2.2.1, r7.2.2.2.2.2.2.2.2.2.2.2.2.2.2.2.2.2.2.2.1, r7.2.2.2.2.2.2.2.2.2.2.2.2.2.2.2.2.2.2.2.2.1, r7.2.2.2.2.2.2.2.2.2.2.2.2.2.1, r7.2.2.2.2.2.2.2.2.2.2.2.2.2.2.1, r7.2.2.2.2.2.2.2.2.2.2.2.2.2.2.2.1, r7.2.2.2.2.2.2.2.2.2.2.2.2.2.2.2.2.1, r7.2.2.2.2.2.2.2.2.2.2.2.2.2.2.2.2.2.1, r7.2.2.2.2.2.2.2.2.2.2.2.2.2.2.2.2.2.2.2.2.2)) fun r8 =>
  (cond (!r8)
  (some true)
  (some (!(decide ((List.map (fun (n : Int) => UInt8.ofNat n.toNat) x) = (List.map (fun (n : Int) => UInt8.ofNat n.toNat) x))))))))
  fun r13 =>
  (cond r13
  (some false)
  (Option.bind (granarylaw21_RpcClasses_l0 N (x, (0 : Int), x)) fun r14 =>
  (Option.bind
  (Option.bind (granaryref21_Classify N x) fun r15 =>
  (Option.bind (granaryref21_SameClass N (r5.1, r5.2.1, r5.2.2.1, r5.2.2.2.1, r5.2.2.2.2.1, r5.2.2.2.2.2.1, ([] : List Int), r5.2.2.2.2.2.2.1, r5.2.2.2.2.2.2.2.1, r5.2.2.2.2.2.2.2.2.1, r5.2.2.2.2.2.2.2.2.2.1, r5.2.2.2.2.2.2.2.2.2.2.1, r5.2.2.2.2.2.2.2.2.2.2.2.1, r5.2.2.2.2.2.2.2.2.2.2.2.2.2.2.2.2.2.2.1, r5.2.2.2.2.2.2.2.2.2.2.2.2.1, r5.2.2.2.2.2.2.2.2.2.2.2.2.2.2.2.2.2.2.2.1, r5.2.2.2.2.2.2.2.2.2.2.2.2.2.2.2.2.2.2.2.2.1, r5.2.2.2.2.2.2.2.2.2.2.2.2.2.1, r5.2.2.2.2.2.2.2.2.2.2.2.2.2.2.1, r5.2.2.2.2.2.2.2.2.2.2.2.2.2.2.2.1, r5.2.2.2.2.2.2.2.2.2.2.2.2.2.2.2.2.1, r5.2.2.2.2.2.2.2.2.2.2.2.2.2.2.2.2.2.1, r5.2.2.2.2.2.2.2.2.2.2.2.2.2.2.2.2.2.2.2.2.2, r15.1, r15.2.1, r15.2.2.1, r15.2.2.2.1, r15.2.2.2.2.1, r15.2.2.2.2.2.1, ([] : List Int), r15.2.2.2.2.2.2.1, r15.2.2.2.2.2.2.2.1, r15.2.2.2.2.2.2.2.2.1, r15.2.2.2.2.2.2.2.2.2.1, r15.2.2.2.2.2.2.2.2.2.2.1, r15.2.2.2.2.2.2.2.2.2.2.2.1, r15.2.2.2.2.2.2.2.2.2.2.2.2.2.2.2.2.2.2.1, r15.2.2.2.2.2.2.2.2.2.2.2.2.1, r15.2.2.2.2.2.2.2.2.2.2.2.2.2.2.2.2.2.2.2.1, r15.2.2.2.2.2.2.2.2.2.2.2.2.2.2.2.2.2.2.2.2.1, r15.2.2.2.2.2.2.2.2.2.2.2.2.2.1, r15.2.2.2.2.2.2.2.2.2.2.2.2.2.2.1, r15.2.2.2.2.2.2.2.2.2.2.2.2.2.2.2.1, r15.2.2.2.2.2.2.2.2.2.2.2.2.2.2.2.2.1, r15.2.2.2.2.2.2.2.2.2.2.2.2.2.2.2.2.2.1, r15.2.2.2.2.2.2.2.2.2.2.2.2.2.2.2.2.2.2.2.2.2)) fun r16 =>
  (cond r16
  (Option.bind (granarylaw21_live N ()) fun r17 =>
  (some r17))
  (some false))))
  fun r18 =>
  (some r18)))))))
  none))
end Go.Rf.W
