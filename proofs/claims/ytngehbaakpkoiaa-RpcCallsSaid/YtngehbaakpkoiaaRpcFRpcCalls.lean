/-
  The law's function, printed.
-/
import Derived.Test.YtngehbaakpkoiaaRpcF0
set_option linter.unusedVariables false
set_option maxRecDepth 100000
namespace Go.Rf.W
open Go Go.Rf
noncomputable def granarylaw21_RpcCalls (N : Nat) (x : Int × Int × Int × Int × Int × Int × (List Int) × Int × (List Int) × (List Int) × (List Int)) : Option (Bool) :=
  (cond (decide ((20000 : Int) < (wrapF .i64 ((wrapF .i64 ((wrapF .i64 ((((List.length x.2.2.2.2.2.2.2.2.2.1) : Nat) : Int) + (((List.length x.2.2.2.2.2.2.1) : Nat) : Int))) + (((List.length x.2.2.2.2.2.2.2.2.1) : Nat) : Int))) + (((List.length x.2.2.2.2.2.2.2.2.2.2) : Nat) : Int)))))
  (Option.bind (granarylaw21_live N ()) fun r9 =>
  (some r9))
  (Option.bind (rpc_PutCall N (x.1, x.2.1, x.2.2.1, x.2.2.2.1, x.2.2.2.2.1, x.2.2.2.2.2.1, x.2.2.2.2.2.2.1, x.2.2.2.2.2.2.2.1, x.2.2.2.2.2.2.2.2.1, x.2.2.2.2.2.2.2.2.2.1)) fun r10 =>
  (Option.bind (granaryref21_PutCall N (x.1, x.2.1, x.2.2.1, x.2.2.2.1, x.2.2.2.2.1, x.2.2.2.2.2.1, x.2.2.2.2.2.2.1, x.2.2.2.2.2.2.2.1, x.2.2.2.2.2.2.2.2.1, x.2.2.2.2.2.2.2.2.2.1)) fun r11 =>
  (cond (fits 1 (List.length x.2.2.2.2.2.2.2.2.2.2))
  ((Option.bind (rpc_GetCall N x.2.2.2.2.2.2.2.2.2.2) fun r13 =>
  (Option.bind (granaryref21_GetCall N x.2.2.2.2.2.2.2.2.2.2) fun r14 =>
  (Option.bind
  (cond (decide ((List.map (fun (n : Int) => UInt8.ofNat n.toNat) r10.2) = (List.map (fun (n : Int) => UInt8.ofNat n.toNat) r11.2)))
  (Option.bind (granarylaw21_num r10.1) fun r18 =>
  (cond (decide (r18 = r11.1))
  (Option.bind (granaryref21_SameCall (r13.1, r13.2.1, r13.2.2.1, r13.2.2.2.1, r13.2.2.2.2.1, r13.2.2.2.2.2.1, r13.2.2.2.2.2.2.2.2.1, r13.2.2.2.2.2.2.1, r13.2.2.2.2.2.2.2.2.2.1, r13.2.2.2.2.2.2.2.2.2.2, r14.1, r14.2.1, r14.2.2.1, r14.2.2.2.1, r14.2.2.2.2.1, r14.2.2.2.2.2.1, r14.2.2.2.2.2.2.2.2.1, r14.2.2.2.2.2.2.1, r14.2.2.2.2.2.2.2.2.2.1, r14.2.2.2.2.2.2.2.2.2.2)) fun r20 =>
  (cond r20
  (Option.bind (granarylaw21_num r13.2.2.2.2.2.2.2.1) fun r21 =>
  (cond (decide (r21 = r14.2.2.2.2.2.2.2.1))
  (Option.bind (granarylaw21_live N ()) fun r23 =>
  (some r23))
  (some false)))
  (some false)))
  (some false)))
  (some false))
  fun r24 =>
  (some r24)))))
  none))))
end Go.Rf.W
