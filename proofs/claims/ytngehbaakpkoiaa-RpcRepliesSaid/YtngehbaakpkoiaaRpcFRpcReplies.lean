/-
  The law's function, printed.
-/
import Derived.Test.YtngehbaakpkoiaaRpcF0
set_option linter.unusedVariables false
set_option maxRecDepth 100000
namespace Go.Rf.W
open Go Go.Rf
noncomputable def granarylaw21_RpcReplies (N : Nat) (x : Int × Int × Int × Int × Int × (List Int) × (List Int)) : Option (Bool) :=
  (cond (decide ((20000 : Int) < (wrapF .i64 ((((List.length x.2.2.2.2.2.1) : Nat) : Int) + (((List.length x.2.2.2.2.2.2) : Nat) : Int)))))
  (Option.bind (granarylaw21_live N ()) fun r5 =>
  (some r5))
  (Option.bind (rpc_PutReply N (x.1, x.2.1, x.2.2.1, x.2.2.2.1, x.2.2.2.2.1, x.2.2.2.2.2.1)) fun r6 =>
  (Option.bind (granaryref21_PutReply (x.1, x.2.1, x.2.2.1, x.2.2.2.1, x.2.2.2.2.1, x.2.2.2.2.2.1)) fun r7 =>
  (cond (fits 1 (List.length x.2.2.2.2.2.2))
  ((Option.bind (rpc_GetReply N x.2.2.2.2.2.2) fun r9 =>
  (Option.bind (granaryref21_GetReply N x.2.2.2.2.2.2) fun r10 =>
  (Option.bind
  (cond (decide ((List.map (fun (n : Int) => UInt8.ofNat n.toNat) r6.2) = (List.map (fun (n : Int) => UInt8.ofNat n.toNat) r7.2)))
  (Option.bind (granarylaw21_num r6.1) fun r14 =>
  (cond (decide (r14 = r7.1))
  (Option.bind (granaryref21_SameReply (r9.1, r9.2.1, r9.2.2.1, r9.2.2.2.1, r9.2.2.2.2.1, r9.2.2.2.2.2.2, r10.1, r10.2.1, r10.2.2.1, r10.2.2.2.1, r10.2.2.2.2.1, r10.2.2.2.2.2.2)) fun r16 =>
  (cond r16
  (Option.bind (granarylaw21_num r9.2.2.2.2.2.1) fun r17 =>
  (cond (decide (r17 = r10.2.2.2.2.2.1))
  (Option.bind (granarylaw21_live N ()) fun r19 =>
  (some r19))
  (some false)))
  (some false)))
  (some false)))
  (some false))
  fun r20 =>
  (some r20)))))
  none))))
end Go.Rf.W
