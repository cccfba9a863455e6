/-
  The law's function, printed.
-/
import Derived.Test.YtngehbaakpkoiaaRpcF0
set_option linter.unusedVariables false
set_option maxRecDepth 100000
namespace Go.Rf.W
open Go Go.Rf
noncomputable def granarylaw21_RpcCreds (N : Nat) (x : Int × Int × (List UInt8) × Int × Int × (List Int) × Int × (List Int)) : Option (Bool) :=
  (cond (decide ((20000 : Int) < (wrapF .i64 ((wrapF .i64 ((((List.length x.2.2.1) : Nat) : Int) + (((List.length x.2.2.2.2.2.2.2) : Nat) : Int))) + (wrapF .i64 ((8 : Int) * (((List.length x.2.2.2.2.2.1) : Nat) : Int)))))))
  (Option.bind (granarylaw21_live N ()) fun r8 =>
  (some r8))
  (Option.bind (rpc_PutCred N (x.1, x.2.1, x.2.2.1, x.2.2.2.1, x.2.2.2.2.1, x.2.2.2.2.2.1)) fun r9 =>
  (Option.bind (granaryref21_PutCred N (x.1, x.2.1, x.2.2.1, x.2.2.2.1, x.2.2.2.2.1, x.2.2.2.2.2.1)) fun r10 =>
  (Option.bind (rpc_GetCred_v1 N (x.2.2.2.2.2.2.1, x.2.2.2.2.2.2.2)) fun r11 =>
  (Option.bind (granaryref21_GetCred N (x.2.2.2.2.2.2.1, x.2.2.2.2.2.2.2)) fun r13 =>
  (Option.bind
  (Option.bind (granaryref21_SameAuth (r9.1, r9.2.2, r10.1, r10.2.2)) fun r15 =>
  (cond r15
  (Option.bind (granarylaw21_num r9.2.1) fun r16 =>
  (cond (decide (r16 = r10.2.1))
  (Option.bind (granaryref21_SameCred N (r11.1, r11.2.1, r11.2.2.1, r11.2.2.2.1, r11.2.2.2.2.1, r11.2.2.2.2.2.2, r13.1, r13.2.1, r13.2.2.1, r13.2.2.2.1, r13.2.2.2.2.1, r13.2.2.2.2.2.2)) fun r18 =>
  (cond r18
  (cond (decide (r11.2.2.2.2.2.1 = r13.2.2.2.2.2.1))
  (Option.bind (granarylaw21_live N ()) fun r20 =>
  (some r20))
  (some false))
  (some false)))
  (some false)))
  (some false)))
  fun r21 =>
  (some r21)))))))
end Go.Rf.W
