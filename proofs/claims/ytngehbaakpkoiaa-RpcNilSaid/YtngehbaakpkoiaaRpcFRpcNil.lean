/-
  The law's function, printed.
-/
import Derived.Test.YtngehbaakpkoiaaRpcF0
set_option linter.unusedVariables false
set_option maxRecDepth 100000
namespace Go.Rf.W
open Go Go.Rf
noncomputable def granarylaw21_RpcNil (N : Nat) (x : (List Int)) : Option (Bool) :=
  (cond (decide ((20000 : Int) < (((List.length x) : Nat) : Int)))
  (Option.bind (granarylaw21_live N ()) fun r3 =>
  (some r3))
  (Option.bind (rpc_Framer_Feed_v2 x) fun r4 =>
  (Option.bind
  (Option.bind (granarylaw21_num (7 : Int)) fun r5 =>
  (cond (decide (r5 = (7 : Int)))
  (Option.bind (rpc_Framer_Left ()) fun r7 =>
  (Option.bind (rpc_Framer_Closed ()) fun r8 =>
  (Option.bind (granarylaw21_live N ()) fun r9 =>
  (some r9))))
  (some false)))
  fun r10 =>
  (some r10))))
end Go.Rf.W
