/-
  RpcNil, plain: a nil Framer.
-/
import Derived.Test.YtngehbaakpkoiaaRpcFRpcNil
import Derived.Test.YtngehbaakpkoiaaPlRpc
import Derived.Test.YtngehbaakpkoiaaRfC
set_option linter.unusedVariables false
namespace Go.Rf.W.Pure
open Go Go.Rf Go.Rf.W

theorem rpcNil (x : EKs [(.sl (.int .u8))]) (hw : wfs [(.sl (.int .u8))] x) : ∃ N, granarylaw21_RpcNil N x = some true := by
  refine ⟨30000, ?_⟩
  unfold granarylaw21_RpcNil
  by_cases h : 20000 < x.length
  · rw [deT (by omega), cond_true, rpc_live]; rfl
  · rw [deF (by omega), cond_false]
    unfold rpc_Framer_Feed_v2 granarylaw21_num rpc_Framer_Left rpc_Framer_Closed
    simp only [Option.bind_some, decide_true, cond_true, rpc_live]
end Go.Rf.W.Pure
