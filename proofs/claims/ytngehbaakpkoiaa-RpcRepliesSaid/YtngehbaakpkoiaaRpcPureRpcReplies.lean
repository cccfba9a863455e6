/-
  RpcReplies, plain.
-/
import Derived.Test.YtngehbaakpkoiaaRpcFRpcReplies
import Derived.Test.YtngehbaakpkoiaaPlRpcRepS
import Derived.Test.YtngehbaakpkoiaaPlRpc
import Derived.Test.YtngehbaakpkoiaaRfC
set_option linter.unusedVariables false
set_option maxRecDepth 10000
namespace Go.Rf.W.Pure
open Go Go.Rf Go.Rf.W

theorem replies_core {x lo hi why : Nat} {k : Int} {data D : List Int} (hx : x < 4294967296) (hl : lo < 4294967296) (hh : hi < 4294967296) (hy : why < 4294967296) (hb : Bts D) (l1 : data.length ≤ 140737488355328) (l2 : D.length ≤ 140737488355328) :
    granarylaw21_RpcReplies 30000 ((x : Int), k, (lo : Int), (hi : Int), (why : Int), data, D) = some true := by
  unfold granarylaw21_RpcReplies
  dsimp only
  rw [wrapF_i64 (by omega) (by omega)]
  by_cases h : (20000 : Int) < ((data.length : Nat) : Int) + ((D.length : Nat) : Int)
  · rw [deT h, cond_true, rpc_live]; rfl
  rw [deF h, cond_false]
  obtain ⟨r, e1, e2⟩ := getReply_both (N := 30000) hb (by omega) (by decide)
  have hn : ∀ n, granarylaw21_num n = some n := fun _ => rfl
  rw [putReply_ok hx hl hh hy (by omega) (by decide), rputReply_ok (by omega), Option.bind_some, Option.bind_some, fits1 (by omega), cond_true, e1, e2, Option.bind_some, Option.bind_some, deS, cond_true, hn, Option.bind_some, deS, cond_true, same_reply, Option.bind_some, cond_true, hn, Option.bind_some, deS, cond_true, rpc_live]
  rfl

theorem rpcReplies (x : EKs [(.pair (.int .u32) (.pair (.int .i64) (.pair (.int .u32) (.pair (.int .u32) (.pair (.int .u32) (.pair (.sl (.int .u8)) .unit)))))), (.sl (.int .u8))]) (hw : wfs [(.pair (.int .u32) (.pair (.int .i64) (.pair (.int .u32) (.pair (.int .u32) (.pair (.int .u32) (.pair (.sl (.int .u8)) .unit)))))), (.sl (.int .u8))] x) (hr : rchs [(.pair (.int .u32) (.pair (.int .i64) (.pair (.int .u32) (.pair (.int .u32) (.pair (.int .u32) (.pair (.sl (.int .u8)) .unit)))))), (.sl (.int .u8))] x) : ∃ N, granarylaw21_RpcReplies N (x.1.1, x.1.2.1, x.1.2.2.1, x.1.2.2.2.1, x.1.2.2.2.2.1, x.1.2.2.2.2.2.1, x.2) = some true := by
  refine ⟨30000, ?_⟩
  obtain ⟨⟨w1, w2, w3, w4, w5, w6, _⟩, wD⟩ := hw
  obtain ⟨⟨_, _, _, _, _, r6, _⟩, rD⟩ := hr
  obtain ⟨a1, e1, h1⟩ := wf_u32 w1
  obtain ⟨a3, e3, h3⟩ := wf_u32 w3
  obtain ⟨a4, e4, h4⟩ := wf_u32 w4
  obtain ⟨a5, e5, h5⟩ := wf_u32 w5
  rw [e1, e3, e4, e5]
  exact replies_core h1 h3 h4 h5 (wf_bytes wD) r6 rD

end Go.Rf.W.Pure
