/-
  RpcCalls, plain.
-/
import Derived.Test.YtngehbaakpkoiaaRpcFRpcCalls
import Derived.Test.YtngehbaakpkoiaaPlRpcCall
import Derived.Test.YtngehbaakpkoiaaPlRpc
import Derived.Test.YtngehbaakpkoiaaRfC
set_option linter.unusedVariables false
set_option maxRecDepth 10000
namespace Go.Rf.W.Pure
open Go Go.Rf Go.Rf.W


theorem calls_core {x1 x2 x3 x4 x5 cf vf : Nat} {cb vb p D : List Int} (h1 : x1 < 4294967296) (h2 : x2 < 4294967296) (h3 : x3 < 4294967296) (h4 : x4 < 4294967296) (h5 : x5 < 4294967296) (hc : cf < 4294967296) (hv : vf < 4294967296)
    (hb : Bts D) (l1 : cb.length ≤ 140737488355328) (l2 : vb.length ≤ 140737488355328) (l3 : p.length ≤ 140737488355328) (l4 : D.length ≤ 140737488355328) :
    granarylaw21_RpcCalls 30000 ((x1 : Int), (x2 : Int), (x3 : Int), (x4 : Int), (x5 : Int), (cf : Int), cb, (vf : Int), vb, p, D) = some true := by
  unfold granarylaw21_RpcCalls
  dsimp only
  rw [wrapF_i64 (n := ((p.length : Nat) : Int) + ((cb.length : Nat) : Int)) (by omega) (by omega), wrapF_i64 (n := ((p.length : Nat) : Int) + ((cb.length : Nat) : Int) + ((vb.length : Nat) : Int)) (by omega) (by omega), wrapF_i64 (by omega) (by omega)]
  by_cases h : (20000 : Int) < ((p.length : Nat) : Int) + ((cb.length : Nat) : Int) + ((vb.length : Nat) : Int) + ((D.length : Nat) : Int)
  · rw [deT h, cond_true, rpc_live]; rfl
  rw [deF h, cond_false]
  obtain ⟨r, e1, e2⟩ := putCall_both (N := 30000) (p := p) h1 h2 h3 h4 h5 hc hv (by omega : cb.length ≤ 30000) (by omega : vb.length ≤ 30000) (by omega) (by decide)
  obtain ⟨q, f1, f2⟩ := getCall_both (N := 30000) hb (by omega) (by decide)
  rw [e1, e2, Option.bind_some, Option.bind_some, fits1 (by omega), cond_true, f1, f2, Option.bind_some, Option.bind_some, deS, cond_true, show granarylaw21_num r.1 = some r.1 from rfl, Option.bind_some, deS, cond_true, same_call, Option.bind_some, cond_true, show ∀ n, granarylaw21_num n = some n from fun _ => rfl, Option.bind_some, deS, cond_true, rpc_live]
  rfl

theorem rpcCalls (x : EKs [(.pair (.int .u32) (.pair (.int .u32) (.pair (.int .u32) (.pair (.int .u32) (.pair (.int .u32) (.pair (.pair (.int .u32) (.pair (.sl (.int .u8)) .unit)) (.pair (.pair (.int .u32) (.pair (.sl (.int .u8)) .unit)) (.pair (.sl (.int .u8)) .unit)))))))), (.sl (.int .u8))]) (hw : wfs [(.pair (.int .u32) (.pair (.int .u32) (.pair (.int .u32) (.pair (.int .u32) (.pair (.int .u32) (.pair (.pair (.int .u32) (.pair (.sl (.int .u8)) .unit)) (.pair (.pair (.int .u32) (.pair (.sl (.int .u8)) .unit)) (.pair (.sl (.int .u8)) .unit)))))))), (.sl (.int .u8))] x) (hr : rchs [(.pair (.int .u32) (.pair (.int .u32) (.pair (.int .u32) (.pair (.int .u32) (.pair (.int .u32) (.pair (.pair (.int .u32) (.pair (.sl (.int .u8)) .unit)) (.pair (.pair (.int .u32) (.pair (.sl (.int .u8)) .unit)) (.pair (.sl (.int .u8)) .unit)))))))), (.sl (.int .u8))] x) : ∃ N, granarylaw21_RpcCalls N (x.1.1, x.1.2.1, x.1.2.2.1, x.1.2.2.2.1, x.1.2.2.2.2.1, x.1.2.2.2.2.2.1.1, x.1.2.2.2.2.2.1.2.1, x.1.2.2.2.2.2.2.1.1, x.1.2.2.2.2.2.2.1.2.1, x.1.2.2.2.2.2.2.2.1, x.2) = some true := by
  refine ⟨30000, ?_⟩
  obtain ⟨⟨w1, w2, w3, w4, w5, ⟨w6, _⟩, ⟨w8, _⟩, _⟩, wD⟩ := hw
  obtain ⟨⟨_, _, _, _, _, ⟨_, r7, _⟩, ⟨_, r9, _⟩, r10, _⟩, rD⟩ := hr
  obtain ⟨a1, e1, h1⟩ := wf_u32 w1
  obtain ⟨a2, e2, h2⟩ := wf_u32 w2
  obtain ⟨a3, e3, h3⟩ := wf_u32 w3
  obtain ⟨a4, e4, h4⟩ := wf_u32 w4
  obtain ⟨a5, e5, h5⟩ := wf_u32 w5
  obtain ⟨a6, e6, h6⟩ := wf_u32 w6
  obtain ⟨a8, e8, h8⟩ := wf_u32 w8
  rw [e1, e2, e3, e4, e5, e6, e8]
  exact calls_core h1 h2 h3 h4 h5 h6 h8 (wf_bytes wD) r7 r9 r10 rD

end Go.Rf.W.Pure
