/-
  RpcCreds, plain.
-/
import Derived.Test.YtngehbaakpkoiaaRpcFRpcCreds
import Derived.Test.YtngehbaakpkoiaaPlRpcCred
import Derived.Test.YtngehbaakpkoiaaPlRpc
import Derived.Test.YtngehbaakpkoiaaRfC
set_option linter.unusedVariables false
set_option maxRecDepth 10000
namespace Go.Rf.W.Pure
open Go Go.Rf Go.Rf.W

theorem wf_u32s {l : List Int} (h : EK.wf (.sl (.int .u32)) l) : ∀ x ∈ l, 0 ≤ x ∧ x < 4294967296 := fun x hx => by
  obtain ⟨m, e, h2⟩ := wf_u32 (h.2 x hx)
  omega

theorem creds_core {f c u g a : Nat} {m : List UInt8} {l D : List Int} (hc : c < 4294967296) (hu : u < 4294967296) (hg : g < 4294967296) (hl : ∀ x ∈ l, 0 ≤ x ∧ x < 4294967296)
    (hb : Bts D) (l1 : m.length ≤ 140737488355328) (l2 : l.length ≤ 140737488355328) (l3 : D.length ≤ 140737488355328) :
    granarylaw21_RpcCreds 30000 ((f : Int), (c : Int), m, (u : Int), (g : Int), l, (a : Int), D) = some true := by
  unfold granarylaw21_RpcCreds
  dsimp only
  rw [wrapF_i64 (n := (8 : Int) * ((l.length : Nat) : Int)) (by omega) (by omega), wrapF_i64 (n := ((m.length : Nat) : Int) + ((D.length : Nat) : Int)) (by omega) (by omega), wrapF_i64 (by omega) (by omega)]
  by_cases h : (20000 : Int) < ((m.length : Nat) : Int) + ((D.length : Nat) : Int) + (8 : Int) * ((l.length : Nat) : Int)
  · rw [deT h, cond_true, rpc_live]; rfl
  rw [deF h, cond_false]
  obtain ⟨r, e1, e2⟩ := putCred_both (N := 30000) (f := f) (c := c) (u := u) (g := g) (m := m) (l := l) hc hu hg (by omega) hl (by omega) (by decide)
  obtain ⟨q, f1, f2, f3⟩ := getCred_both (N := 30000) (f := a) hb (by omega) (by decide)
  rw [e1, e2, Option.bind_some, Option.bind_some, f1, f2, Option.bind_some, Option.bind_some, same_auth, Option.bind_some, cond_true, show ∀ n, granarylaw21_num n = some n from fun _ => rfl, Option.bind_some, deS, cond_true, same_cred (by omega) (by omega), Option.bind_some, cond_true, deS, cond_true, rpc_live]
  rfl

theorem rpcCreds (x : EKs [(.pair (.int .u32) (.pair (.int .u32) (.pair .str (.pair (.int .u32) (.pair (.int .u32) (.pair (.sl (.int .u32)) .unit)))))), (.pair (.int .u32) (.pair (.sl (.int .u8)) .unit))]) (hw : wfs [(.pair (.int .u32) (.pair (.int .u32) (.pair .str (.pair (.int .u32) (.pair (.int .u32) (.pair (.sl (.int .u32)) .unit)))))), (.pair (.int .u32) (.pair (.sl (.int .u8)) .unit))] x) (hr : rchs [(.pair (.int .u32) (.pair (.int .u32) (.pair .str (.pair (.int .u32) (.pair (.int .u32) (.pair (.sl (.int .u32)) .unit)))))), (.pair (.int .u32) (.pair (.sl (.int .u8)) .unit))] x) : ∃ N, granarylaw21_RpcCreds N (x.1.1, x.1.2.1, x.1.2.2.1, x.1.2.2.2.1, x.1.2.2.2.2.1, x.1.2.2.2.2.2.1, x.2.1, x.2.2.1) = some true := by
  refine ⟨30000, ?_⟩
  obtain ⟨⟨w1, w2, w3, w4, w5, w6, _⟩, ⟨v1, v2, _⟩⟩ := hw
  obtain ⟨⟨_, _, r3, _, _, r6, _⟩, ⟨_, r8, _⟩⟩ := hr
  obtain ⟨a1, e1, h1⟩ := wf_u32 w1
  obtain ⟨a2, e2, h2⟩ := wf_u32 w2
  obtain ⟨a4, e4, h4⟩ := wf_u32 w4
  obtain ⟨a5, e5, h5⟩ := wf_u32 w5
  obtain ⟨b1, e6, h6⟩ := wf_u32 v1
  rw [e1, e2, e4, e5, e6]
  exact creds_core h2 h4 h5 (wf_u32s w6) (wf_bytes v2) r3 r6 r8

end Go.Rf.W.Pure
