/-
  RpcClasses, plain.
-/
import Derived.Test.YtngehbaakpkoiaaRpcFRpcClasses
import Derived.Test.YtngehbaakpkoiaaPlRpcClass
import Derived.Test.YtngehbaakpkoiaaPlRpc
import Derived.Test.YtngehbaakpkoiaaRfC
set_option linter.unusedVariables false
set_option maxRecDepth 10000
namespace Go.Rf.W.Pure
open Go Go.Rf Go.Rf.W

theorem scribble {N : Nat} {x : List Int} : ∀ (d f i : Nat) (y : List Int), i + d = y.length → d < f → y.length < 1000000 → ∃ r, loopF (granarylaw21_RpcClasses_b0 N) f (x, (i : Int), y) = some r := by
  intro d
  induction d with
  | zero =>
    intro f i y h hf hy
    obtain ⟨f, rfl⟩ : ∃ g, f = g + 1 := ⟨f - 1, by omega⟩
    show ∃ r, granarylaw21_RpcClasses_b0 N _ _ = some r
    unfold granarylaw21_RpcClasses_b0
    dsimp only
    rw [deF (by omega), cond_false]
    exact ⟨_, rfl⟩
  | succ d ih =>
    intro f i y h hf hy
    obtain ⟨f, rfl⟩ : ∃ g, f = g + 1 := ⟨f - 1, by omega⟩
    show ∃ r, granarylaw21_RpcClasses_b0 N (loopF (granarylaw21_RpcClasses_b0 N) f) _ = some r
    have ih := fun y' hy' => ih f (i + 1) y' hy' (by omega)
    generalize loopF (granarylaw21_RpcClasses_b0 N) f = nx at ih
    unfold granarylaw21_RpcClasses_b0
    dsimp only
    rw [deT (p := (i : Int) < ((y.length : Nat) : Int)) (by omega), cond_true, deT (p := (0 : Int) ≤ (i : Int)) (by omega), Bool.and_self, cond_true, cond_true, Int.toNat_natCast, deT (p := i < y.length) (by omega), cond_true, cond_true, wrapF_i64 (by omega) (by omega)]
    exact ih _ (by rw [List.length_set]; omega) (by rw [List.length_set]; omega)

theorem rpcClasses (x : EKs [(.sl (.int .u8))]) (hw : wfs [(.sl (.int .u8))] x) : ∃ N, granarylaw21_RpcClasses N x = some true := by
  refine ⟨30000, ?_⟩
  have hb : Bts x := wf_bytes hw
  change List Int at x
  unfold granarylaw21_RpcClasses
  by_cases h : 20000 < x.length
  · rw [deT (p := (20000 : Int) < ((x.length : Nat) : Int)) (by omega), cond_true, rpc_live]; rfl
  rw [deF (p := (20000 : Int) < ((x.length : Nat) : Int)) (by omega), cond_false]
  obtain ⟨r, e1, e2, e3⟩ := classify_both (N := 30000) hb (by omega) (by decide)
  obtain ⟨q, e4⟩ := scribble (N := 30000) (x := x) x.length 30000 0 x (by omega) (by omega) (by omega)
  have e4' : granarylaw21_RpcClasses_l0 30000 (x, (0 : Int), x) = some q := e4
  rw [fits1 (by omega), cond_true, e1, e2, Option.bind_some, Option.bind_some, e4', same_class e3 (by decide), Option.bind_some, Option.bind_some, deS, Bool.not_true, cond_false, Option.bind_some, cond_false, Option.bind_some, same_class e3 (by decide), Option.bind_some, cond_true, rpc_live]
  rfl

end Go.Rf.W.Pure
