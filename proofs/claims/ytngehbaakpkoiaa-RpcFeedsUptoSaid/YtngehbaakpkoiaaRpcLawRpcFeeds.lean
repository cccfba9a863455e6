/-
  RpcFeeds: whatever the law is handed, it answers true, and its arguments read as they did. No conditions but the statement's own.
-/
import Derived.Test.YtngehbaakpkoiaaRows
import Derived.Test.YtngehbaakpkoiaaRpcKRpcFeeds
import Derived.Test.YtngehbaakpkoiaaRpcPureRpcFeeds
import Derived.Test.YtngehbaakpkoiaaRfC
import Derived.WalkKit
import Derived.ProofKit
import Derived.OpenShut
import Derived.JoinedCond
set_option linter.unusedVariables false
namespace Go.Proofs.Ytngehbaakpkoiaa.rpcFeeds
open Go Go.Rf Go.Rf.W Go.ChangeShapes Go.WideShapes Go.ChangeAt Go.RowKit
theorem own : ownKnob Try.prog.godebug = none := by kernel_rfl
theorem laid : laidOutB Try.prog = true := by kernel_rfl
theorem pars : parB Try.prog Try.f5.params.toList = true := by kernel_rfl
theorem kts : KTs Try.prog [(.sl (.sl (.int .u8)))] [42] := ⟨⟨22, Try.underlying42, by kernel_rfl, by decide, ⟨5, Try.underlying22, by kernel_rfl, by decide, Try.underlying5⟩⟩, trivial⟩
theorem kts2 : KTs Try.prog [(.sl (.sl (.int .u8)))] Try.f5.params.toList := by rw [show Try.f5.params.toList = [42] from rfl]; exact kts
theorem plen : Try.f5.params.toList.length = 1 := rfl
theorem psize : Try.f5.params.size = 1 := rfl
theorem hst (N : Nat) (x : EKs [(.sl (.sl (.int .u8)))]) : embSt (granarylaw21_RpcFeeds_g N).lend.length (granarylaw21_RpcFeeds_g N).ins (encP (granarylaw21_RpcFeeds_g N).its (x : PT (granarylaw21_RpcFeeds_g N).its)) = some ⟨tvs [(.sl (.sl (.int .u8)))] x, []⟩ := by kernel_rfl
theorem hz (N : Nat) : (granarylaw21_RpcFeeds_g N).out (true : SumT (granarylaw21_RpcFeeds_g N).ots) = some ⟨[one (.bool true)], []⟩ := by kernel_rfl
theorem hsp (H : Type) (ds : List (DataW H)) (hds : ds.length = 1) : Rows.rpcFeedsSpec.fn H ds = { results := [.lit (.bool true)], args := ds } := by
  match ds, hds with
  | [_], _ => rfl
theorem bulkOK (H : Type) : BulkOK (H := H) Rows.uptoBulk Rows.uptoBulkAll where
  str := fun s => by simp [Rows.uptoBulk]
  lit := fun l => by cases l <;> simp [Rows.uptoBulk]
  nil := by simp [Rows.uptoBulk]
  slice := fun e s => by simp [Rows.uptoBulk]
  agg := fun p => by simp [Rows.uptoBulk]
  none := by simp [Rows.uptoBulkAll]
  cons := fun d r => by simp [Rows.uptoBulkAll]
set_option maxRecDepth 100000 in
theorem contract (H : Type) (enc : TypeId × Value → H) (W : World) (base : Nat) (args : Array Value) (ds gs : List (DataW H)) (before : List MemPlace)
    (hval : ∀ (j : Nat) t v, Try.f5.params[j]? = some t → args[j]? = some v → Value.okWide Try.prog W .any base t v)
    (hW : DataW.Whole enc Try.prog Try.f5.params.toList Rows.rpcFeedsSpec.vars false W args.toList ds gs before)
    (hk : Rows.uptoSmall H (ds ++ gs) = true) :
    Calls Try.prog 5 args W fun e W' => ∃ v, e = .returned v ∧ Rows.rpcFeedsSpec.post enc Try.prog Try.f5 false true false false W args v W' := by
  have hW' := hW
  obtain ⟨p, q, hA0, hV, rfl, hfz, hnd⟩ := hW
  have hv2 : ∀ (j : Nat) t v, Try.f5.params.toList[j]? = some t → args.toList[j]? = some v → Value.okWide Try.prog W .any base t v := by
    intro j t v h1 h2
    rw [Array.getElem?_toList] at h1 h2
    exact hval j t v h1 h2
  obtain ⟨x, hx, hw, hlen⟩ := args_ok (H := H) (enc := enc) (P := Try.prog) (W := W) (ρ := noBlocks) (base := base) (ks := [(.sl (.sl (.int .u8)))]) (ts := Try.f5.params.toList) (vs := args.toList) (ds := ds) (ps := p) kts2 hv2 hA0
  obtain ⟨e1, e2⟩ := trodVars_none hV
  subst e1
  rw [List.append_nil] at hk
  have hb : bulks [(.sl (.sl (.int .u8)))] x ≤ 1048576 := Nat.le_trans (args_bulk (bulkOK H) kts2 hA0 x hx) (of_decide_eq_true hk)
  obtain ⟨N, hN⟩ := Pure.rpcFeeds x hw hb
  exact law_close (granarylaw21_RpcFeeds_ok N) (y := (x : PT (granarylaw21_RpcFeeds_g N).its)) (z := (true : SumT (granarylaw21_RpcFeeds_g N).ots)) hN (T := tvs [(.sl (.sl (.int .u8)))] x) (hst N x) (hz N) hx laid (par_ok pars) rfl (fun ds hds => hsp H ds (by rw [psize] at hds; exact hds))
    (by rw [psize]; rw [plen] at hlen; exact hlen) (tb := 4) (by kernel_rfl) Try.underlying4 hW'
set_option maxRecDepth 100000 in
theorem lifted (os : Os) (started : os.Started) (H : Type) (enc : TypeId × Value → H) (F : Stop.Interp) :
    ReturnsInHanded {} Try.checked os 5 .any ((Rows.OpenSpec.upto Rows.rpcFeedsSpec).pre6 enc Try.prog Try.f5 Rows.rpcFeedsUptoRow.domain false) (((Rows.OpenSpec.upto Rows.rpcFeedsSpec).at F).post enc Try.prog Try.f5 false true false false) := by
  refine returnsInHanded_of_cond (C := Try.checked) (s := Rows.OpenSpec.upto Rows.rpcFeedsSpec) (k := Rows.uptoSmall) rfl own started (by kernel_rfl) Try.func5
    (OpenSpec.witness (enc := enc) (C := Try.checked) (s := Rows.OpenSpec.upto Rows.rpcFeedsSpec) (k := Rows.uptoSmall) rfl false ⟨#[], #[.slice none 0 0], []⟩ 8 (by kernel_rfl) (by kernel_rfl) (by kernel_rfl)
      (x := ([.nil], [], [])) (by kernel_rfl) rfl (by kernel_rfl)) ?_
  intro W base args ds gs before hval hW _ hk _
  exact contract H enc W base args ds gs before hval hW hk
theorem proved : Rows.RpcFeedsUptoSaid :=
  OpenClaim.holds_of_cond 5 Try.f5 rfl rfl rfl rfl rfl rfl rfl ⟨rfl, rfl, rfl, rfl, rfl⟩ rfl rfl rfl rfl rfl (by kernel_rfl) Try.func5 (by kernel_rfl)
    (of_decide_eq_true (by kernel_rfl)) (by unfold Func.isWrapper; first | (rw [if_pos (by decide +kernel)]; kernel_rfl) | (rw [if_neg (by decide +kernel)]; exact ⟨rfl, rfl⟩))
    (fun os started H enc _ F => lifted os started H enc F)
#print axioms proved
end Go.Proofs.Ytngehbaakpkoiaa.rpcFeeds
