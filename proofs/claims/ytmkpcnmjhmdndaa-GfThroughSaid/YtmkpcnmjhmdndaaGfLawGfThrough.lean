/-
  GfThrough: whatever the law is handed, it answers true, and its arguments read as they did. No conditions but the statement's own.
-/
import Derived.Test.YtmkpcnmjhmdndaaRows
import Derived.Test.YtmkpcnmjhmdndaaGfKGfThrough
import Derived.Test.YtmkpcnmjhmdndaaGfPureGfThrough
import Derived.Test.YtmkpcnmjhmdndaaRfC
import Derived.WalkKit
import Derived.ProofKit
import Derived.OpenShut
set_option linter.unusedVariables false
namespace Go.Proofs.Ytmkpcnmjhmdndaa.gfThrough
open Go Go.Rf Go.Rf.W Go.ChangeShapes Go.WideShapes Go.ChangeAt Go.RowKit
theorem own : ownKnob Try.prog.godebug = none := by kernel_rfl
theorem laid : laidOutB Try.prog = true := by kernel_rfl
theorem pars : parB Try.prog Try.f8.params.toList = true := by kernel_rfl
theorem kts : KTs Try.prog [(.sl (.int .u8)), (.sl (.int .u8)), (.sl (.int .u8))] [29, 29, 29] := ⟨⟨5, Try.underlying29, by kernel_rfl, by decide, Try.underlying5⟩, ⟨5, Try.underlying29, by kernel_rfl, by decide, Try.underlying5⟩, ⟨5, Try.underlying29, by kernel_rfl, by decide, Try.underlying5⟩, trivial⟩
theorem kts2 : KTs Try.prog [(.sl (.int .u8)), (.sl (.int .u8)), (.sl (.int .u8))] Try.f8.params.toList := by rw [show Try.f8.params.toList = [29, 29, 29] from rfl]; exact kts
theorem plen : Try.f8.params.toList.length = 3 := rfl
theorem psize : Try.f8.params.size = 3 := rfl
theorem hst (N : Nat) (x : EKs [(.sl (.int .u8)), (.sl (.int .u8)), (.sl (.int .u8))]) : embSt (granarylaw02_GfThrough_g N).lend.length (granarylaw02_GfThrough_g N).ins (encP (granarylaw02_GfThrough_g N).its ((x.1, x.2.1, x.2.2) : PT (granarylaw02_GfThrough_g N).its)) = some ⟨tvs [(.sl (.int .u8)), (.sl (.int .u8)), (.sl (.int .u8))] x, []⟩ := by kernel_rfl
theorem hz (N : Nat) : (granarylaw02_GfThrough_g N).out (true : SumT (granarylaw02_GfThrough_g N).ots) = some ⟨[one (.bool true)], []⟩ := by kernel_rfl
theorem hsp (H : Type) (ds : List (DataW H)) (hds : ds.length = 3) : Rows.gfThroughSpec.fn H ds = { results := [.lit (.bool true)], args := ds } := by
  match ds, hds with
  | [_, _, _], _ => rfl
set_option maxRecDepth 100000 in
theorem contract (H : Type) (enc : TypeId × Value → H) (W : World) (base : Nat) (args : Array Value) (ds gs : List (DataW H)) (before : List MemPlace)
    (hval : ∀ (j : Nat) t v, Try.f8.params[j]? = some t → args[j]? = some v → Value.okWide Try.prog W .any base t v)
    (hW : DataW.Whole enc Try.prog Try.f8.params.toList Rows.gfThroughSpec.vars false W args.toList ds gs before) :
    Calls Try.prog 8 args W fun e W' => ∃ v, e = .returned v ∧ Rows.gfThroughSpec.post enc Try.prog Try.f8 false true false false W args v W' := by
  have hW' := hW
  obtain ⟨p, q, hA0, hV, rfl, hfz, hnd⟩ := hW
  have hv2 : ∀ (j : Nat) t v, Try.f8.params.toList[j]? = some t → args.toList[j]? = some v → Value.okWide Try.prog W .any base t v := by
    intro j t v h1 h2
    rw [Array.getElem?_toList] at h1 h2
    exact hval j t v h1 h2
  obtain ⟨x, hx, hw, hlen⟩ := args_ok (H := H) (enc := enc) (P := Try.prog) (W := W) (ρ := noBlocks) (base := base) (ks := [(.sl (.int .u8)), (.sl (.int .u8)), (.sl (.int .u8))]) (ts := Try.f8.params.toList) (vs := args.toList) (ds := ds) (ps := p) kts2 hv2 hA0
  obtain ⟨N, hN⟩ := Pure.gfThrough x hw
  exact law_close (granarylaw02_GfThrough_ok N) (y := ((x.1, x.2.1, x.2.2) : PT (granarylaw02_GfThrough_g N).its)) (z := (true : SumT (granarylaw02_GfThrough_g N).ots)) hN (T := tvs [(.sl (.int .u8)), (.sl (.int .u8)), (.sl (.int .u8))] x) (hst N x) (hz N) hx laid (par_ok pars) rfl (fun ds hds => hsp H ds (by rw [psize] at hds; exact hds))
    (by rw [psize]; rw [plen] at hlen; exact hlen) (tb := 4) (by kernel_rfl) Try.underlying4 hW'
set_option maxRecDepth 100000 in
theorem lifted (os : Os) (started : os.Started) (H : Type) (enc : TypeId × Value → H) :
    ReturnsInHanded {} Try.checked os 8 .any (Rows.gfThroughSpec.pre6 enc Try.prog Try.f8 Rows.gfThroughRow.domain false) (Rows.gfThroughSpec.post enc Try.prog Try.f8 false true false false) := by
  refine returnsInHanded_of_change (C := Try.checked) own started (by kernel_rfl) Try.func8
    (ChangeSpec.witness6 (enc := enc) (C := Try.checked) false ⟨#[], #[.slice none 0 0, .slice none 0 0, .slice none 0 0], []⟩ 8 (by kernel_rfl) (by kernel_rfl) (by kernel_rfl) (by kernel_rfl)) ?_
  intro W base args ds gs before hval hW _ _
  exact contract H enc W base args ds gs before hval hW
theorem proved : Rows.GfThroughSaid :=
  OpenClaim.holds_of_wide 8 Try.f8 rfl rfl rfl rfl rfl rfl rfl ⟨rfl, rfl, rfl, rfl, rfl⟩ rfl rfl rfl rfl rfl (by kernel_rfl) Try.func8 (by kernel_rfl)
    (of_decide_eq_true (by kernel_rfl)) (by unfold Func.isWrapper; first | (rw [if_pos (by decide +kernel)]; kernel_rfl) | (rw [if_neg (by decide +kernel)]; exact ⟨rfl, rfl⟩))
    (fun os started H enc _ => lifted os started H enc)
#print axioms proved
end Go.Proofs.Ytmkpcnmjhmdndaa.gfThrough
