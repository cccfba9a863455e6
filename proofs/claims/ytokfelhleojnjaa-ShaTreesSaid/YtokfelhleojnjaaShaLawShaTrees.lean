/-
  ShaTrees: whatever the law is handed, it answers true, and its arguments read as they did. No conditions but the statement's own.
-/
import Derived.Test.YtokfelhleojnjaaRows
import Derived.Test.YtokfelhleojnjaaShaKShaTrees
import Derived.Test.YtokfelhleojnjaaShaPureShaTrees
import Derived.Test.YtokfelhleojnjaaRfC
import Derived.WalkKit
import Derived.ProofKit
import Derived.OpenShut
set_option linter.unusedVariables false
namespace Go.Proofs.Ytokfelhleojnjaa.shaTrees
open Go Go.Rf Go.Rf.W Go.ChangeShapes Go.WideShapes Go.ChangeAt Go.RowKit
theorem own : ownKnob Try.prog.godebug = none := by kernel_rfl
theorem laid : laidOutB Try.prog = true := by kernel_rfl
theorem pars : parB Try.prog Try.f7.params.toList = true := by kernel_rfl
theorem kts : KTs Try.prog [(.sl (.arr 32 (.int .u8))), (.int .i64), (.arr 32 (.int .u8)), (.int .i64), (.sl (.arr 32 (.int .u8)))] [48, 3, 26, 3, 48] := ⟨⟨26, Try.underlying48, by kernel_rfl, by decide, ⟨5, Try.underlying26, by kernel_rfl, by kernel_rfl, Try.underlying5⟩⟩, Try.underlying3, ⟨5, Try.underlying26, by kernel_rfl, by kernel_rfl, Try.underlying5⟩, Try.underlying3, ⟨26, Try.underlying48, by kernel_rfl, by decide, ⟨5, Try.underlying26, by kernel_rfl, by kernel_rfl, Try.underlying5⟩⟩, trivial⟩
theorem kts2 : KTs Try.prog [(.sl (.arr 32 (.int .u8))), (.int .i64), (.arr 32 (.int .u8)), (.int .i64), (.sl (.arr 32 (.int .u8)))] Try.f7.params.toList := by rw [show Try.f7.params.toList = [48, 3, 26, 3, 48] from rfl]; exact kts
theorem plen : Try.f7.params.toList.length = 5 := rfl
theorem psize : Try.f7.params.size = 5 := rfl
theorem hst (N : Nat) (x : EKs [(.sl (.arr 32 (.int .u8))), (.int .i64), (.arr 32 (.int .u8)), (.int .i64), (.sl (.arr 32 (.int .u8)))]) : embSt (granarylaw05_ShaTrees_g N).lend.length (granarylaw05_ShaTrees_g N).ins (encP (granarylaw05_ShaTrees_g N).its ((x.1, x.2.1, x.2.2.1, x.2.2.2.1, x.2.2.2.2) : PT (granarylaw05_ShaTrees_g N).its)) = some ⟨tvs [(.sl (.arr 32 (.int .u8))), (.int .i64), (.arr 32 (.int .u8)), (.int .i64), (.sl (.arr 32 (.int .u8)))] x, []⟩ := by kernel_rfl
theorem hz (N : Nat) : (granarylaw05_ShaTrees_g N).out (true : SumT (granarylaw05_ShaTrees_g N).ots) = some ⟨[one (.bool true)], []⟩ := by kernel_rfl
theorem hsp (H : Type) (ds : List (DataW H)) (hds : ds.length = 5) : Rows.shaTreesSpec.fn H ds = { results := [.lit (.bool true)], args := ds } := by
  match ds, hds with
  | [_, _, _, _, _], _ => rfl
set_option maxRecDepth 100000 in
theorem contract (H : Type) (enc : TypeId × Value → H) (W : World) (base : Nat) (args : Array Value) (ds gs : List (DataW H)) (before : List MemPlace)
    (hval : ∀ (j : Nat) t v, Try.f7.params[j]? = some t → args[j]? = some v → Value.okWide Try.prog W .any base t v)
    (hW : DataW.Whole enc Try.prog Try.f7.params.toList Rows.shaTreesSpec.vars false W args.toList ds gs before) :
    Calls Try.prog 7 args W fun e W' => ∃ v, e = .returned v ∧ Rows.shaTreesSpec.post enc Try.prog Try.f7 false true false false W args v W' := by
  have hW' := hW
  obtain ⟨p, q, hA0, hV, rfl, hfz, hnd⟩ := hW
  have hv2 : ∀ (j : Nat) t v, Try.f7.params.toList[j]? = some t → args.toList[j]? = some v → Value.okWide Try.prog W .any base t v := by
    intro j t v h1 h2
    rw [Array.getElem?_toList] at h1 h2
    exact hval j t v h1 h2
  obtain ⟨x, hx, hw, hlen⟩ := args_ok (H := H) (enc := enc) (P := Try.prog) (W := W) (ρ := noBlocks) (base := base) (ks := [(.sl (.arr 32 (.int .u8))), (.int .i64), (.arr 32 (.int .u8)), (.int .i64), (.sl (.arr 32 (.int .u8)))]) (ts := Try.f7.params.toList) (vs := args.toList) (ds := ds) (ps := p) kts2 hv2 hA0
  obtain ⟨N, hN⟩ := Pure.shaTrees x hw
  exact law_close (granarylaw05_ShaTrees_ok N) (y := ((x.1, x.2.1, x.2.2.1, x.2.2.2.1, x.2.2.2.2) : PT (granarylaw05_ShaTrees_g N).its)) (z := (true : SumT (granarylaw05_ShaTrees_g N).ots)) hN (T := tvs [(.sl (.arr 32 (.int .u8))), (.int .i64), (.arr 32 (.int .u8)), (.int .i64), (.sl (.arr 32 (.int .u8)))] x) (hst N x) (hz N) hx laid (par_ok pars) rfl (fun ds hds => hsp H ds (by rw [psize] at hds; exact hds))
    (by rw [psize]; rw [plen] at hlen; exact hlen) (tb := 4) (by kernel_rfl) Try.underlying4 hW'
set_option maxRecDepth 100000 in
theorem lifted (os : Os) (started : os.Started) (H : Type) (enc : TypeId × Value → H) :
    ReturnsInHanded {} Try.checked os 7 .any (Rows.shaTreesSpec.pre6 enc Try.prog Try.f7 Rows.shaTreesRow.domain false) (Rows.shaTreesSpec.post enc Try.prog Try.f7 false true false false) := by
  refine returnsInHanded_of_change (C := Try.checked) own started (by kernel_rfl) Try.func7
    (ChangeSpec.witness6 (enc := enc) (C := Try.checked) false ⟨#[], #[.slice none 0 0, .int .i64 0, .agg #[.int .u8 0, .int .u8 0, .int .u8 0, .int .u8 0, .int .u8 0, .int .u8 0, .int .u8 0, .int .u8 0, .int .u8 0, .int .u8 0, .int .u8 0, .int .u8 0, .int .u8 0, .int .u8 0, .int .u8 0, .int .u8 0, .int .u8 0, .int .u8 0, .int .u8 0, .int .u8 0, .int .u8 0, .int .u8 0, .int .u8 0, .int .u8 0, .int .u8 0, .int .u8 0, .int .u8 0, .int .u8 0, .int .u8 0, .int .u8 0, .int .u8 0, .int .u8 0], .int .i64 0, .slice none 0 0], []⟩ 8 (by kernel_rfl) (by kernel_rfl) (by kernel_rfl) (by kernel_rfl)) ?_
  intro W base args ds gs before hval hW _ _
  exact contract H enc W base args ds gs before hval hW
theorem proved : Rows.ShaTreesSaid :=
  OpenClaim.holds_of_wide 7 Try.f7 rfl rfl rfl rfl rfl rfl rfl ⟨rfl, rfl, rfl, rfl, rfl⟩ rfl rfl rfl rfl rfl (by kernel_rfl) Try.func7 (by kernel_rfl)
    (of_decide_eq_true (by kernel_rfl)) (by unfold Func.isWrapper; first | (rw [if_pos (by decide +kernel)]; kernel_rfl) | (rw [if_neg (by decide +kernel)]; exact ⟨rfl, rfl⟩))
    (fun os started H enc _ => lifted os started H enc)
#print axioms proved
end Go.Proofs.Ytokfelhleojnjaa.shaTrees
