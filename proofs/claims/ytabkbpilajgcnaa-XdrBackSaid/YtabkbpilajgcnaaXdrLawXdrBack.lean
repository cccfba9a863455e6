/-
  XdrBack: whatever the law is handed, it answers true, and its arguments read as they did. No conditions but the statement's own.
-/
import Derived.Test.YtabkbpilajgcnaaRows
import Derived.Test.YtabkbpilajgcnaaXdrKXdrBack
import Derived.Test.YtabkbpilajgcnaaXdrPureXdrBack
import Derived.Test.YtabkbpilajgcnaaRfC
import Derived.WalkKit
import Derived.ProofKit
import Derived.OpenShut
import Derived.SizedLaws
set_option linter.unusedVariables false
namespace Go.Proofs.Ytabkbpilajgcnaa.xdrBack
open Go Go.Rf Go.Rf.W Go.ChangeShapes Go.WideShapes Go.ChangeAt Go.RowKit
theorem own : ownKnob Try.prog.godebug = none := by kernel_rfl
theorem laid : laidOutB Try.prog = true := by kernel_rfl
theorem pars : parB Try.prog Try.f5.params.toList = true := by kernel_rfl
theorem kts : KTs Try.prog [(.int .u32), (.int .i32), (.int .u64), .bool, .str, (.sl (.int .u32)), (.sl .str)] [55, 21, 31, 4, 9, 32, 33] := ⟨Try.underlying55, Try.underlying21, Try.underlying31, Try.underlying4, Try.underlying9, ⟨55, Try.underlying32, by kernel_rfl, by decide, Try.underlying55⟩, ⟨9, Try.underlying33, by kernel_rfl, by decide, Try.underlying9⟩, trivial⟩
theorem kts2 : KTs Try.prog [(.int .u32), (.int .i32), (.int .u64), .bool, .str, (.sl (.int .u32)), (.sl .str)] Try.f5.params.toList := by rw [show Try.f5.params.toList = [55, 21, 31, 4, 9, 32, 33] from rfl]; exact kts
theorem plen : Try.f5.params.toList.length = 7 := rfl
theorem psize : Try.f5.params.size = 7 := rfl
theorem hst (N : Nat) (x : EKs [(.int .u32), (.int .i32), (.int .u64), .bool, .str, (.sl (.int .u32)), (.sl .str)]) : embSt (granarylaw01_XdrBack_g N).lend.length (granarylaw01_XdrBack_g N).ins (encP (granarylaw01_XdrBack_g N).its ((x.1, x.2.1, x.2.2.1, x.2.2.2.1, x.2.2.2.2.1, x.2.2.2.2.2.1, x.2.2.2.2.2.2) : PT (granarylaw01_XdrBack_g N).its)) = some ⟨tvs [(.int .u32), (.int .i32), (.int .u64), .bool, .str, (.sl (.int .u32)), (.sl .str)] x, []⟩ := by kernel_rfl
theorem hz (N : Nat) : (granarylaw01_XdrBack_g N).out (true : SumT (granarylaw01_XdrBack_g N).ots) = some ⟨[one (.bool true)], []⟩ := by kernel_rfl
theorem hsp (H : Type) (ds : List (DataW H)) (hds : ds.length = 7) : Rows.xdrBackSpec.fn H ds = { results := [.lit (.bool true)], args := ds } := by
  match ds, hds with
  | [_, _, _, _, _, _, _], _ => rfl
theorem byt : Try.f5.params.toList.all (bytesB Try.prog) = true := by kernel_rfl
set_option maxRecDepth 100000 in
theorem contract (H : Type) (enc : TypeId × Value → H) (W : World) (base : Nat) (args : Array Value) (ds gs : List (DataW H)) (before : List MemPlace)
    (hval : ∀ (j : Nat) t v, Try.f5.params[j]? = some t → args[j]? = some v → Value.okWide Try.prog W .any base t v)
    (hW : DataW.Whole enc Try.prog Try.f5.params.toList Rows.xdrBackSpec.vars false W args.toList ds gs before)
    (hsz : (DataW.weightsEach Try.prog (Try.f5.params.toList ++ Rows.xdrBackSpec.plain.varTypes Try.prog) (ds ++ gs)).all (· ≤ reachBytes) = true) :
    Calls Try.prog 5 args W fun e W' => ∃ v, e = .returned v ∧ Rows.xdrBackSpec.post enc Try.prog Try.f5 false true false false W args v W' := by
  have hW' := hW
  obtain ⟨p, q, hA0, hV, rfl, hfz, hnd⟩ := hW
  have hv2 : ∀ (j : Nat) t v, Try.f5.params.toList[j]? = some t → args.toList[j]? = some v → Value.okWide Try.prog W .any base t v := by
    intro j t v h1 h2
    rw [Array.getElem?_toList] at h1 h2
    exact hval j t v h1 h2
  obtain ⟨x, hx, hw, hlen⟩ := args_ok (H := H) (enc := enc) (P := Try.prog) (W := W) (ρ := noBlocks) (base := base) (ks := [(.int .u32), (.int .i32), (.int .u64), .bool, .str, (.sl (.int .u32)), (.sl .str)]) (ts := Try.f5.params.toList) (vs := args.toList) (ds := ds) (ps := p) kts2 hv2 hA0
  obtain ⟨e1, e2⟩ := trodVars_none hV
  subst e1
  have h0 : Rows.xdrBackSpec.plain.varTypes Try.prog = [] := rfl
  rw [h0, List.append_nil, List.append_nil] at hsz
  have hr : rchs [(.int .u32), (.int .i32), (.int .u64), .bool, .str, (.sl (.int .u32)), (.sl .str)] x := args_rch kts2 byt hA0 x hx hsz
  obtain ⟨N, hN⟩ := Pure.xdrBack x hw hr
  exact law_close (granarylaw01_XdrBack_ok N) (y := ((x.1, x.2.1, x.2.2.1, x.2.2.2.1, x.2.2.2.2.1, x.2.2.2.2.2.1, x.2.2.2.2.2.2) : PT (granarylaw01_XdrBack_g N).its)) (z := (true : SumT (granarylaw01_XdrBack_g N).ots)) hN (T := tvs [(.int .u32), (.int .i32), (.int .u64), .bool, .str, (.sl (.int .u32)), (.sl .str)] x) (hst N x) (hz N) hx laid (par_ok pars) rfl (fun ds hds => hsp H ds (by rw [psize] at hds; exact hds))
    (by rw [psize]; rw [plen] at hlen; exact hlen) (tb := 4) (by kernel_rfl) Try.underlying4 hW'
set_option maxRecDepth 100000 in
theorem lifted (os : Os) (started : os.Started) (H : Type) (enc : TypeId × Value → H) :
    ReturnsInHanded {} Try.checked os 5 .any (Rows.xdrBackSpec.pre6 enc Try.prog Try.f5 Rows.xdrBackRow.domain false) (Rows.xdrBackSpec.post enc Try.prog Try.f5 false true false false) := by
  refine returnsInHanded_of_change_sized (C := Try.checked) own started (by kernel_rfl) Try.func5
    (ChangeSpec.witness6 (enc := enc) (C := Try.checked) false ⟨#[], #[.int .u32 0, .int .i32 0, .int .u64 0, .bool false, .string ⟨#[]⟩, .slice none 0 0, .slice none 0 0], []⟩ 8 (by kernel_rfl) (by kernel_rfl) (by kernel_rfl) (by kernel_rfl)) ?_
  intro W base args ds gs before hval hW _ hsz _
  exact contract H enc W base args ds gs before hval hW hsz
theorem proved : Rows.XdrBackSaid :=
  OpenClaim.holds_of_wide 5 Try.f5 rfl rfl rfl rfl rfl rfl rfl ⟨rfl, rfl, rfl, rfl, rfl⟩ rfl rfl rfl rfl rfl (by kernel_rfl) Try.func5 (by kernel_rfl)
    (of_decide_eq_true (by kernel_rfl)) (by unfold Func.isWrapper; first | (rw [if_pos (by decide +kernel)]; kernel_rfl) | (rw [if_neg (by decide +kernel)]; exact ⟨rfl, rfl⟩))
    (fun os started H enc _ => lifted os started H enc)
#print axioms proved
end Go.Proofs.Ytabkbpilajgcnaa.xdrBack
