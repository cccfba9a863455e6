/-
  NfsStatus: whatever the law is handed, it answers true, and its arguments read as they did. No conditions but the statement's own.
-/
import Derived.Test.YtlkaggfhkfnhbaaGreatDoorCards
import Derived.Test.YtlkaggfhkfnhbaaGreatDoorTie
import Derived.Test.YtlkaggfhkfnhbaaGreatDoorNfsKNfsStatus
import Derived.Test.YtlkaggfhkfnhbaaGreatDoorNfsPureNfsStatus
import Derived.Test.YtlkaggfhkfnhbaaGreatDoorRfC
import Derived.WalkKit
import Derived.ProofKit
import Derived.OpenShut
import Derived.Deep.DeepHandedRow
import Derived.LaidHandle
import Derived.LaidLaws
import Derived.SevenTiedAt
set_option linter.unusedVariables false
namespace Go.Proofs.YtlkaggfhkfnhbaaGreatDoor.nfsStatus
open Go Go.Rf Go.Rf.W Go.ChangeShapes Go.WideShapes Go.ChangeAt Go.RowKit
theorem own : ownKnob Tryz.prog.godebug = none := by kernel_rfl
theorem laid : laidOutB Tryz.prog = true := by kernel_rfl
theorem pars : parB Tryz.prog Tryz.f4.params.toList = true := by kernel_rfl
theorem kts : KTs Tryz.prog [(.int .i64), (.int .i64)] [3, 3] := ⟨Tryz.underlying3, Tryz.underlying3, trivial⟩
theorem kts2 : KTs Tryz.prog [(.int .i64), (.int .i64)] Tryz.f4.params.toList := by rw [show Tryz.f4.params.toList = [3, 3] from rfl]; exact kts
theorem plen : Tryz.f4.params.toList.length = 2 := rfl
theorem psize : Tryz.f4.params.size = 2 := rfl
theorem hst (N : Nat) (x : EKs [(.int .i64), (.int .i64)]) : embSt (granarylaw22_NfsStatus_g N).lend.length (granarylaw22_NfsStatus_g N).ins (encP (granarylaw22_NfsStatus_g N).its ((x.1, x.2) : PT (granarylaw22_NfsStatus_g N).its)) = some ⟨tvs [(.int .i64), (.int .i64)] x, []⟩ := by kernel_rfl
theorem hz (N : Nat) : (granarylaw22_NfsStatus_g N).out (true : SumT (granarylaw22_NfsStatus_g N).ots) = some ⟨[one (.bool true)], []⟩ := by kernel_rfl
theorem hsp (H : Type) (ds : List (DataW H)) (hds : ds.length = 2) : Rows.nfsStatusSpec.fn H ds = { results := [.lit (.bool true)], args := ds } := by
  match ds, hds with
  | [_, _], _ => rfl
theorem et : Tryz.prog.globalNamed "errors.errorType" = some 0 := by kernel_rfl
theorem rt : (Tryz.prog.cutTypes.find? (·.1 == "internal/reflectlite.rtype")).map (·.2) = some 205 := by kernel_rfl
theorem oneRow : ((List.range 273).filter fun t => Tryz.prog.rowNamed t [101, 114, 114, 111, 114]) = [48] := by kernel_rfl
theorem tsize : Tryz.prog.types.size = 273 := by kernel_rfl
theorem handle_of_laid {W : World} (h : laidMetH Tryz.prog Rows.nfsStatusRow.laid W) : W.cell? ⟨0, 0, none⟩ = some (.iface 205 (.agg #[.pointer (some ⟨1, 48, none⟩)])) := by
  have h' : laidMet Tryz.prog [] W ∧ handlesMet Tryz.prog Rows.nfsStatusRow.laid W := h
  obtain ⟨name, u, ty, e1, e2, e3, e4, e5⟩ := h'.2 _ (List.mem_singleton.2 rfl)
  have en : name = [101, 114, 114, 111, 114] := (Option.some.inj e1).symm
  subst en
  obtain rfl := Option.some.inj (rt.symm.trans e2)
  have hm : ty ∈ (List.range 273).filter fun t => Tryz.prog.rowNamed t [101, 114, 114, 111, 114] := List.mem_filter.2 ⟨List.mem_range.2 (by rw [← tsize]; exact e3), e4⟩
  rw [oneRow] at hm
  obtain rfl := List.mem_singleton.1 hm
  have hh : typeHandle Tryz.prog 48 = .pointer (some ⟨1, 48, none⟩) := by kernel_rfl
  rw [hh] at e5
  simpa using World.var?_cell et e5 0
theorem laid_ok {W : World} (h : laidMetH Tryz.prog Rows.nfsStatusRow.laid W) : Laid W := by
  intro b o v hv
  match b, o, hv with
  | 0, 0, hv => cases hv; exact handle_of_laid h
  | 0, _ + 1, hv => cases hv
  | _ + 1, _, hv => cases hv
noncomputable def laidWorld (os : Os) : World :=
  { World.holding Tryz.prog os ⟨#[], #[], []⟩ with heap := (World.holding Tryz.prog os ⟨#[], #[], []⟩).heap.modify 0 fun
      | .cells _ t frozen => .cells #[.iface 205 (.agg #[.pointer (some ⟨1, 48, none⟩)])] t frozen
      | o => o }
theorem laidWorld_met (os : Os) (args : Array Value) : laidMetH Tryz.prog Rows.nfsStatusRow.laid ((laidWorld os).forCall (fun _ _ => 0) ⟨#[], args, []⟩).memory :=
  laidMetH_of_parts (laidMet_nil _ _) (by kernel_rfl)
set_option maxRecDepth 100000 in
theorem contract (H : Type) (enc : TypeId × Value → H) (W : World) (base : Nat) (args : Array Value) (ds gs : List (DataW H)) (before : List MemPlace)
    (hval : ∀ (j : Nat) t v, Tryz.f4.params[j]? = some t → args[j]? = some v → Value.okWide Tryz.prog W .any base t v)
    (hW : DataW.Whole enc Tryz.prog Tryz.f4.params.toList Rows.nfsStatusSpec.vars false W args.toList ds gs before)
    (hL : laidMetH Tryz.prog Rows.nfsStatusRow.laid W) :
    Calls Tryz.prog 4 args W fun e W' => ∃ v, e = .returned v ∧ Rows.nfsStatusSpec.post enc Tryz.prog Tryz.f4 false true false false W args v W' := by
  have hW' := hW
  obtain ⟨p, q, hA0, hV, rfl, hfz, hnd⟩ := hW
  have hv2 : ∀ (j : Nat) t v, Tryz.f4.params.toList[j]? = some t → args.toList[j]? = some v → Value.okWide Tryz.prog W .any base t v := by
    intro j t v h1 h2
    rw [Array.getElem?_toList] at h1 h2
    exact hval j t v h1 h2
  obtain ⟨x, hx, hw, hlen⟩ := args_ok (H := H) (enc := enc) (P := Tryz.prog) (W := W) (ρ := noBlocks) (base := base) (ks := [(.int .i64), (.int .i64)]) (ts := Tryz.f4.params.toList) (vs := args.toList) (ds := ds) (ps := p) kts2 hv2 hA0
  obtain ⟨N, hN⟩ := Pure.nfsStatus x hw
  exact law_close (granarylaw22_NfsStatus_ok N) (y := ((x.1, x.2) : PT (granarylaw22_NfsStatus_g N).its)) (z := (true : SumT (granarylaw22_NfsStatus_g N).ots)) hN (T := tvs [(.int .i64), (.int .i64)] x) (hst N x) (hz N) hx (laid_ok hL) laid (par_ok pars) rfl (fun ds hds => hsp H ds (by rw [psize] at hds; exact hds))
    (by rw [psize]; rw [plen] at hlen; exact hlen) (tb := 4) (by kernel_rfl) Tryz.underlying4 hW'
theorem reads (os : Os) {H : Type} (enc : TypeId × Value → H) : ∃ places, DataW.whole enc Tryz.prog ((laidWorld os).forCall (fun _ _ => 0) ⟨#[], #[.int .i64 0, .int .i64 0], []⟩).memory Tryz.f4.params.toList Rows.nfsStatusSpec.vars false #[.int .i64 0, .int .i64 0].toList 8 = some ([.lit (.int .i64 0), .lit (.int .i64 0)], [], places) :=
  ⟨[], by kernel_rfl⟩
set_option maxRecDepth 100000 in
theorem lifted (os : Os) (started : os.Started) (H : Type) (enc : TypeId × Value → H) (F : Stop.Interp) :
    ReturnsInHanded {} Tryz.checked os 4 .any ((OpenSpec.ofChange Rows.nfsStatusSpec).preRow enc Tryz.prog Tryz.f4 Rows.nfsStatusRow.domain false Rows.nfsStatusRow.laid) (((OpenSpec.ofChange Rows.nfsStatusSpec).at F).post enc Tryz.prog Tryz.f4 false true false false) := by
  obtain ⟨places, hx⟩ := reads os enc
  refine returnsInHanded_of_row (C := Tryz.checked) (s := OpenSpec.ofChange Rows.nfsStatusSpec) own started (by kernel_rfl) Tryz.func4
    (witness_row_at (enc := enc) (C := Tryz.checked) false (laidWorld os) #[.int .i64 0, .int .i64 0] rfl (by kernel_rfl) (by kernel_rfl) (by kernel_rfl)
      (OpenSpec.preRow_of_cond 8 hx (by kernel_rfl) (fun k hk => by cases hk) (by kernel_rfl) (laidWorld_met os _))) ?_
  intro W base args ds gs before hval hW _ hcond hsz hL _ _
  exact contract H enc W base args ds gs before hval hW hL
theorem said : Rows.NfsStatusSaid :=
  OpenClaim.holds_of_cond 4 Tryz.f4 rfl rfl rfl rfl rfl rfl rfl ⟨rfl, rfl, rfl, rfl, rfl⟩ rfl rfl rfl rfl rfl (by kernel_rfl) Tryz.func4 (by kernel_rfl)
    (of_decide_eq_true (by kernel_rfl)) (by unfold Func.isWrapper; first | (rw [if_pos (by decide +kernel)]; kernel_rfl) | (rw [if_neg (by decide +kernel)]; exact ⟨rfl, rfl⟩))
    (fun os started H enc _ F => by rw [OpenClaim.pre_eq_preRow]; exact lifted os started H enc F)
theorem noStand : ([3, 3] : List TypeId).all (fun t => !Tryz.prog.wantsStandIn t) = true := by kernel_rfl
theorem plain (f : FuncId) (fn : Func) (hf : Tryz.pinned.checked.prog.funcNamed "granary/granarylaw22.NfsStatus" = some f) (hfn : Tryz.pinned.checked.prog.funcs[f]? = some fn) :
    true = Tryz.pinned.checked.prog.looks [] ∧ ∀ (j : Nat) t, fn.params[j]? = some t → Tryz.pinned.checked.prog.wantsStandIn t = false := by
  obtain rfl : f = 4 := Option.some.inj ((show Tryz.prog.funcNamed "granary/granarylaw22.NfsStatus" = some 4 by kernel_rfl).symm.trans hf) |>.symm
  obtain rfl : fn = Tryz.f4 := (Option.some.inj (Tryz.func4.symm.trans hfn)).symm
  refine ⟨by kernel_rfl, fun j t ht => ?_⟩
  have hm : t ∈ Tryz.f4.params.toList := by
    rw [← Array.getElem?_toList] at ht
    exact List.mem_of_getElem? ht
  have h1 := List.all_eq_true.1 noStand t (by rw [show Tryz.f4.params.toList = [3, 3] from rfl] at hm; exact hm)
  exact (show Tryz.prog.wantsStandIn t = false by simpa using h1)
theorem proved : Rows.NfsStatusCardSaid :=
  Claim7.holds_tied_plain_at .later [] _ _ _ _ said (fun _ h => by cases h) (by kernel_rfl) (fun _ h => by cases h) nfsStatus_row_tie rfl ⟨rfl, rfl⟩ (by kernel_rfl) rfl plain (by kernel_rfl)
#print axioms proved
end Go.Proofs.YtlkaggfhkfnhbaaGreatDoor.nfsStatus
