/-
  InodeKeeps: whatever the law is handed, it answers true, and its arguments read as they did. No conditions but the statement's own.
-/
import Derived.Test.YtcehhkdpdehjhaaRows
import Derived.Test.YtcehhkdpdehjhaaInoKInodeKeeps
import Derived.Test.YtcehhkdpdehjhaaInoPureInodeKeeps
import Derived.Test.YtcehhkdpdehjhaaRfC
import Derived.WalkKit
import Derived.ProofKit
import Derived.OpenShut
set_option linter.unusedVariables false
namespace Go.Proofs.Ytcehhkdpdehjhaa.inodeKeeps
open Go Go.Rf Go.Rf.W Go.ChangeShapes Go.WideShapes Go.ChangeAt Go.RowKit
theorem own : ownKnob Try.prog.godebug = none := by kernel_rfl
theorem laid : laidOutB Try.prog = true := by kernel_rfl
theorem pars : parB Try.prog Try.f10.params.toList = true := by kernel_rfl
theorem kts : KTs Try.prog [(.pair (.pair (.int .u64) (.pair (.int .u32) (.pair (.int .i64) (.pair (.int .u32) (.pair (.int .u32) (.pair (.int .u32) (.pair (.int .u32) (.pair (.int .u64) (.pair (.int .u64) (.pair (.int .u64) (.pair (.int .u64) (.pair (.int .u64) (.pair (.int .u64) (.pair .str .unit)))))))))))))) (.pair (.int .i64) (.pair (.int .i64) (.pair (.int .u64) (.pair (.int .u64) .unit))))), (.pair (.int .i64) (.pair (.int .u32) (.pair (.int .u32) (.pair (.int .u32) (.pair (.int .u64) (.pair (.int .u64) (.pair (.int .u64) .unit)))))))] [74, 43] := ⟨⟨_, _, _, Try.underlying74, rfl, rfl, by kernel_rfl, by kernel_rfl, ⟨_, _, _, Try.underlying25, rfl, rfl, by kernel_rfl, by kernel_rfl, Try.underlying22, ⟨rfl, by kernel_rfl, Try.underlying23, ⟨rfl, by kernel_rfl, Try.underlying3, ⟨rfl, by kernel_rfl, Try.underlying23, ⟨rfl, by kernel_rfl, Try.underlying23, ⟨rfl, by kernel_rfl, Try.underlying23, ⟨rfl, by kernel_rfl, Try.underlying23, ⟨rfl, by kernel_rfl, Try.underlying22, ⟨rfl, by kernel_rfl, Try.underlying22, ⟨rfl, by kernel_rfl, Try.underlying22, ⟨rfl, by kernel_rfl, Try.underlying22, ⟨rfl, by kernel_rfl, Try.underlying22, ⟨rfl, by kernel_rfl, Try.underlying22, ⟨rfl, by kernel_rfl, Try.underlying9, trivial⟩⟩⟩⟩⟩⟩⟩⟩⟩⟩⟩⟩⟩⟩, ⟨rfl, by kernel_rfl, Try.underlying3, ⟨rfl, by kernel_rfl, Try.underlying3, ⟨rfl, by kernel_rfl, Try.underlying22, ⟨rfl, by kernel_rfl, Try.underlying22, trivial⟩⟩⟩⟩⟩, ⟨_, _, _, Try.underlying43, rfl, rfl, by kernel_rfl, by kernel_rfl, Try.underlying3, ⟨rfl, by kernel_rfl, Try.underlying23, ⟨rfl, by kernel_rfl, Try.underlying23, ⟨rfl, by kernel_rfl, Try.underlying23, ⟨rfl, by kernel_rfl, Try.underlying22, ⟨rfl, by kernel_rfl, Try.underlying22, ⟨rfl, by kernel_rfl, Try.underlying22, trivial⟩⟩⟩⟩⟩⟩⟩, trivial⟩
theorem kts2 : KTs Try.prog [(.pair (.pair (.int .u64) (.pair (.int .u32) (.pair (.int .i64) (.pair (.int .u32) (.pair (.int .u32) (.pair (.int .u32) (.pair (.int .u32) (.pair (.int .u64) (.pair (.int .u64) (.pair (.int .u64) (.pair (.int .u64) (.pair (.int .u64) (.pair (.int .u64) (.pair .str .unit)))))))))))))) (.pair (.int .i64) (.pair (.int .i64) (.pair (.int .u64) (.pair (.int .u64) .unit))))), (.pair (.int .i64) (.pair (.int .u32) (.pair (.int .u32) (.pair (.int .u32) (.pair (.int .u64) (.pair (.int .u64) (.pair (.int .u64) .unit)))))))] Try.f10.params.toList := by rw [show Try.f10.params.toList = [74, 43] from rfl]; exact kts
theorem plen : Try.f10.params.toList.length = 2 := rfl
theorem psize : Try.f10.params.size = 2 := rfl
theorem hst (N : Nat) (x : EKs [(.pair (.pair (.int .u64) (.pair (.int .u32) (.pair (.int .i64) (.pair (.int .u32) (.pair (.int .u32) (.pair (.int .u32) (.pair (.int .u32) (.pair (.int .u64) (.pair (.int .u64) (.pair (.int .u64) (.pair (.int .u64) (.pair (.int .u64) (.pair (.int .u64) (.pair .str .unit)))))))))))))) (.pair (.int .i64) (.pair (.int .i64) (.pair (.int .u64) (.pair (.int .u64) .unit))))), (.pair (.int .i64) (.pair (.int .u32) (.pair (.int .u32) (.pair (.int .u32) (.pair (.int .u64) (.pair (.int .u64) (.pair (.int .u64) .unit)))))))]) : embSt (granarylaw12_InodeKeeps_g N).lend.length (granarylaw12_InodeKeeps_g N).ins (encP (granarylaw12_InodeKeeps_g N).its ((x.1.1.1, x.1.1.2.1, x.1.1.2.2.1, x.1.1.2.2.2.1, x.1.1.2.2.2.2.1, x.1.1.2.2.2.2.2.1, x.1.1.2.2.2.2.2.2.1, x.1.1.2.2.2.2.2.2.2.1, x.1.1.2.2.2.2.2.2.2.2.1, x.1.1.2.2.2.2.2.2.2.2.2.1, x.1.1.2.2.2.2.2.2.2.2.2.2.1, x.1.1.2.2.2.2.2.2.2.2.2.2.2.1, x.1.1.2.2.2.2.2.2.2.2.2.2.2.2.1, x.1.1.2.2.2.2.2.2.2.2.2.2.2.2.2.1, x.1.2.1, x.1.2.2.1, x.1.2.2.2.1, x.1.2.2.2.2.1, x.2.1, x.2.2.1, x.2.2.2.1, x.2.2.2.2.1, x.2.2.2.2.2.1, x.2.2.2.2.2.2.1, x.2.2.2.2.2.2.2.1) : PT (granarylaw12_InodeKeeps_g N).its)) = some ⟨tvs [(.pair (.pair (.int .u64) (.pair (.int .u32) (.pair (.int .i64) (.pair (.int .u32) (.pair (.int .u32) (.pair (.int .u32) (.pair (.int .u32) (.pair (.int .u64) (.pair (.int .u64) (.pair (.int .u64) (.pair (.int .u64) (.pair (.int .u64) (.pair (.int .u64) (.pair .str .unit)))))))))))))) (.pair (.int .i64) (.pair (.int .i64) (.pair (.int .u64) (.pair (.int .u64) .unit))))), (.pair (.int .i64) (.pair (.int .u32) (.pair (.int .u32) (.pair (.int .u32) (.pair (.int .u64) (.pair (.int .u64) (.pair (.int .u64) .unit)))))))] x, []⟩ := by kernel_rfl
theorem hz (N : Nat) : (granarylaw12_InodeKeeps_g N).out (true : SumT (granarylaw12_InodeKeeps_g N).ots) = some ⟨[one (.bool true)], []⟩ := by kernel_rfl
theorem hsp (H : Type) (ds : List (DataW H)) (hds : ds.length = 2) : Rows.inodeKeepsSpec.fn H ds = { results := [.lit (.bool true)], args := ds } := by
  match ds, hds with
  | [_, _], _ => rfl
set_option maxRecDepth 100000 in
theorem contract (H : Type) (enc : TypeId × Value → H) (W : World) (base : Nat) (args : Array Value) (ds gs : List (DataW H)) (before : List MemPlace)
    (hval : ∀ (j : Nat) t v, Try.f10.params[j]? = some t → args[j]? = some v → Value.okWide Try.prog W .any base t v)
    (hW : DataW.Whole enc Try.prog Try.f10.params.toList Rows.inodeKeepsSpec.vars false W args.toList ds gs before) :
    Calls Try.prog 10 args W fun e W' => ∃ v, e = .returned v ∧ Rows.inodeKeepsSpec.post enc Try.prog Try.f10 false true false false W args v W' := by
  have hW' := hW
  obtain ⟨p, q, hA0, hV, rfl, hfz, hnd⟩ := hW
  have hv2 : ∀ (j : Nat) t v, Try.f10.params.toList[j]? = some t → args.toList[j]? = some v → Value.okWide Try.prog W .any base t v := by
    intro j t v h1 h2
    rw [Array.getElem?_toList] at h1 h2
    exact hval j t v h1 h2
  obtain ⟨x, hx, hw, hlen⟩ := args_ok (H := H) (enc := enc) (P := Try.prog) (W := W) (ρ := noBlocks) (base := base) (ks := [(.pair (.pair (.int .u64) (.pair (.int .u32) (.pair (.int .i64) (.pair (.int .u32) (.pair (.int .u32) (.pair (.int .u32) (.pair (.int .u32) (.pair (.int .u64) (.pair (.int .u64) (.pair (.int .u64) (.pair (.int .u64) (.pair (.int .u64) (.pair (.int .u64) (.pair .str .unit)))))))))))))) (.pair (.int .i64) (.pair (.int .i64) (.pair (.int .u64) (.pair (.int .u64) .unit))))), (.pair (.int .i64) (.pair (.int .u32) (.pair (.int .u32) (.pair (.int .u32) (.pair (.int .u64) (.pair (.int .u64) (.pair (.int .u64) .unit)))))))]) (ts := Try.f10.params.toList) (vs := args.toList) (ds := ds) (ps := p) kts2 hv2 hA0
  obtain ⟨N, hN⟩ := Pure.inodeKeeps x hw
  exact law_close (granarylaw12_InodeKeeps_ok N) (y := ((x.1.1.1, x.1.1.2.1, x.1.1.2.2.1, x.1.1.2.2.2.1, x.1.1.2.2.2.2.1, x.1.1.2.2.2.2.2.1, x.1.1.2.2.2.2.2.2.1, x.1.1.2.2.2.2.2.2.2.1, x.1.1.2.2.2.2.2.2.2.2.1, x.1.1.2.2.2.2.2.2.2.2.2.1, x.1.1.2.2.2.2.2.2.2.2.2.2.1, x.1.1.2.2.2.2.2.2.2.2.2.2.2.1, x.1.1.2.2.2.2.2.2.2.2.2.2.2.2.1, x.1.1.2.2.2.2.2.2.2.2.2.2.2.2.2.1, x.1.2.1, x.1.2.2.1, x.1.2.2.2.1, x.1.2.2.2.2.1, x.2.1, x.2.2.1, x.2.2.2.1, x.2.2.2.2.1, x.2.2.2.2.2.1, x.2.2.2.2.2.2.1, x.2.2.2.2.2.2.2.1) : PT (granarylaw12_InodeKeeps_g N).its)) (z := (true : SumT (granarylaw12_InodeKeeps_g N).ots)) hN (T := tvs [(.pair (.pair (.int .u64) (.pair (.int .u32) (.pair (.int .i64) (.pair (.int .u32) (.pair (.int .u32) (.pair (.int .u32) (.pair (.int .u32) (.pair (.int .u64) (.pair (.int .u64) (.pair (.int .u64) (.pair (.int .u64) (.pair (.int .u64) (.pair (.int .u64) (.pair .str .unit)))))))))))))) (.pair (.int .i64) (.pair (.int .i64) (.pair (.int .u64) (.pair (.int .u64) .unit))))), (.pair (.int .i64) (.pair (.int .u32) (.pair (.int .u32) (.pair (.int .u32) (.pair (.int .u64) (.pair (.int .u64) (.pair (.int .u64) .unit)))))))] x) (hst N x) (hz N) hx laid (par_ok pars) rfl (fun ds hds => hsp H ds (by rw [psize] at hds; exact hds))
    (by rw [psize]; rw [plen] at hlen; exact hlen) (tb := 4) (by kernel_rfl) Try.underlying4 hW'
set_option maxRecDepth 100000 in
theorem lifted (os : Os) (started : os.Started) (H : Type) (enc : TypeId × Value → H) :
    ReturnsInHanded {} Try.checked os 10 .any (Rows.inodeKeepsSpec.pre6 enc Try.prog Try.f10 Rows.inodeKeepsRow.domain false) (Rows.inodeKeepsSpec.post enc Try.prog Try.f10 false true false false) := by
  refine returnsInHanded_of_change (C := Try.checked) own started (by kernel_rfl) Try.func10
    (ChangeSpec.witness6 (enc := enc) (C := Try.checked) false ⟨#[], #[.agg #[.int .u64 0, .int .u32 0, .int .i64 0, .int .u32 0, .int .u32 0, .int .u32 0, .int .u32 0, .int .u64 0, .int .u64 0, .int .u64 0, .int .u64 0, .int .u64 0, .int .u64 0, .string ⟨#[]⟩, .int .i64 0, .int .i64 0, .int .u64 0, .int .u64 0], .agg #[.int .i64 0, .int .u32 0, .int .u32 0, .int .u32 0, .int .u64 0, .int .u64 0, .int .u64 0]], []⟩ 8 (by kernel_rfl) (by kernel_rfl) (by kernel_rfl) (by kernel_rfl)) ?_
  intro W base args ds gs before hval hW _ _
  exact contract H enc W base args ds gs before hval hW
theorem proved : Rows.InodeKeepsSaid :=
  OpenClaim.holds_of_wide 10 Try.f10 rfl rfl rfl rfl rfl rfl rfl ⟨rfl, rfl, rfl, rfl, rfl⟩ rfl rfl rfl rfl rfl (by kernel_rfl) Try.func10 (by kernel_rfl)
    (of_decide_eq_true (by kernel_rfl)) (by unfold Func.isWrapper; first | (rw [if_pos (by decide +kernel)]; kernel_rfl) | (rw [if_neg (by decide +kernel)]; exact ⟨rfl, rfl⟩))
    (fun os started H enc _ => lifted os started H enc)
#print axioms proved
end Go.Proofs.Ytcehhkdpdehjhaa.inodeKeeps
