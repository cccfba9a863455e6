/-
  ShaSums, plain: the digest and the check sums are the document's.
-/
import Derived.Test.YtokfelhleojnjaaShaFShaSums
import Derived.Test.YtokfelhleojnjaaPlShaL
import Derived.Test.YtokfelhleojnjaaRfC
set_option linter.unusedVariables false
namespace Go.Rf.W.Pure
open Go Go.Rf Go.Rf.W Go.Rf.W.Sha

theorem shaSums (x : EKs [(.sl (.int .u8)), (.int .u32)]) (hw : wfs [(.sl (.int .u8)), (.int .u32)] x) : ∃ N, granarylaw05_ShaSums N (x.1, x.2) = some true := by
  obtain ⟨p, c⟩ := x
  obtain ⟨h1, h2⟩ := hw
  have hb : ∀ y ∈ p, 0 ≤ y ∧ y < 256 := wf_bytes h1
  obtain ⟨m, e, hm⟩ := wf_u32 h2
  dsimp only at e
  subst e
  refine ⟨20000, ?_⟩
  unfold granarylaw05_ShaSums
  dsimp only
  have hl := live_ok (N := 20000) (by omega)
  by_cases h : 9000 < p.length
  · rw [deT (by omega), cond_true, hl]; rfl
  · rw [deF (by omega), cond_false, fits1 (by omega), cond_true, Sum_ok (by omega) (by omega), Option.bind_some, rSum_ok (by omega) (by omega), Option.bind_some, deS, cond_true, Crc_ok hb (by omega) (by omega), Option.bind_some, rCrc_ok hb (by omega) (by omega), Option.bind_some, deS, cond_true,
      more1_eq, more_ok hb (by omega) hm (by omega), Option.bind_some, rmore_ok hb (by omega) hm (by omega), Option.bind_some, deS, cond_true, deS, cond_true, hl]
    rfl

end Go.Rf.W.Pure
