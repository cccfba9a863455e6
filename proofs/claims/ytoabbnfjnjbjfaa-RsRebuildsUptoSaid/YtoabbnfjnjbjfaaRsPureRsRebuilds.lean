/-
  Rebuilding: the plain law.
-/
import Derived.Test.YtoabbnfjnjbjfaaRsFRsRebuilds
import Derived.Test.YtoabbnfjnjbjfaaPlRsLaw
import Derived.Test.YtoabbnfjnjbjfaaPlRsReb
import Derived.Test.YtoabbnfjnjbjfaaPlRsSame1
set_option linter.unusedVariables false
set_option linter.unusedSimpArgs false
set_option maxRecDepth 100000
namespace Go.Rf.W.Pure
open Go Go.Rf Go.Rf.W Go.Rf.Lin

theorem rsRebuilds (x : EKs [(.int .i64), (.int .i64), (.sl (.sl (.int .u8))), (.sl .bool)]) (hw : wfs [(.int .i64), (.int .i64), (.sl (.sl (.int .u8))), (.sl .bool)] x) (hb : bulks [(.int .i64), (.int .i64), (.sl (.sl (.int .u8))), (.sl .bool)] x ≤ 1048576) : ∃ N, granarylaw03_RsRebuilds N (x.1, x.2.1, x.2.2.1, x.2.2.2) = some true := by
  obtain ⟨k, m, S, H⟩ := x
  change Int at k m
  change List (List Int) at S
  change List Bool at H
  have hwS : EK.wf (.sl (.sl (.int .u8))) S := hw.2.2.1
  have hb' : 1 + (1 + (EK.bulk (.sl (.sl (.int .u8))) S + (sumL (EK.bulk .bool) H + 1))) ≤ 1048576 := hb
  refine ⟨20000, ?_⟩
  show granarylaw03_RsRebuilds 20000 (k, m, S, H) = some true
  obtain ⟨b, hg, hs⟩ := hugeG (N := 20000) (by omega) (rows_bulk (S := S) (by omega))
  rcases both_cases k m with hbo | ⟨k, m, rfl, rfl, hk, hk2, hm, hbo⟩
  · unfold granarylaw03_RsRebuilds
    dsimp only
    rw [hbo, Option.bind_some, rs_liveN]
    dsimp only
    rw [hg]
    cases b
    · cases decide ((30 : Int) < (((List.length H) : Nat) : Int)) <;> rfl
    · rfl
  unfold granarylaw03_RsRebuilds
  dsimp only
  rw [hbo, Option.bind_some, rs_liveN]
  dsimp only
  rw [Bool.not_true, cond_false, hg, Option.bind_some]
  cases b with
  | true => rfl
  | false =>
    by_cases h9 : (30 : Int) < ((H.length : Nat) : Int)
    · rw [dT h9]; rfl
    have hS := sm_of hwS (hs rfl)
    have hl := (hs rfl).1
    have hf : fits 1 H.length = true := by simp [fits]; omega
    obtain ⟨e, P, p1, p2, p3, p4⟩ := reb_both (N := 20000) (by omega) hk hk2 hm hS (H := H) (by omega)
    obtain ⟨T, hT⟩ := spoilG (N := 20000) (by omega) p3
    rw [cond_false, dF h9, cond_false, lentG_ok (by omega) hS, Option.bind_some, hf, cond_true, rebuild_v, p1, Option.bind_some]
    dsimp only
    rw [p2, Option.bind_some]
    dsimp only
    rw [sameG (by omega) P P (by omega), sameB_self, Option.bind_some, Bool.not_true, cond_false, numN, Option.bind_some, dT rfl, Bool.not_true, Option.bind_some, cond_false, hT, Option.bind_some, same_v, sameG (by omega) S S (by omega), sameB_self, Option.bind_some, cond_true, Option.bind_some, Option.bind_some]

end Go.Rf.W.Pure
