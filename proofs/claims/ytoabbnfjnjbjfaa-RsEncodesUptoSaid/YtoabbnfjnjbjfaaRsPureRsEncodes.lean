/-
  Every shards, encoded and checked: the plain law.
-/
import Derived.Test.YtoabbnfjnjbjfaaRsFRsEncodes
import Derived.Test.YtoabbnfjnjbjfaaPlRsLaw
import Derived.Test.YtoabbnfjnjbjfaaPlRsEnc
set_option linter.unusedVariables false
set_option linter.unusedSimpArgs false
set_option maxRecDepth 100000
namespace Go.Rf.W.Pure
open Go Go.Rf Go.Rf.W Go.Rf.Lin

theorem rsEncodes (x : EKs [(.int .i64), (.int .i64), (.sl (.sl (.int .u8)))]) (hw : wfs [(.int .i64), (.int .i64), (.sl (.sl (.int .u8)))] x) (hb : bulks [(.int .i64), (.int .i64), (.sl (.sl (.int .u8)))] x ≤ 1048576) : ∃ N, granarylaw03_RsEncodes N (x.1, x.2.1, x.2.2) = some true := by
  obtain ⟨k, m, S⟩ := x
  change Int at k m
  change List (List Int) at S
  have hwS : EK.wf (.sl (.sl (.int .u8))) S := hw.2.2
  have hbS : EK.bulk (.sl (.sl (.int .u8))) S ≤ 1048576 := by
    have : 1 + (1 + EK.bulk (.sl (.sl (.int .u8))) S) ≤ 1048576 := hb
    omega
  refine ⟨20000, ?_⟩
  show granarylaw03_RsEncodes 20000 (k, m, S) = some true
  obtain ⟨b, hg, hs⟩ := hugeG (N := 20000) (by omega) (rows_bulk hbS)
  rcases both_cases k m with hbo | ⟨k, m, rfl, rfl, hk, hk2, hm, hbo⟩
  · unfold granarylaw03_RsEncodes
    dsimp only
    rw [hbo, Option.bind_some, rs_liveN]
    dsimp only
    rw [hg]
    cases b <;> rfl
  unfold granarylaw03_RsEncodes
  dsimp only
  rw [hbo, Option.bind_some, rs_liveN]
  dsimp only
  rw [Bool.not_true, cond_false, hg, Option.bind_some]
  cases b with
  | true => rfl
  | false =>
    have hS := sm_of hwS (hs rfl)
    have hl := (hs rfl).1
    obtain ⟨e, P, p1, p2, p3, p4, _⟩ := enc_both (N := 20000) (by omega) hk hk2 hm hS
    obtain ⟨b1, e1, c1, c2⟩ := check_both (N := 20000) (by omega) hk hk2 hm hS
    obtain ⟨b2, e2, d1, d2⟩ := check_both (N := 20000) (by omega) hk hk2 hm (hS.append p3 (by omega))
    obtain ⟨T, hT⟩ := spoilG (N := 20000) (by omega) p3
    have f1 : fits 24 (S.length + P.length) = true := by simp [fits]; omega
    rw [cond_false, lentG_ok (by omega) hS, Option.bind_some, encode_v, p1, Option.bind_some]
    dsimp only
    rw [p2, Option.bind_some]
    dsimp only
    rw [same_v, sameG (by omega) P P (by omega), sameB_self, Option.bind_some, Bool.not_true, cond_false, numN, Option.bind_some, dT rfl, Bool.not_true, Option.bind_some, cond_false, c1, Option.bind_some]
    dsimp only
    rw [c2, Option.bind_some]
    dsimp only
    rw [beS, Bool.not_true, cond_false, numN, Option.bind_some, dT rfl, Bool.not_true, Option.bind_some, cond_false, Option.bind_some, f1, cond_true, d1, Option.bind_some]
    dsimp only
    rw [check_v, d2, Option.bind_some]
    dsimp only
    rw [hT, Option.bind_some, beS, cond_true, numN, Option.bind_some, dT rfl, cond_true, sameG (by omega) S S (by omega), sameB_self, Option.bind_some, cond_true, Option.bind_some, Option.bind_some]

end Go.Rf.W.Pure
