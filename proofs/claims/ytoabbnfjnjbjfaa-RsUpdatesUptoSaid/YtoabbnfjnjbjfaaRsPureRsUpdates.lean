/-
  Every change of a shard: the plain law.
-/
import Derived.Test.YtoabbnfjnjbjfaaRsFRsUpdates
import Derived.Test.YtoabbnfjnjbjfaaPlRsLaw
import Derived.Test.YtoabbnfjnjbjfaaPlRsUpd
import Derived.Test.YtoabbnfjnjbjfaaPlRsSame1
set_option linter.unusedVariables false
set_option linter.unusedSimpArgs false
set_option maxRecDepth 100000
namespace Go.Rf.W.Pure
open Go Go.Rf Go.Rf.W Go.Rf.Lin

theorem rsUpdates (x : EKs [(.int .i64), (.int .i64), (.sl (.sl (.int .u8))), (.int .i64), (.sl (.int .u8)), (.sl (.int .u8))]) (hw : wfs [(.int .i64), (.int .i64), (.sl (.sl (.int .u8))), (.int .i64), (.sl (.int .u8)), (.sl (.int .u8))] x) (hb : bulks [(.int .i64), (.int .i64), (.sl (.sl (.int .u8))), (.int .i64), (.sl (.int .u8)), (.sl (.int .u8))] x ≤ 1048576) : ∃ N, granarylaw03_RsUpdates N (x.1, x.2.1, x.2.2.1, x.2.2.2.1, x.2.2.2.2.1, x.2.2.2.2.2) = some true := by
  obtain ⟨k, m, S, c, U, V⟩ := x
  change Int at k m c
  change List (List Int) at S
  change List Int at U V
  have hwS : EK.wf (.sl (.sl (.int .u8))) S := hw.2.2.1
  have hwU := wf_bytes (l := U) hw.2.2.2.2.1
  have hwV := wf_bytes (l := V) hw.2.2.2.2.2
  have hb' : 1 + (1 + (EK.bulk (.sl (.sl (.int .u8))) S + (1 + ((sumL (EK.bulk (.int .u8)) U + 1) + (sumL (EK.bulk (.int .u8)) V + 1))))) ≤ 1048576 := hb
  have hbU := sumL_len (f := EK.bulk (.int .u8)) (fun _ => Nat.le_refl 1) U
  have hbV := sumL_len (f := EK.bulk (.int .u8)) (fun _ => Nat.le_refl 1) V
  refine ⟨20000, ?_⟩
  show granarylaw03_RsUpdates 20000 (k, m, S, c, U, V) = some true
  obtain ⟨b, hg, hs⟩ := hugeG (N := 20000) (by omega) (rows_bulk (S := S) (by omega))
  have hw1 : wrapF .i64 (((U.length : Nat) : Int) + ((V.length : Nat) : Int)) = ((U.length + V.length : Nat) : Int) := by
    rw [wrapF_i64 (by omega) (by omega)]; omega
  rcases both_cases k m with hbo | ⟨k, m, rfl, rfl, hk, hk2, hm, hbo⟩
  · unfold granarylaw03_RsUpdates
    dsimp only
    rw [hbo, Option.bind_some, rs_liveN]
    dsimp only
    rw [hg]
    cases b
    · cases decide ((9000 : Int) < (wrapF .i64 ((((List.length U) : Nat) : Int) + (((List.length V) : Nat) : Int)))) <;> rfl
    · rfl
  unfold granarylaw03_RsUpdates
  dsimp only
  rw [hbo, Option.bind_some, rs_liveN]
  dsimp only
  rw [Bool.not_true, cond_false, hg, Option.bind_some, hw1]
  cases b with
  | true => rfl
  | false =>
    by_cases h9 : (9000 : Int) < ((U.length + V.length : Nat) : Int)
    · rw [dT h9]; rfl
    have hS := sm_of hwS (hs rfl)
    have hl := (hs rfl).1
    obtain ⟨e, P, p1, p2, p3, p4⟩ := upd_both (N := 20000) (by omega) hk hk2 hm hS hl ⟨by omega, hwU⟩ ⟨by omega, hwV⟩ c
    obtain ⟨T, hT⟩ := spoilG (N := 20000) (by omega) p3
    rw [cond_false, dF h9, cond_false, lentG_ok (by omega) hS, Option.bind_some, p1, Option.bind_some]
    dsimp only
    rw [p2, Option.bind_some]
    dsimp only
    rw [same_v, sameG (by omega) P P (by omega), sameB_self, Option.bind_some, Bool.not_true, cond_false, numN, Option.bind_some, dT rfl, Bool.not_true, Option.bind_some, cond_false, hT, Option.bind_some, sameG (by omega) S S (by omega), sameB_self, Option.bind_some, cond_true, Option.bind_some, Option.bind_some]

end Go.Rf.W.Pure
