/-
  Every bytes in shards, and back: the plain law.
-/
import Derived.Test.YtoabbnfjnjbjfaaRsFRsSplits
import Derived.Test.YtoabbnfjnjbjfaaPlRsLaw
import Derived.Test.YtoabbnfjnjbjfaaPlRsSplit
set_option linter.unusedVariables false
set_option linter.unusedSimpArgs false
set_option maxRecDepth 100000
namespace Go.Rf.W.Pure
open Go Go.Rf Go.Rf.W Go.Rf.Lin

theorem rsSplits (x : EKs [(.int .i64), (.int .i64), (.sl (.int .u8)), (.sl (.sl (.int .u8))), (.int .i64)]) (hw : wfs [(.int .i64), (.int .i64), (.sl (.int .u8)), (.sl (.sl (.int .u8))), (.int .i64)] x) (hb : bulks [(.int .i64), (.int .i64), (.sl (.int .u8)), (.sl (.sl (.int .u8))), (.int .i64)] x ≤ 1048576) : ∃ N, granarylaw03_RsSplits N (x.1, x.2.1, x.2.2.1, x.2.2.2.1, x.2.2.2.2) = some true := by
  obtain ⟨k, m, P, S, c⟩ := x
  change Int at k m c
  change List (List Int) at S
  change List Int at P
  have hwS : EK.wf (.sl (.sl (.int .u8))) S := hw.2.2.2.1
  have hwP := wf_bytes (l := P) hw.2.2.1
  have hb' : 1 + (1 + ((sumL (EK.bulk (.int .u8)) P + 1) + (EK.bulk (.sl (.sl (.int .u8))) S + 1))) ≤ 1048576 := hb
  refine ⟨20000, ?_⟩
  show granarylaw03_RsSplits 20000 (k, m, P, S, c) = some true
  obtain ⟨b, hg, hs⟩ := hugeG (N := 20000) (by omega) (rows_bulk (S := S) (by omega))
  rcases both_cases k m with hbo | ⟨k, m, rfl, rfl, hk, hk2, hm, hbo⟩
  · unfold granarylaw03_RsSplits
    dsimp only
    rw [hbo, Option.bind_some, rs_liveN]
    dsimp only
    rw [hg]
    cases b
    · cases decide ((69632 : Int) < (((List.length P) : Nat) : Int)) <;> rfl
    · rfl
  unfold granarylaw03_RsSplits
  dsimp only
  rw [hbo, Option.bind_some, rs_liveN]
  dsimp only
  rw [Bool.not_true, cond_false, hg, Option.bind_some]
  cases b with
  | true => rfl
  | false =>
    by_cases h9 : (69632 : Int) < ((P.length : Nat) : Int)
    · rw [dT h9]; rfl
    have hS := sm_of hwS (hs rfl)
    have f1 : fits 1 P.length = true := by simp [fits]; omega
    obtain ⟨e2, q2, L2, j1, j2, j3, _⟩ := join_both (N := 20000) (m := (m : Int)) (R := rowsF k m) (by omega) hk hk2 hS c
    have g1 : (0 + q2) ≤ L2.length := by omega
    rw [cond_false, dF h9, cond_false, f1, cond_true]
    rcases split_both (N := 20000) (m := (m : Int)) (R := rowsF k m) (by omega) hk hk2 (P := P) (by omega) with ⟨n, hn, hPn, p1, p2⟩ | ⟨p1, p2⟩
    · have hlp := pieces_length P n k
      have hsm := pieces_sm hwP (n := n) (k := k) (by omega) (by omega)
      obtain ⟨T, hT⟩ := spoilG (N := 20000) (by omega) hsm
      have hpe : evenB (pieces P n k) = true := by
        rw [evenB_iff]
        intro i hi
        rw [hlp] at hi
        rw [pieces_get hi, pieces_get (by omega), piece_length, piece_length]
      have hfl := pieces_flat P n k
      have hfp : List.take P.length (pieces P n k).flatten = P := by
        rw [hfl, List.take_of_length_le (by omega : P.length ≤ k * n), List.take_left]
      have hfn : P.length ≤ (pieces P n k).flatten.length := by
        rw [hfl, List.length_append, List.length_take]; omega
      obtain ⟨e1, q1, L1, i1, i2, i3, i4⟩ := join_both (N := 20000) (m := (m : Int)) (R := rowsF k m) (by omega) hk hk2 hsm ((P.length : Nat) : Int)
      obtain ⟨rfl, rfl, rfl⟩ := i4 hlp hpe (by omega) (by omega)
      rw [Int.toNat_natCast] at i1
      have g0 : (0 + P.length) ≤ (pieces P n k).flatten.length := by omega
      rw [p1, Option.bind_some]
      dsimp only
      rw [p2, Option.bind_some]
      dsimp only
      rw [sameG (by omega) _ _ (by rw [hlp]; omega), sameB_self, Option.bind_some, Bool.not_true, cond_false, numN, Option.bind_some, dT rfl, Bool.not_true, Option.bind_some, cond_false, cond_true, i1, Option.bind_some]
      dsimp only
      rw [numN, Option.bind_some, dT rfl, Bool.not_true, cond_false, dT g0, cond_true, List.drop_zero, hfp, dT rfl, Bool.not_true, Option.bind_some, cond_false, Option.bind_some]
      dsimp only
      rw [lentG_ok (by omega) hS, Option.bind_some, j1, Option.bind_some]
      dsimp only
      rw [j2, Option.bind_some]
      dsimp only
      rw [hT, Option.bind_some, dT g1, cond_true, cond_true, dT rfl, cond_true, numN, Option.bind_some, dT rfl, cond_true, cond_true, Option.bind_some, Option.bind_some]
    · obtain ⟨T, hT⟩ := spoilG (N := 20000) (by omega) (S := []) ⟨by simp, fun r hr => (by cases hr), fun r hr => (by cases hr)⟩
      rw [p1, Option.bind_some]
      dsimp only
      rw [p2, Option.bind_some]
      dsimp only
      rw [sameG (by omega) _ _ (by simp), sameB_self, Option.bind_some, Bool.not_true, cond_false, numN, Option.bind_some, dT rfl, Bool.not_true, Option.bind_some, cond_false, dF (by decide), cond_false, Option.bind_some]
      dsimp only
      rw [lentG_ok (by omega) hS, Option.bind_some, j1, Option.bind_some]
      dsimp only
      rw [j2, Option.bind_some]
      dsimp only
      rw [hT, Option.bind_some, dT g1, cond_true, cond_true, dT rfl, cond_true, numN, Option.bind_some, dT rfl, cond_true, dT rfl, cond_true, Option.bind_some, Option.bind_some]

end Go.Rf.W.Pure
