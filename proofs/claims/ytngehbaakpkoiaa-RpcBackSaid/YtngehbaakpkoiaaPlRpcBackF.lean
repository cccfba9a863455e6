/-
  Package rpc: a record that is told apart can be put again.
-/
import Derived.Test.YtngehbaakpkoiaaPlRpcBackE
set_option linter.unusedVariables false
set_option linter.unusedSimpArgs false
set_option maxRecDepth 10000
namespace Go.Rf.W.Pure
open Go Go.Rf Go.Rf.W

abbrev ClT := Int × Int × Int × Int × Int × Int × Int × Int × Int × Int × Int × Int × Int × Int × Int × (List UInt8) × Int × Int × (List Int) × (List Int) × (List Int) × (List Int)

def Refused (r : ClT) : Prop := r.1 = 1 ∧ ∃ (x lo hi why : Nat) (k : Int), r.2.1 = (x : Int) ∧ r.2.2.1 = k ∧ r.2.2.2.1 = (lo : Int) ∧ r.2.2.2.2.1 = (hi : Int) ∧ r.2.2.2.2.2.1 = (why : Int) ∧ x < 4294967296 ∧ lo < 4294967296 ∧ hi < 4294967296 ∧ why < 4294967296 ∧ okR k lo hi why 0 = true ∧ k ≠ 0

def Taken (N : Nat) (D : List Int) (r : ClT) : Prop := r.1 = 2 ∧ rpc_PutCall_v1 N (r.2.2.2.2.2.2.1, r.2.2.2.2.2.2.2.1, r.2.2.2.2.2.2.2.2.1, r.2.2.2.2.2.2.2.2.2.1, r.2.2.2.2.2.2.2.2.2.2.1, r.2.2.2.2.2.2.2.2.2.2.2.1, r.2.2.2.2.2.2.2.2.2.2.2.2.2.2.2.2.2.2.1, r.2.2.2.2.2.2.2.2.2.2.2.2.1, r.2.2.2.2.2.2.2.2.2.2.2.2.2.2.2.2.2.2.2.1, r.2.2.2.2.2.2.2.2.2.2.2.2.2.2.2.2.2.2.2.2.1) = some (0, D)

theorem classify_back {N : Nat} {D : List Int} (hb : Bts D) (hD : D.length ≤ 20000) (hN : 25000 < N) : ∃ r, rpc_Classify_v1 N D = some r ∧ (r.1 = 0 ∨ Refused r ∨ Taken N D r) := by
  have hD' : D.length < 1000000 := by omega
  obtain ⟨v1, a1, w1, p1, k1, hv1, e1, g1⟩ := uint_any (N := N) (a := 0) (w := 0) (p := 0) hb (Nat.zero_le _) hD' (by omega)
  obtain ⟨v2, a2, w2, p2, k2, hv2, e2, g2⟩ := uint_any (N := N) (w := w1) (p := p1) hb k1 hD' (by omega)
  obtain ⟨v3, a3, w3, p3, k3, hv3, e3, g3⟩ := uint_any (N := N) (w := w2) (p := p2) hb k2 hD' (by omega)
  obtain ⟨v4, a4, w4, p4, k4, hv4, e4, g4⟩ := uint_any (N := N) (w := w3) (p := p3) hb k3 hD' (by omega)
  obtain ⟨v5, a5, w5, p5, k5, hv5, e5, g5⟩ := uint_any (N := N) (w := w4) (p := p4) hb k4 hD' (by omega)
  obtain ⟨v6, a6, w6, p6, k6, hv6, e6, g6⟩ := uint_any (N := N) (w := w5) (p := p5) hb k5 hD' (by omega)
  obtain ⟨v7, a7, w7, p7, l7, k7, hv7, b7, d7, e7, g7⟩ := auth_any (N := N) (w := w6) (p := p6) hb k6 hD' (by omega)
  obtain ⟨v8, a8, w8, p8, l8, k8, hv8, b8, d8, e8, g8⟩ := auth_any (N := N) (w := w7) (p := p7) hb k7 hD' (by omega)
  have e1 : xdr_Reader_Uint N (0, 0, 0, D) = _ := e1
  rw [show @rpc_Classify_v1 = rpc_Classify from rfl]
  unfold rpc_Classify xdr_NewReader
  rw [clone1_ok hD', Option.bind_some, Option.bind_some, e1, Option.bind_some]
  dsimp only
  rw [e2, Option.bind_some]
  dsimp only
  rw [e3, Option.bind_some]
  dsimp only
  have hz : ∃ z : Bool, (bif decide (((D.length : Nat) : Int) < 8) then some true else bif !(decide ((v2 : Int) = 0)) then some true else bif decide (((D.length : Nat) : Int) < 24) then (bif decide ((v3 : Int) = 2) then some true else some (decide (((D.length : Nat) : Int) < 12))) else some false) = some z ∧ (z = false → v2 = 0) := by
    by_cases c2 : (v2 : Int) = 0
    · rw [deT c2]
      cases decide (((D.length : Nat) : Int) < 8) <;> cases decide (((D.length : Nat) : Int) < 24) <;> cases decide ((v3 : Int) = 2) <;> exact ⟨_, rfl, fun _ => by omega⟩
    · rw [deF c2]
      cases decide (((D.length : Nat) : Int) < 8) <;> exact ⟨true, rfl, fun h => by cases h⟩
  obtain ⟨z, hz1, hz2⟩ := hz
  rw [hz1, Option.bind_some]
  cases z with
  | true => exact ⟨_, rfl, .inl rfl⟩
  | false =>
  have hv20 := hz2 rfl
  rw [cond_false]
  by_cases c4 : (v3 : Int) = 2
  rotate_left
  · rw [deF c4]
    exact ⟨_, rfl, .inr (.inl ⟨rfl, v1, 2, 2, 0, 6, rfl, rfl, rfl, rfl, rfl, hv1, by decide, by decide, by decide, rfl, by decide⟩)⟩
  rw [deT c4, Bool.not_true, cond_false, e4, Option.bind_some]
  dsimp only
  rw [e5, Option.bind_some]
  dsimp only
  rw [e6, Option.bind_some]
  dsimp only
  rw [e7, Option.bind_some]
  dsimp only
  rw [show xdr_Reader_Why ((a7 : Int), w7, p7, D) = some (w7, p7, (a7 : Int), w7, p7, D) from rfl, Option.bind_some]
  dsimp only
  by_cases c6 : w7 = 0
  rotate_left
  · rw [deF c6]
    exact ⟨_, rfl, .inr (.inl ⟨rfl, v1, 0, 0, 1, 7, rfl, rfl, rfl, rfl, rfl, hv1, by decide, by decide, by decide, rfl, by decide⟩)⟩
  rw [deT c6, Bool.not_true, cond_false]
  obtain ⟨q, e, y1, y2, y3⟩ := cred_any (N := N) (f := v7) b7 (by omega) (by omega)
  rw [y1, Option.bind_some]
  by_cases c7 : q.2.2.2.2.2.1 = 0
  rotate_left
  · rw [deF c7, cond_false, Option.bind_some]
    dsimp only
    rw [deF c7]
    exact ⟨_, rfl, .inr (.inl ⟨rfl, v1, 0, 0, e, 7, rfl, rfl, rfl, rfl, y2, hv1, by decide, by decide, by omega, rfl, by decide⟩)⟩
  rw [deT c7, cond_true, e8, Option.bind_some]
  dsimp only
  rw [show xdr_Reader_Why ((a8 : Int), w8, p8, D) = some (w8, p8, (a8 : Int), w8, p8, D) from rfl, Option.bind_some]
  dsimp only
  have hcase : ∃ z : Bool, (bif !(decide (w8 = 0)) then some true else bif !(decide ((v8 : Int) = 0)) then some true else some (decide ((0 : Int) < (((List.length l8) : Nat) : Int)))) = some z ∧ (z = false → w8 = 0) := by
    by_cases c : w8 = 0
    · rw [deT c]
      cases decide ((v8 : Int) = 0) <;> exact ⟨_, rfl, fun _ => c⟩
    · rw [deF c]
      exact ⟨true, rfl, fun h => by cases h⟩
  obtain ⟨z, hz, hw8⟩ := hcase
  rw [hz, Option.bind_some]
  cases z with
  | true =>
    exact ⟨_, rfl, .inr (.inl ⟨rfl, v1, 0, 0, 3, 7, rfl, rfl, rfl, rfl, rfl, hv1, by decide, by decide, by decide, rfl, by decide⟩)⟩
  | false =>
    have hw8 := hw8 rfl
    rw [cond_false, Option.bind_some, Option.bind_some]
    dsimp only
    rw [c7]
    obtain ⟨q8, r8, s8⟩ := g8 hw8
    obtain ⟨q7, r7, s7⟩ := g7 q8
    obtain ⟨q6, r6, s6⟩ := g6 q7
    obtain ⟨q5, r5, s5⟩ := g5 q6
    obtain ⟨q4, r4, s4⟩ := g4 q5
    obtain ⟨q3, r3, s3⟩ := g3 q4
    obtain ⟨q2, r2, s2⟩ := g2 q3
    obtain ⟨q1, r1, s1⟩ := g1 q2
    have hput : rpc_PutCall_v1 N ((v1 : Int), (v3 : Int), (v4 : Int), (v5 : Int), (v6 : Int), (v7 : Int), l7, (v8 : Int), l8, D.drop a8) = some (0, D) := by
      rw [show @rpc_PutCall_v1 = rpc_PutCall from rfl, putCall_ok hv1 hv3 hv4 hv5 hv6 hv7 hv8 (by omega) (by omega) (by simp; omega) (by omega), if_pos ⟨r7, r8⟩]
      have ed : D.drop 0 = callB v1 v3 v4 v5 v6 v7 v8 l7 l8 (D.drop a8) := by
        unfold callB
        rw [s1, ← r1, s2, ← r2, s3, ← r3, s4, ← r4, s5, ← r5, s6, ← r6, s7, s8, hv20]
      have ed : D = callB v1 v3 v4 v5 v6 v7 v8 l7 l8 (D.drop a8) := ed
      rw [← ed]
    have s1' : decide ((100003 : Int) = 100005) = false := rfl
    have s2' : decide ((100005 : Int) = 100003) = false := rfl
    have s3' : decide ((22 : Int) = 0) = false := rfl
    have s4' : decide ((4 : Int) = 0) = false := rfl
    rw [rest_ok k8 hD', deS]
    by_cases m1 : (v4 : Int) = 100003
    · by_cases m2 : (v5 : Int) = 3
      · rw [deT m1, deT m2]
        simp only [deS, s1', s3', cond_true, cond_false, Bool.not_true, Bool.not_false, Option.bind_some, decide_true]
        by_cases m3 : (22 : Int) ≤ (v6 : Int)
        · rw [deT m3]
          exact ⟨_, rfl, .inr (.inl ⟨rfl, v1, 0, 0, 0, 3, rfl, rfl, rfl, rfl, rfl, hv1, by decide, by decide, by decide, rfl, by decide⟩)⟩
        · rw [deF m3]
          exact ⟨_, rfl, .inr (.inr ⟨rfl, hput⟩)⟩
      · rw [deT m1, deF m2]
        exact ⟨_, rfl, .inr (.inl ⟨rfl, v1, 3, 3, 0, 2, rfl, rfl, rfl, rfl, rfl, hv1, by decide, by decide, by decide, rfl, by decide⟩)⟩
    · by_cases m4 : (v4 : Int) = 100005
      · by_cases m2 : (v5 : Int) = 3
        · rw [deF m1, deT m4, deT m2]
          simp only [deS, s2', s4', cond_true, cond_false, Bool.not_true, Bool.not_false, Option.bind_some, decide_true]
          by_cases m3 : (4 : Int) ≤ (v6 : Int)
          · rw [deT m3]
            exact ⟨_, rfl, .inr (.inl ⟨rfl, v1, 0, 0, 0, 3, rfl, rfl, rfl, rfl, rfl, hv1, by decide, by decide, by decide, rfl, by decide⟩)⟩
          · rw [deF m3]
            exact ⟨_, rfl, .inr (.inr ⟨rfl, hput⟩)⟩
        · rw [deF m1, deT m4, deF m2]
          exact ⟨_, rfl, .inr (.inl ⟨rfl, v1, 3, 3, 0, 2, rfl, rfl, rfl, rfl, rfl, hv1, by decide, by decide, by decide, rfl, by decide⟩)⟩
      · rw [deF m1, deF m4]
        exact ⟨_, rfl, .inr (.inl ⟨rfl, v1, 0, 0, 0, 1, rfl, rfl, rfl, rfl, rfl, hv1, by decide, by decide, by decide, rfl, by decide⟩)⟩

end Go.Rf.W.Pure
