/-
  Package rpc: every record is told apart as the document says.
-/
import Derived.Test.YtngehbaakpkoiaaPlRpcAuth
import Derived.Test.YtngehbaakpkoiaaPlRpcCredR2
set_option linter.unusedVariables false
set_option linter.unusedSimpArgs false
set_option maxRecDepth 10000
namespace Go.Rf.W.Pure
open Go Go.Rf Go.Rf.W


theorem classify_both {N : Nat} {D : List Int} (hb : Bts D) (hD : D.length < 1000000) (hN : 100 < N) :
    ∃ r, rpc_Classify N D = some r ∧ granaryref21_Classify N D = some r ∧ r.2.2.2.2.2.2.2.2.2.2.2.2.2.2.2.2.2.2.2.2.2.length ≤ 16 := by
  obtain ⟨v1, a1, w1, p1, k1, hv1, e1, f1, i1, j1⟩ := both_uint2 (N := N) (a := 0) (w := 0) (p := 0) hb (Nat.zero_le _) hD (by omega)
  obtain ⟨v2, a2, w2, p2, k2, hv2, e2, f2, i2, j2⟩ := both_uint2 (N := N) (w := w1) (p := p1) hb k1 hD (by omega)
  obtain ⟨v3, a3, w3, p3, k3, hv3, e3, f3, i3, j3⟩ := both_uint2 (N := N) (w := w2) (p := p2) hb k2 hD (by omega)
  obtain ⟨v4, a4, w4, p4, k4, hv4, e4, f4, i4, j4⟩ := both_uint2 (N := N) (w := w3) (p := p3) hb k3 hD (by omega)
  obtain ⟨v5, a5, w5, p5, k5, hv5, e5, f5, i5, j5⟩ := both_uint2 (N := N) (w := w4) (p := p4) hb k4 hD (by omega)
  obtain ⟨v6, a6, w6, p6, k6, hv6, e6, f6, i6, j6⟩ := both_uint2 (N := N) (w := w5) (p := p5) hb k5 hD (by omega)
  rw [show (((0 : Nat)) : Int) = 0 from rfl] at e1 f1
  have x2 : w2 = 0 ↔ 8 ≤ D.length := ⟨fun h => by have := i2 h; have := i1 this.1; omega, fun h => j2 (j1 rfl (by omega)) (by have := (i1 (j1 rfl (by omega))).2.1; omega)⟩
  have y2 : w2 = 0 → a2 = 8 := fun h => by have := i2 h; have := i1 this.1; omega
  have x3 : w3 = 0 ↔ 12 ≤ D.length := ⟨fun h => by have := i3 h; have := y2 this.1; omega, fun h => j3 (x2.2 (by omega)) (by have := y2 (x2.2 (by omega)); omega)⟩
  have y3 : w3 = 0 → a3 = 12 := fun h => by have := i3 h; have := y2 this.1; omega
  have x4 : w4 = 0 ↔ 16 ≤ D.length := ⟨fun h => by have := i4 h; have := y3 this.1; omega, fun h => j4 (x3.2 (by omega)) (by have := y3 (x3.2 (by omega)); omega)⟩
  have y4 : w4 = 0 → a4 = 16 := fun h => by have := i4 h; have := y3 this.1; omega
  have x5 : w5 = 0 ↔ 20 ≤ D.length := ⟨fun h => by have := i5 h; have := y4 this.1; omega, fun h => j5 (x4.2 (by omega)) (by have := y4 (x4.2 (by omega)); omega)⟩
  have y5 : w5 = 0 → a5 = 20 := fun h => by have := i5 h; have := y4 this.1; omega
  have x6 : w6 = 0 ↔ 24 ≤ D.length := ⟨fun h => by have := i6 h; have := y5 this.1; omega, fun h => j6 (x5.2 (by omega)) (by have := y5 (x5.2 (by omega)); omega)⟩
  clear i1 j1 i2 j2 i3 j3 i4 j4 i5 j5 i6 j6 y2 y3 y4 y5 x4 x5
  unfold rpc_Classify granaryref21_Classify granaryref01_NewReader xdr_NewReader granaryref21_refuses
  rw [clone1_ok hD, Option.bind_some, fits1 hD, cond_true, Option.bind_some, Option.bind_some]
  dsimp only
  rw [e1, f1, Option.bind_some, Option.bind_some]
  dsimp only
  rw [e2, f2, Option.bind_some, Option.bind_some]
  dsimp only
  rw [e3, f3, Option.bind_some]
  dsimp only
  by_cases c1 : D.length < 8
  · rw [deT (p := ((D.length : Nat) : Int) < 8) (by omega), deF (p := w2 = 0) (fun h => by have := x2.1 h; omega)]
    exact ⟨_, rfl, rfl, Nat.zero_le _⟩
  rw [deF (p := ((D.length : Nat) : Int) < 8) (by omega), deT (p := w2 = 0) (x2.2 (by omega)), cond_false, Bool.not_true, cond_false]
  by_cases c2 : (v2 : Int) = 0
  rotate_left
  · rw [deF c2]
    exact ⟨_, rfl, rfl, Nat.zero_le _⟩
  rw [deT c2, Bool.not_true, cond_false, Option.bind_some (a := false), cond_false, Option.bind_some]
  dsimp only
  by_cases c3 : D.length < 12
  · rw [deT (p := ((D.length : Nat) : Int) < 24) (by omega), deT (p := ((D.length : Nat) : Int) < 12) (by omega), deF (p := w3 = 0) (fun h => by have := x3.1 h; omega)]
    cases decide ((v3 : Int) = 2) <;> exact ⟨_, rfl, rfl, Nat.zero_le _⟩
  rw [deF (p := ((D.length : Nat) : Int) < 12) (by omega), deT (p := w3 = 0) (x3.2 (by omega)), Bool.not_true, cond_false]
  by_cases c4 : (v3 : Int) = 2
  rotate_left
  · rw [deF c4]
    cases decide (((D.length : Nat) : Int) < 24) <;> exact ⟨_, rfl, rfl, Nat.zero_le _⟩
  rw [deT c4, Bool.not_true, cond_false, cond_true, cond_false, f4, Option.bind_some]
  dsimp only
  rw [f5, Option.bind_some]
  dsimp only
  rw [f6, Option.bind_some]
  dsimp only
  by_cases c5 : D.length < 24
  · rw [deT (p := ((D.length : Nat) : Int) < 24) (by omega), deF (p := w6 = 0) (fun h => by have := x6.1 h; omega)]
    exact ⟨_, rfl, rfl, Nat.zero_le _⟩
  rw [deF (p := ((D.length : Nat) : Int) < 24) (by omega), deT (p := w6 = 0) (x6.2 (by omega)), Bool.not_true, cond_false, cond_false, Option.bind_some, cond_false, e4, Option.bind_some]
  dsimp only
  rw [e5, Option.bind_some]
  dsimp only
  rw [e6, Option.bind_some]
  dsimp only
  obtain ⟨v7, a7, w7, p7, l7, k7, hv7, b7, d7, e7, f7⟩ := both_auth (N := N) (w := w6) (p := p6) hb k6 hD (by omega)
  rw [e7, f7, Option.bind_some, Option.bind_some]
  dsimp only
  rw [show xdr_Reader_Why ((a7 : Int), w7, p7, D) = some (w7, p7, (a7 : Int), w7, p7, D) from rfl, Option.bind_some]
  dsimp only
  by_cases c6 : w7 = 0
  rotate_left
  · rw [deF c6]
    exact ⟨_, rfl, rfl, Nat.zero_le _⟩
  rw [deT c6, Bool.not_true, cond_false, cond_false]
  obtain ⟨q, g1, g2, g3⟩ := getCred_both (N := N) (f := v7) b7 (by omega) hN
  rw [g1, g2, Option.bind_some, Option.bind_some]
  by_cases c7 : q.2.2.2.2.2.1 = 0
  rotate_left
  · rw [deF c7, Bool.not_false, cond_true, cond_false, Option.bind_some]
    dsimp only
    rw [deF c7]
    exact ⟨_, rfl, rfl, Nat.zero_le _⟩
  rw [deT c7, Bool.not_true, cond_false, cond_true]
  obtain ⟨v8, a8, w8, p8, l8, k8, hv8, b8, d8, e8, f8⟩ := both_auth (N := N) (w := w7) (p := p7) hb k7 hD (by omega)
  rw [e8, f8, Option.bind_some, Option.bind_some]
  dsimp only
  rw [show xdr_Reader_Why ((a8 : Int), w8, p8, D) = some (w8, p8, (a8 : Int), w8, p8, D) from rfl, Option.bind_some]
  dsimp only
  have hcase : ∃ z : Bool, (bif !(decide (w8 = 0)) then some true else bif !(decide ((v8 : Int) = 0)) then some true else some (decide ((0 : Int) < (((List.length l8) : Nat) : Int)))) = some z := by
    cases decide (w8 = 0) <;> cases decide ((v8 : Int) = 0) <;> exact ⟨_, rfl⟩
  obtain ⟨z, hz⟩ := hcase
  rw [hz, Option.bind_some, Option.bind_some]
  cases z with
  | true =>
    exact ⟨_, rfl, rfl, Nat.zero_le _⟩
  | false =>
    rw [cond_false, cond_false, Option.bind_some, Option.bind_some]
    dsimp only
    rw [c7]
    have ht : List.take (D.length - a8) (List.drop a8 D) = D.drop a8 := List.take_of_length_le (by simp)
    have hfin : (decide ((0 : Int) ≤ (a8 : Int)) && decide ((a8 : Int) ≤ ((D.length : Nat) : Int)) && decide (((D.length : Nat) : Int) ≤ ((D.length : Nat) : Int))) = true := by
      rw [deT (by omega), deT (by omega), deT (by omega)]; rfl
    have ef : fits 1 (List.drop a8 D).length = true := fits1 (by simp; omega)
    rw [hfin, rest_ok k8 hD, Int.toNat_natCast, ht, ef, deS]
    have s1 : decide ((100003 : Int) = 100005) = false := rfl
    have s2 : decide ((100005 : Int) = 100003) = false := rfl
    have s3 : decide ((22 : Int) = 0) = false := rfl
    have s4 : decide ((4 : Int) = 0) = false := rfl
    by_cases m1 : (v4 : Int) = 100003
    · rw [m1]
      by_cases m2 : (v5 : Int) = 3
      · rw [deT m2]
        simp only [deS, s1, s3, cond_true, cond_false, Bool.not_true, Bool.not_false, Option.bind_some, decide_true]
        by_cases m3 : (22 : Int) ≤ (v6 : Int)
        · rw [deT m3]; exact ⟨_, rfl, rfl, Nat.zero_le _⟩
        · rw [deF m3]; exact ⟨_, rfl, rfl, g3⟩
      · rw [deF m2]; exact ⟨_, rfl, rfl, Nat.zero_le _⟩
    · by_cases m4 : (v4 : Int) = 100005
      · rw [m4]
        by_cases m2 : (v5 : Int) = 3
        · rw [deT m2]
          simp only [deS, s2, s4, cond_true, cond_false, Bool.not_true, Bool.not_false, Option.bind_some, decide_true]
          by_cases m3 : (4 : Int) ≤ (v6 : Int)
          · rw [deT m3]; exact ⟨_, rfl, rfl, Nat.zero_le _⟩
          · rw [deF m3]; exact ⟨_, rfl, rfl, g3⟩
        · rw [deF m2]; exact ⟨_, rfl, rfl, Nat.zero_le _⟩
      · rw [deF m1, deF m4]; exact ⟨_, rfl, rfl, Nat.zero_le _⟩

theorem same_reply1 (x1 x2 x3 x4 x5 : Int) (l : List Int) : granaryref21_SameReply_v1 (x1, x2, x3, x4, x5, l, x1, x2, x3, x4, x5, l) = some true := by
  unfold granaryref21_SameReply_v1
  dsimp only
  rw [deS, cond_true, deS, cond_true, deS, cond_true, deS, cond_true, deS, cond_true, deS]
  rfl

theorem same_call1 (x1 x2 x3 x4 x5 x6 : Int) (l7 : List Int) (x8 : Int) (l9 l10 : List Int) : granaryref21_SameCall_v1 (x1, x2, x3, x4, x5, x6, l7, x8, l9, l10, x1, x2, x3, x4, x5, x6, l7, x8, l9, l10) = some true := by
  have h : ∀ (f : Int) (b : List Int), granaryref21_SameAuth_v1 (f, b, f, b) = some true := fun f b => by
    unfold granaryref21_SameAuth_v1
    dsimp only
    rw [deS, cond_true, deS]; rfl
  unfold granaryref21_SameCall_v1
  dsimp only
  rw [deS, cond_true, deS, cond_true, deS, cond_true, deS, cond_true, deS, cond_true, h, h, deS]
  rfl

theorem same_class {N : Nat} {y1 y2 y3 y4 y5 y6 y8 y9 y10 y11 y12 y13 y15 y18 y19 y21 y22 : Int} {l7 l14 l16 l17 l23 : List Int} {t : List UInt8} (h : l23.length ≤ 16) (hN : 100 < N) :
    granaryref21_SameClass N (y1, y2, y3, y4, y5, y6, l7, y8, y9, y10, y11, y12, y13, l14, y15, l16, l17, y18, y19, t, y21, y22, l23, y1, y2, y3, y4, y5, y6, l7, y8, y9, y10, y11, y12, y13, l14, y15, l16, l17, y18, y19, t, y21, y22, l23) = some true := by
  unfold granaryref21_SameClass
  dsimp only
  rw [deS, cond_true, same_reply1, Option.bind_some, cond_true, same_call1, Option.bind_some, cond_true, same_cred (by omega) (by omega)]
  rfl

end Go.Rf.W.Pure
