/-
  Package rpc: replies, read by the document, kind after kind.
-/
import Derived.Test.YtngehbaakpkoiaaPlRpcRepR
set_option linter.unusedVariables false
set_option linter.unusedSimpArgs false
set_option maxRecDepth 10000
namespace Go.Rf.W.Pure
open Go Go.Rf Go.Rf.W

theorem rword {N f i a a' v : Nat} {w p w' p' : Int} {D l : List Int} (hi : i < 6) (hl : l.length = 6) (e : granaryref01_Reader_Uint N ((a : Int), w, p, D) = some ((v : Int), (a' : Int), w', p', D)) :
    loopF (granaryref21_GetReply_b0 N) (f + 1) (D, (i : Int), l, (a : Int), w, p, D) = loopF (granaryref21_GetReply_b0 N) f (D, ((i + 1 : Nat) : Int), l.set i (v : Int), (a' : Int), w', p', D) := by
  show granaryref21_GetReply_b0 N (loopF (granaryref21_GetReply_b0 N) f) _ = _
  generalize loopF (granaryref21_GetReply_b0 N) f = nx
  unfold granaryref21_GetReply_b0
  dsimp only
  rw [deT (p := (i : Int) < 6) (by omega), cond_true, e, Option.bind_some]
  dsimp only
  rw [deT (p := (0 : Int) ≤ (i : Int)) (by omega), Bool.and_self, cond_true, Int.toNat_natCast, deT (p := i < l.length) (by omega), cond_true, wrapF_i64 (by omega) (by omega)]
  rfl

theorem rwords_ok {N : Nat} {D : List Int} (hb : Bts D) (hD : D.length < 1000000) (hN : 100 < N) :
    ∃ (u0 u1 u2 u3 u4 u5 a : Nat) (w p : Int), u0 < 4294967296 ∧ u4 < 4294967296 ∧ u5 < 4294967296 ∧ a ≤ D.length ∧
      granaryref21_GetReply_l0 N (D, (0 : Int), (List.replicate 6 (EK.dflt (.int .u32))), (0 : Int), (0 : Int), (0 : Int), D) = some ([(u0 : Int), (u1 : Int), (u2 : Int), (u3 : Int), (u4 : Int), (u5 : Int)], (a : Int), w, p, D) ∧
      (20 ≤ D.length → u0 = numAt D 0 ∧ u4 = numAt D 16) ∧ (24 ≤ D.length → u5 = numAt D 20 ∧ a = 24 ∧ w = 0) := by
  obtain ⟨v0, a0, w0, p0, k0, i0, _, e0, t0⟩ := both_uint3 (N := N) (a := 0) (w := 0) (p := 0) hb (Nat.zero_le _) hD (by omega)
  obtain ⟨v1, a1, w1, p1, k1, i1, _, e1, t1⟩ := both_uint3 (N := N) (w := w0) (p := p0) hb k0 hD (by omega)
  obtain ⟨v2, a2, w2, p2, k2, i2, _, e2, t2⟩ := both_uint3 (N := N) (w := w1) (p := p1) hb k1 hD (by omega)
  obtain ⟨v3, a3, w3, p3, k3, i3, _, e3, t3⟩ := both_uint3 (N := N) (w := w2) (p := p2) hb k2 hD (by omega)
  obtain ⟨v4, a4, w4, p4, k4, i4, _, e4, t4⟩ := both_uint3 (N := N) (w := w3) (p := p3) hb k3 hD (by omega)
  obtain ⟨v5, a5, w5, p5, k5, i5, _, e5, t5⟩ := both_uint3 (N := N) (w := w4) (p := p4) hb k4 hD (by omega)
  refine ⟨v0, v1, v2, v3, v4, v5, a5, w5, p5, i0, i4, i5, k5, ?_, fun h => ?_, fun h => ?_⟩
  · obtain ⟨f, hf⟩ : ∃ g, N = g + 7 := ⟨N - 7, by omega⟩
    have s0 := rword (f := f + 6) (i := 0) (l := [0, 0, 0, 0, 0, 0]) (by decide) rfl e0
    have s1 := rword (f := f + 5) (i := 1) (l := [(v0 : Int), 0, 0, 0, 0, 0]) (by decide) rfl e1
    have s2 := rword (f := f + 4) (i := 2) (l := [(v0 : Int), (v1 : Int), 0, 0, 0, 0]) (by decide) rfl e2
    have s3 := rword (f := f + 3) (i := 3) (l := [(v0 : Int), (v1 : Int), (v2 : Int), 0, 0, 0]) (by decide) rfl e3
    have s4 := rword (f := f + 2) (i := 4) (l := [(v0 : Int), (v1 : Int), (v2 : Int), (v3 : Int), 0, 0]) (by decide) rfl e4
    have s5 := rword (f := f + 1) (i := 5) (l := [(v0 : Int), (v1 : Int), (v2 : Int), (v3 : Int), (v4 : Int), 0]) (by decide) rfl e5
    have s : loopF (granaryref21_GetReply_b0 N) (f + 7) (D, ((0 : Nat) : Int), [0, 0, 0, 0, 0, 0], ((0 : Nat) : Int), 0, 0, D) = loopF (granaryref21_GetReply_b0 N) (f + 1) (D, ((6 : Nat) : Int), [(v0 : Int), (v1 : Int), (v2 : Int), (v3 : Int), (v4 : Int), (v5 : Int)], (a5 : Int), w5, p5, D) :=
      s0.trans (s1.trans (s2.trans (s3.trans (s4.trans s5))))
    show loopF (granaryref21_GetReply_b0 N) N (D, ((0 : Nat) : Int), [0, 0, 0, 0, 0, 0], ((0 : Nat) : Int), 0, 0, D) = _
    have s' : loopF (granaryref21_GetReply_b0 N) N (D, ((0 : Nat) : Int), [0, 0, 0, 0, 0, 0], ((0 : Nat) : Int), 0, 0, D) = loopF (granaryref21_GetReply_b0 N) (f + 1) (D, ((6 : Nat) : Int), [(v0 : Int), (v1 : Int), (v2 : Int), (v3 : Int), (v4 : Int), (v5 : Int)], (a5 : Int), w5, p5, D) := by
      rw [← s]; exact congrArg (fun g => loopF (granaryref21_GetReply_b0 N) g (D, ((0 : Nat) : Int), [0, 0, 0, 0, 0, 0], ((0 : Nat) : Int), 0, 0, D)) hf
    rw [s']
    rfl
  · obtain ⟨f0, f0', f0v⟩ := t0 rfl (by omega)
    have F0 : a0 = 4 := by omega
    subst F0
    obtain ⟨f1, f1', f1v⟩ := t1 f0 (by omega)
    have F1 : a1 = 8 := by omega
    subst F1
    obtain ⟨f2, f2', f2v⟩ := t2 f1 (by omega)
    have F2 : a2 = 12 := by omega
    subst F2
    obtain ⟨f3, f3', f3v⟩ := t3 f2 (by omega)
    have F3 : a3 = 16 := by omega
    subst F3
    obtain ⟨f4, f4', f4v⟩ := t4 f3 (by omega)
    exact ⟨f0v, f4v⟩
  · obtain ⟨f0, f0', f0v⟩ := t0 rfl (by omega)
    have F0 : a0 = 4 := by omega
    subst F0
    obtain ⟨f1, f1', f1v⟩ := t1 f0 (by omega)
    have F1 : a1 = 8 := by omega
    subst F1
    obtain ⟨f2, f2', f2v⟩ := t2 f1 (by omega)
    have F2 : a2 = 12 := by omega
    subst F2
    obtain ⟨f3, f3', f3v⟩ := t3 f2 (by omega)
    have F3 : a3 = 16 := by omega
    subst F3
    obtain ⟨f4, f4', f4v⟩ := t4 f3 (by omega)
    have F4 : a4 = 20 := by omega
    subst F4
    obtain ⟨f5, f5', f5v⟩ := t5 f4 (by omega)
    exact ⟨f5v, by omega, f5⟩

theorem enc_bts {x lo hi why : Nat} {k : Int} {data : List Int} (h : Bts data) : Bts (encR x lo hi why k data) := by
  unfold encR
  intro y hy
  rcases List.mem_append.1 hy with hy | hy
  · obtain ⟨l, hl, hy⟩ := List.mem_flatten.1 hy
    obtain ⟨n, _, rfl⟩ := List.mem_map.1 hl
    exact be_bytes 4 n y hy
  · exact h y hy

theorem toS_inj {l m : List Int} (hl : Bts l) (hm : Bts m) (h : toS l = toS m) : l = m := by
  rw [← ofS_toS hl, ← ofS_toS hm, h]

theorem post_ok {R : Type} {x lo hi why : Nat} {k : Int} {D data : List Int} {y n : Option R} (hb : Bts D) (hdb : Bts data) (hd : data.length < 500000) :
    (Option.bind (granaryref21_PutReply_v1 ((x : Int), k, (lo : Int), (hi : Int), (why : Int), data)) fun r24 =>
  (Option.bind
  (cond (decide (r24.1 = (0 : Int)))
  (some (decide ((List.map (fun (n : Int) => UInt8.ofNat n.toNat) r24.2) = (List.map (fun (n : Int) => UInt8.ofNat n.toNat) D))))
  (some false))
  fun r29 => (cond r29 y n))) = if okR k lo hi why data.length = true ∧ encR x lo hi why k data = D then y else n := by
  rw [show @granaryref21_PutReply_v1 = granaryref21_PutReply from rfl, rputReply_ok hd, Option.bind_some]
  cases ho : okR k lo hi why data.length with
  | false => rw [if_neg (fun h => by simp at h)]; rfl
  | true =>
    rw [cond_true]
    dsimp only
    rw [deS, cond_true, Option.bind_some]
    by_cases e : encR x lo hi why k data = D
    · rw [if_pos ⟨rfl, e⟩, e, deS]; rfl
    · rw [if_neg (fun h => e h.2), deF (p := List.map (fun (n : Int) => UInt8.ofNat n.toNat) (encR x lo hi why k data) = List.map (fun (n : Int) => UInt8.ofNat n.toNat) D) (fun h => e (toS_inj (enc_bts hdb) hb h))]; rfl

theorem round_ok {N i a u0 u1 u2 u3 u4 u5 : Nat} {w p : Int} {D : List Int} (hb : Bts D) (hD : D.length ≤ 20000) (hN : 100 < N) (hi : i ≤ 7) (ha : a ≤ D.length) (hu0 : u0 < 4294967296) (hu4 : u4 < 4294967296) (hu5 : u5 < 4294967296)
    (c20 : 20 ≤ D.length → u0 = numAt D 0 ∧ u4 = numAt D 16) (c24 : 24 ≤ D.length → u5 = numAt D 20) (cst : i ≤ 2 → 24 ≤ D.length → a = 24 ∧ w = 0) :
    ∃ (lo hi why : Nat) (data : List Int) (a' : Nat) (w' p' : Int), lo < 4294967296 ∧ hi < 4294967296 ∧ why < 4294967296 ∧ a' ≤ D.length ∧ (i + 1 ≤ 2 → 24 ≤ D.length → a' = 24 ∧ w' = 0) ∧
      (∀ nx, granaryref21_GetReply_b2 N nx (D, (i : Int), [(u0 : Int), (u1 : Int), (u2 : Int), (u3 : Int), (u4 : Int), (u5 : Int)], (a : Int), w, p, D) =
        if okR (i : Int) lo hi why data.length = true ∧ encR u0 lo hi why (i : Int) data = D then some (.inl ((u0 : Int), (i : Int), (lo : Int), (hi : Int), (why : Int), [(u0 : Int), (u1 : Int), (u2 : Int), (u3 : Int), (u4 : Int), (u5 : Int)], (a' : Int), w', p', D, data))
        else nx (D, ((i + 1 : Nat) : Int), [(u0 : Int), (u1 : Int), (u2 : Int), (u3 : Int), (u4 : Int), (u5 : Int)], (a' : Int), w', p', D)) ∧
      (∀ x' lo' hi' why' data', IsR D x' lo' hi' why' (i : Int) data' → u0 = x' ∧ lo = lo' ∧ hi = hi' ∧ why = why' ∧ data = data') := by
  have hD' : D.length < 1000000 := by omega
  by_cases q0 : (i : Int) = 0
  · refine ⟨0, 0, 0, D.drop 24, a, w, p, by decide, by decide, by decide, ha, fun _ h => cst (by omega) h, fun nx => ?_, fun x' lo' hi' why' data' hI => ?_⟩
    · unfold granaryref21_GetReply_b2
      dsimp only
      have ed : (Option.bind
  (cond (decide ((24 : Int) ≤ (((List.length D) : Nat) : Int)))
  (cond ((decide ((24 : Int) ≤ (((List.length D) : Nat) : Int))) && (decide ((((List.length D) : Nat) : Int) ≤ (((List.length D) : Nat) : Int))))
  (cond (fits 1 (List.length (List.take ((List.length D) - 24) (List.drop 24 D))))
  ((some (List.take ((List.length D) - 24) (List.drop 24 D))))
  none)
  none)
  (some ([] : List Int)))
  fun r8 =>
  (some ((a : Int), w, p, D, (0 : Int), (0 : Int), (0 : Int), r8))) = some ((a : Int), w, p, D, (0 : Int), (0 : Int), (0 : Int), D.drop 24) := by
        by_cases h : 24 ≤ D.length
        · have ht : List.take (D.length - 24) (List.drop 24 D) = D.drop 24 := List.take_of_length_le (by simp)
          rw [deT (p := (24 : Int) ≤ ((D.length : Nat) : Int)) (by omega), deT (p := ((D.length : Nat) : Int) ≤ ((D.length : Nat) : Int)) (by omega), ht, fits1 (by simp; omega)]
          rfl
        · rw [deF (p := (24 : Int) ≤ ((D.length : Nat) : Int)) (by omega), List.drop_of_length_le (by omega)]
          rfl
      rw [deT (p := (i : Int) ≤ 7) (by omega), cond_true, show decide (0 < [(u0 : Int), (u1 : Int), (u2 : Int), (u3 : Int), (u4 : Int), (u5 : Int)].length) = true from rfl, cond_true, deT q0, cond_true, ed, Option.bind_some, wrapF_i64 (by omega) (by omega)]
      exact post_ok (lo := 0) (hi := 0) (why := 0) hb (bts_drop hb _) (by simp; omega)
    · obtain ⟨e0, e4, e20, hs⟩ := shape hI
      have := c20 e20
      rcases hs with ⟨g1, _⟩ | ⟨g1, _⟩ | ⟨g1, _⟩ | ⟨i1, i2, g1, g2, g3, g4, g5, g6, g7, g8, g9, g10, g11⟩
      · exfalso; omega
      · exfalso; omega
      · exfalso; omega
      · exact ⟨by omega, by omega, by omega, by omega, g10.symm⟩
  by_cases q2 : (i : Int) = 2
  · have hi2 : i = 2 := by omega
    by_cases h32 : ((D.length : Nat) : Int) = 32
    · obtain ⟨v4, a4, w4, p4, k4, i4, _, e4, t4⟩ := both_uint3 (N := N) (w := w) (p := p) hb ha hD' (by omega)
      obtain ⟨v5, a5, w5, p5, k5, i5, _, e5, t5⟩ := both_uint3 (N := N) (w := w4) (p := p4) hb k4 hD' (by omega)
      refine ⟨v4, v5, 0, [], a5, w5, p5, i4, i5, by decide, k5, fun h => by omega, fun nx => ?_, fun x' lo' hi' why' data' hI => ?_⟩
      · unfold granaryref21_GetReply_b2
        dsimp only
        rw [deT (p := (i : Int) ≤ 7) (by omega), cond_true, show decide (0 < [(u0 : Int), (u1 : Int), (u2 : Int), (u3 : Int), (u4 : Int), (u5 : Int)].length) = true from rfl, cond_true, deF q0, cond_false, deT q2, cond_true, deT h32, cond_true, e4, Option.bind_some]
        dsimp only
        rw [e5, Option.bind_some, Option.bind_some, Option.bind_some, Option.bind_some, wrapF_i64 (by omega) (by omega)]
        exact post_ok (why := 0) hb (fun x hx => by cases hx) (by simp)
      · obtain ⟨e0, e4, e20, hs⟩ := shape hI
        have := c20 e20
        obtain ⟨b1, b2⟩ := cst (by omega) (by omega)
        subst b1
        obtain ⟨f4, f4', f4v⟩ := t4 b2 (by omega)
        have F4 : a4 = 28 := by omega
        subst F4
        obtain ⟨f5, f5', f5v⟩ := t5 f4 (by omega)
        rcases hs with ⟨g1, _⟩ | ⟨g1, _⟩ | ⟨g1, g2, g3, g4, g5, g6, g7, g8, g9, g10⟩ | ⟨i1, i2, g1, _⟩
        · exfalso; omega
        · exfalso; omega
        · exact ⟨by omega, by omega, by omega, by omega, g10.symm⟩
        · exfalso; omega
    · refine ⟨0, 0, 0, [], a, w, p, by decide, by decide, by decide, ha, fun h => by omega, fun nx => ?_, fun x' lo' hi' why' data' hI => ?_⟩
      · unfold granaryref21_GetReply_b2
        dsimp only
        rw [deT (p := (i : Int) ≤ 7) (by omega), cond_true, show decide (0 < [(u0 : Int), (u1 : Int), (u2 : Int), (u3 : Int), (u4 : Int), (u5 : Int)].length) = true from rfl, cond_true, deF q0, cond_false, deT q2, cond_true, deF h32, cond_false, Option.bind_some, Option.bind_some, Option.bind_some, wrapF_i64 (by omega) (by omega)]
        exact post_ok (lo := 0) (hi := 0) (why := 0) hb (fun x hx => by cases hx) (by simp)
      · obtain ⟨e0, e4, e20, hs⟩ := shape hI
        exfalso
        rcases hs with ⟨g1, _⟩ | ⟨g1, _⟩ | ⟨g1, g2, g3, g4, g5, g6, g7, g8, g9, g10⟩ | ⟨i1, i2, g1, _⟩ <;> omega
  by_cases q6 : (i : Int) = 6
  · refine ⟨u4, u5, 0, [], a, w, p, hu4, hu5, by decide, ha, fun h => by omega, fun nx => ?_, fun x' lo' hi' why' data' hI => ?_⟩
    · unfold granaryref21_GetReply_b2
      dsimp only
      rw [deT (p := (i : Int) ≤ 7) (by omega), cond_true, show decide (0 < [(u0 : Int), (u1 : Int), (u2 : Int), (u3 : Int), (u4 : Int), (u5 : Int)].length) = true from rfl, cond_true, deF q0, cond_false, deF q2, cond_false, deT q6, cond_true,
        show decide (4 < [(u0 : Int), (u1 : Int), (u2 : Int), (u3 : Int), (u4 : Int), (u5 : Int)].length) = true from rfl, show decide (5 < [(u0 : Int), (u1 : Int), (u2 : Int), (u3 : Int), (u4 : Int), (u5 : Int)].length) = true from rfl, cond_true, cond_true, Option.bind_some, Option.bind_some, Option.bind_some, wrapF_i64 (by omega) (by omega)]
      exact post_ok (why := 0) hb (fun x hx => by cases hx) (by simp)
    · obtain ⟨e0, e4, e20, hs⟩ := shape hI
      have := c20 e20
      rcases hs with ⟨g1, g2, g3, g4, g5, g6, g7, g8⟩ | ⟨g1, _⟩ | ⟨g1, _⟩ | ⟨i1, i2, g1, _⟩
      · have := c24 (by omega)
        exact ⟨by omega, by omega, by omega, by omega, g8.symm⟩
      · exfalso; omega
      · exfalso; omega
      · exfalso; omega
  by_cases q7 : (i : Int) = 7
  · refine ⟨0, 0, u4, [], a, w, p, by decide, by decide, hu4, ha, fun h => by omega, fun nx => ?_, fun x' lo' hi' why' data' hI => ?_⟩
    · unfold granaryref21_GetReply_b2
      dsimp only
      rw [deT (p := (i : Int) ≤ 7) (by omega), cond_true, show decide (0 < [(u0 : Int), (u1 : Int), (u2 : Int), (u3 : Int), (u4 : Int), (u5 : Int)].length) = true from rfl, cond_true, deF q0, cond_false, deF q2, cond_false, deF q6, cond_false, deT q7, cond_true,
        show decide (4 < [(u0 : Int), (u1 : Int), (u2 : Int), (u3 : Int), (u4 : Int), (u5 : Int)].length) = true from rfl, cond_true, Option.bind_some, Option.bind_some, Option.bind_some, Option.bind_some, wrapF_i64 (by omega) (by omega)]
      exact post_ok (lo := 0) (hi := 0) hb (fun x hx => by cases hx) (by simp)
    · obtain ⟨e0, e4, e20, hs⟩ := shape hI
      have := c20 e20
      rcases hs with ⟨g1, _⟩ | ⟨g1, g2, g3, g4, g5, g6, g7, g8⟩ | ⟨g1, _⟩ | ⟨i1, i2, g1, _⟩
      · exfalso; omega
      · exact ⟨by omega, by omega, by omega, by omega, g8.symm⟩
      · exfalso; omega
      · exfalso; omega
  · refine ⟨0, 0, 0, [], a, w, p, by decide, by decide, by decide, ha, fun h h2 => cst (by omega) h2, fun nx => ?_, fun x' lo' hi' why' data' hI => ?_⟩
    · unfold granaryref21_GetReply_b2
      dsimp only
      rw [deT (p := (i : Int) ≤ 7) (by omega), cond_true, show decide (0 < [(u0 : Int), (u1 : Int), (u2 : Int), (u3 : Int), (u4 : Int), (u5 : Int)].length) = true from rfl, cond_true, deF q0, cond_false, deF q2, cond_false, deF q6, cond_false, deF q7, cond_false, Option.bind_some, Option.bind_some, Option.bind_some, Option.bind_some, wrapF_i64 (by omega) (by omega)]
      exact post_ok (lo := 0) (hi := 0) (why := 0) hb (fun x hx => by cases hx) (by simp)
    · obtain ⟨e0, e4, e20, hs⟩ := shape hI
      have := c20 e20
      rcases hs with ⟨g1, _⟩ | ⟨g1, _⟩ | ⟨g1, _⟩ | ⟨i1, i2, g1, g2, g3, g4, g5, g6, g7, g8, g9, g10, g11⟩
      · exfalso; omega
      · exfalso; omega
      · exfalso; omega
      · refine ⟨by omega, by omega, by omega, by omega, ?_⟩
        rcases g11 with h | h
        · exfalso; omega
        · exact h.symm

theorem rounds_ok {N u0 u1 u2 u3 u4 u5 : Nat} {D : List Int} (hb : Bts D) (hD : D.length ≤ 20000) (hN : 100 < N) (hu0 : u0 < 4294967296) (hu4 : u4 < 4294967296) (hu5 : u5 < 4294967296)
    (c20 : 20 ≤ D.length → u0 = numAt D 0 ∧ u4 = numAt D 16) (c24 : 24 ≤ D.length → u5 = numAt D 20) : ∀ (d f i a : Nat) (w p : Int), i + d = 8 → d < f → a ≤ D.length → (i ≤ 2 → 24 ≤ D.length → a = 24 ∧ w = 0) →
    (∃ (lo hi why j : Nat) (data : List Int) (z : List Int × Int × Int × Int × List Int), IsR D u0 lo hi why (j : Int) data ∧
      loopF (granaryref21_GetReply_b2 N) f (D, (i : Int), [(u0 : Int), (u1 : Int), (u2 : Int), (u3 : Int), (u4 : Int), (u5 : Int)], (a : Int), w, p, D) = some (.inl ((u0 : Int), (j : Int), (lo : Int), (hi : Int), (why : Int), z.1, z.2.1, z.2.2.1, z.2.2.2.1, z.2.2.2.2, data))) ∨
    ((∀ x' lo' hi' why' (k' : Int) data', IsR D x' lo' hi' why' k' data' → k' < (i : Int)) ∧ ∃ z, loopF (granaryref21_GetReply_b2 N) f (D, (i : Int), [(u0 : Int), (u1 : Int), (u2 : Int), (u3 : Int), (u4 : Int), (u5 : Int)], (a : Int), w, p, D) = some (.inr z)) := by
  intro d
  induction d with
  | zero =>
    intro f i a w p h1 hf ha cst
    obtain ⟨f, rfl⟩ : ∃ g, f = g + 1 := ⟨f - 1, by omega⟩
    refine .inr ⟨fun x' lo' hi' why' k' data' hI => ?_, ?_⟩
    · have := ok_kind hI.1
      omega
    · show ∃ z, granaryref21_GetReply_b2 N _ _ = _
      unfold granaryref21_GetReply_b2
      dsimp only
      rw [deF (p := (i : Int) ≤ 7) (by omega)]
      exact ⟨_, rfl⟩
  | succ d ih =>
    intro f i a w p h1 hf ha cst
    obtain ⟨f, rfl⟩ : ∃ g, f = g + 1 := ⟨f - 1, by omega⟩
    obtain ⟨lo, hi, why, data, a', w', p', b1, b2, b3, ha', cst', hstep, huni⟩ := round_ok (N := N) (i := i) (u1 := u1) (u2 := u2) (u3 := u3) (w := w) (p := p) hb hD hN (by omega) ha hu0 hu4 hu5 c20 c24 cst
    have hs := hstep (loopF (granaryref21_GetReply_b2 N) f)
    have hs' : loopF (granaryref21_GetReply_b2 N) (f + 1) (D, (i : Int), [(u0 : Int), (u1 : Int), (u2 : Int), (u3 : Int), (u4 : Int), (u5 : Int)], (a : Int), w, p, D) = _ := hs
    rw [hs']
    by_cases c : okR (i : Int) lo hi why data.length = true ∧ encR u0 lo hi why (i : Int) data = D
    · rw [if_pos c]
      exact .inl ⟨lo, hi, why, i, data, (_, _, _, _, _), ⟨c.1, c.2, hu0, b1, b2, b3⟩, rfl⟩
    · rw [if_neg c]
      rcases ih f (i + 1) a' w' p' (by omega) (by omega) ha' cst' with h | ⟨h, z, hz⟩
      · exact .inl h
      · refine .inr ⟨fun x' lo' hi' why' k' data' hI => ?_, z, hz⟩
        have h2 := h _ _ _ _ _ _ hI
        by_cases e : k' = (i : Int)
        · subst e
          obtain ⟨r1, r2, r3, r4, r5⟩ := huni _ _ _ _ _ hI
          subst r1 r2 r3 r4 r5
          exact absurd ⟨hI.1, hI.2.1⟩ c
        · omega

theorem getReply_both {N : Nat} {D : List Int} (hb : Bts D) (hD : D.length ≤ 20000) (hN : 25000 < N) : ∃ r, rpc_GetReply N D = some r ∧ granaryref21_GetReply N D = some r := by
  obtain ⟨x, lo, hi, why, k, w, data, h1, h2, h3, h4, h5, h6, h7, e, huni⟩ := getReply_ok hb hD hN
  obtain ⟨u0, u1, u2, u3, u4, u5, a, w', p, hu0, hu4, hu5, ha, g1, c20, c24⟩ := rwords_ok (N := N) hb (by omega) (by omega)
  have hr := rounds_ok (N := N) (u1 := u1) (u2 := u2) (u3 := u3) hb hD (by omega) hu0 hu4 hu5 c20 (fun h => (c24 h).1) 8 N 0 a w' p (by omega) (by omega) ha (fun _ h => (c24 h).2)
  refine ⟨_, e, ?_⟩
  unfold granaryref21_GetReply granaryref01_NewReader
  rw [fits1 (by omega), cond_true, Option.bind_some, g1, Option.bind_some]
  dsimp only
  rw [show granaryref21_GetReply_l2 N = loopF (granaryref21_GetReply_b2 N) N from rfl]
  rw [show (((0 : Nat)) : Int) = 0 from rfl] at hr
  rcases hr with ⟨lo', hi', why', j, data', z, hI, hz⟩ | ⟨h, z, hz⟩
  · rw [hz, Option.bind_some]
    obtain ⟨r0, r1, r2, r3, r4, r5, r6⟩ := huni _ _ _ _ _ _ hI
    subst r1 r2 r3 r4 r5 r6
    unfold finR
    rw [if_pos ⟨r0, hI.1, hI.2.1⟩]
  · rw [hz, Option.bind_some]
    unfold finR
    rw [if_neg]
    intro c
    have hI : IsR D x lo hi why k data := ⟨c.2.1, c.2.2, h1, h2, h3, h4⟩
    have := h _ _ _ _ _ _ hI
    omega

theorem same_reply (x1 x2 x3 x4 x5 : Int) (l : List Int) : granaryref21_SameReply (x1, x2, x3, x4, x5, l, x1, x2, x3, x4, x5, l) = some true := by
  unfold granaryref21_SameReply
  dsimp only
  rw [deS, cond_true, deS, cond_true, deS, cond_true, deS, cond_true, deS, cond_true, deS]
  rfl

end Go.Rf.W.Pure
