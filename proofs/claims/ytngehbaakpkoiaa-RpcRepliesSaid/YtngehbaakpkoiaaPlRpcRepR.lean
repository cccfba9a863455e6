/-
  Package rpc: replies, read.
-/
import Derived.Test.YtngehbaakpkoiaaPlRpcRep
set_option linter.unusedVariables false
set_option linter.unusedSimpArgs false
set_option maxRecDepth 10000
namespace Go.Rf.W.Pure
open Go Go.Rf Go.Rf.W

/-- What a reply is written as. -/
def IsR (D : List Int) (x lo hi why : Nat) (k : Int) (data : List Int) : Prop :=
  okR k lo hi why data.length = true ∧ encR x lo hi why k data = D ∧ x < 4294967296 ∧ lo < 4294967296 ∧ hi < 4294967296 ∧ why < 4294967296

theorem numAt_words {D r : List Int} : ∀ (l : List Nat) (a : Nat), D.drop a = (l.map (be 4)).flatten ++ r → (∀ y ∈ l, y < 4294967296) → ∀ i, i < l.length → numAt D (a + 4 * i) = l.getD i 0
  | [], a, h, hb, i, hi => by simp at hi
  | w :: l, a, h, hb, i, hi => by
    rw [List.map_cons, List.flatten_cons, List.append_assoc] at h
    cases i with
    | zero => exact numAt_enc h (hb w (List.mem_cons_self ..))
    | succ i =>
      have h2 := drop_more h
      rw [show (be 4 w).length = 4 by simp] at h2
      have := numAt_words l (a + 4) h2 (fun y hy => hb y (List.mem_cons_of_mem _ hy)) i (by simpa using hi)
      rw [show a + 4 * (i + 1) = a + 4 + 4 * i by omega, this]
      rfl

theorem words_len (l : List Nat) : ((l.map (be 4)).flatten).length = 4 * l.length := by
  induction l with
  | nil => rfl
  | cons w l ih => rw [List.map_cons, List.flatten_cons, List.length_append, ih]; simp; omega

theorem shape {D data : List Int} {x lo hi why : Nat} {k : Int} (h : IsR D x lo hi why k data) :
    numAt D 0 = x ∧ numAt D 4 = 1 ∧ 20 ≤ D.length ∧
    ((k = 6 ∧ numAt D 8 = 1 ∧ numAt D 12 = 0 ∧ D.length = 24 ∧ numAt D 16 = lo ∧ numAt D 20 = hi ∧ why = 0 ∧ data = []) ∨
     (k = 7 ∧ numAt D 8 = 1 ∧ numAt D 12 = 1 ∧ D.length = 20 ∧ numAt D 16 = why ∧ lo = 0 ∧ hi = 0 ∧ data = []) ∨
     (k = 2 ∧ numAt D 8 = 0 ∧ numAt D 12 = 0 ∧ numAt D 16 = 0 ∧ numAt D 20 = 2 ∧ D.length = 32 ∧ numAt D 24 = lo ∧ numAt D 28 = hi ∧ why = 0 ∧ data = []) ∨
     (0 ≤ k ∧ k ≤ 5 ∧ k ≠ 2 ∧ numAt D 8 = 0 ∧ numAt D 12 = 0 ∧ numAt D 16 = 0 ∧ numAt D 20 = k.toNat ∧ 24 ≤ D.length ∧ lo = 0 ∧ hi = 0 ∧ why = 0 ∧ data = D.drop 24 ∧ (k = 0 ∨ data = []))) := by
  obtain ⟨ho, he, hx, hl, hh, hy⟩ := h
  have hk := ok_kind ho
  have hb := wds_bnd hx hl hh hy hk
  have hd : D.drop 0 = ((wds x lo hi why k).map (be 4)).flatten ++ data := by rw [List.drop_zero, ← he]; rfl
  have hn := numAt_words _ 0 hd hb
  have hlen : D.length = 4 * (wds x lo hi why k).length + data.length := by rw [← he]; unfold encR; rw [List.length_append, words_len]
  have hdr : D.drop (4 * (wds x lo hi why k).length) = data := by
    have := drop_more hd
    rwa [words_len, Nat.zero_add] at this
  by_cases h6 : k = 6
  · have e : wds x lo hi why k = [x, 1, 1, 0, lo, hi] := by unfold wds; rw [if_pos h6]
    rw [e] at hn hlen
    have hw : why = 0 ∧ data.length = 0 := by
      subst h6; unfold okR at ho; simp at ho
      exact ⟨ho.1, by simp [ho.2]⟩
    have hdat : data = [] := List.length_eq_zero_iff.1 hw.2
    subst hdat
    simp only [List.length_cons, List.length_nil] at hlen hn
    exact ⟨hn 0 (by decide), hn 1 (by decide), by omega, .inl ⟨h6, hn 2 (by decide), hn 3 (by decide), by omega, hn 4 (by decide), hn 5 (by decide), hw.1, rfl⟩⟩
  by_cases h7 : k = 7
  · have e : wds x lo hi why k = [x, 1, 1, 1, why] := by unfold wds; rw [if_neg h6, if_pos h7]
    rw [e] at hn hlen
    have hw : lo = 0 ∧ hi = 0 ∧ data.length = 0 := by
      subst h7; unfold okR at ho; simp at ho
      exact ⟨ho.1, ho.2.1, by simp [ho.2.2]⟩
    have hdat : data = [] := List.length_eq_zero_iff.1 hw.2.2
    subst hdat
    simp only [List.length_cons, List.length_nil] at hlen hn
    exact ⟨hn 0 (by decide), hn 1 (by decide), by omega, .inr (.inl ⟨h7, hn 2 (by decide), hn 3 (by decide), by omega, hn 4 (by decide), hw.1, hw.2.1, rfl⟩)⟩
  by_cases h2 : k = 2
  · have e : wds x lo hi why k = [x, 1, 0, 0, 0, 2, lo, hi] := by unfold wds; rw [if_neg h6, if_neg h7, if_pos h2]
    rw [e] at hn hlen
    have hw : why = 0 ∧ data.length = 0 := by
      subst h2; unfold okR at ho; simp at ho
      exact ⟨ho.1, by simp [ho.2]⟩
    have hdat : data = [] := List.length_eq_zero_iff.1 hw.2
    subst hdat
    simp only [List.length_cons, List.length_nil] at hlen hn
    exact ⟨hn 0 (by decide), hn 1 (by decide), by omega, .inr (.inr (.inl ⟨h2, hn 2 (by decide), hn 3 (by decide), hn 4 (by decide), hn 5 (by decide), by omega, hn 6 (by decide), hn 7 (by decide), hw.1, rfl⟩))⟩
  · have e : wds x lo hi why k = [x, 1, 0, 0, 0, k.toNat] := by unfold wds; rw [if_neg h6, if_neg h7, if_neg h2]
    rw [e] at hn hlen hdr
    have hw : lo = 0 ∧ hi = 0 ∧ why = 0 ∧ (k = 0 ∨ data.length = 0) := by
      rcases hk with rfl | rfl | rfl | rfl | rfl | rfl | rfl | rfl
      · unfold okR at ho; simp at ho; exact ⟨ho.1, ho.2.1, ho.2.2, .inl rfl⟩
      · unfold okR at ho; simp at ho; exact ⟨ho.1, ho.2.1, ho.2.2.1, .inr (by simp [ho.2.2.2])⟩
      · exact absurd rfl h2
      · unfold okR at ho; simp at ho; exact ⟨ho.1, ho.2.1, ho.2.2.1, .inr (by simp [ho.2.2.2])⟩
      · unfold okR at ho; simp at ho; exact ⟨ho.1, ho.2.1, ho.2.2.1, .inr (by simp [ho.2.2.2])⟩
      · unfold okR at ho; simp at ho; exact ⟨ho.1, ho.2.1, ho.2.2.1, .inr (by simp [ho.2.2.2])⟩
      · exact absurd rfl h6
      · exact absurd rfl h7
    simp only [List.length_cons, List.length_nil] at hlen hn hdr
    refine ⟨hn 0 (by decide), hn 1 (by decide), by omega, .inr (.inr (.inr ⟨by omega, by omega, h2, hn 2 (by decide), hn 3 (by decide), hn 4 (by decide), hn 5 (by decide), by omega, hw.1, hw.2.1, hw.2.2.1, hdr.symm, ?_⟩))⟩
    rcases hw.2.2.2 with h | h
    · exact .inl h
    · exact .inr (List.length_eq_zero_iff.1 h)

theorem both_uint3 {N a : Nat} {w p : Int} {D : List Int} (hb : Bts D) (ha : a ≤ D.length) (hD : D.length < 1000000) (hN : 8 < N) :
    ∃ (v a' : Nat) (w' p' : Int), a' ≤ D.length ∧ v < 4294967296 ∧ xdr_Reader_Uint N ((a : Int), w, p, D) = some ((v : Int), (a' : Int), w', p', D) ∧ granaryref01_Reader_Uint N ((a : Int), w, p, D) = some ((v : Int), (a' : Int), w', p', D) ∧
      (w = 0 → a + 4 ≤ D.length → w' = 0 ∧ a' = a + 4 ∧ v = numAt D a) := by
  by_cases hw : w = 0
  · subst hw
    rw [uint_ok hb ha hD hN, ruint_ok hb ha hD hN]
    by_cases h : D.length < a + 4
    · rw [if_pos h]; exact ⟨0, a, 3, a, ha, by decide, rfl, rfl, fun _ h2 => absurd h2 (by omega)⟩
    · rw [if_neg h]; exact ⟨numAt D a, a + 4, 0, p, by omega, numAt_lt hb a, rfl, rfl, fun _ _ => ⟨rfl, rfl, rfl⟩⟩
  · rw [uint_bad hw, ruint_bad hw]; exact ⟨0, a, w, p, ha, by decide, rfl, rfl, fun h => absurd h hw⟩

theorem rest_ok {a : Nat} {w p : Int} {D : List Int} (ha : a ≤ D.length) (hD : D.length < 1000000) : rpc_rest (D, (a : Int), w, p, D) = some ((a : Int), w, p, D, D.drop a) := by
  unfold rpc_rest xdr_Reader_Left xdr_Reader_At
  dsimp only
  rw [Option.bind_some]
  dsimp only
  rw [wrapF_i64 (by omega) (by omega)]
  by_cases h : D.length = a
  · rw [deT (by omega), cond_true, List.drop_of_length_le (by omega)]
  · have ht : List.take (D.length - a) (List.drop a D) = D.drop a := List.take_of_length_le (by simp)
    rw [deF (by omega), cond_false, Option.bind_some]
    dsimp only
    rw [deT (p := (0 : Int) ≤ (a : Int)) (by omega), deT (p := (a : Int) ≤ (D.length : Int)) (by omega), deT (p := (D.length : Int) ≤ (D.length : Int)) (by omega), Bool.and_self, Bool.and_self, cond_true, Int.toNat_natCast, ht, clone1_ok (by simp; omega), Option.bind_some]

theorem equal_loop {N : Nat} {x y : List Int} (hxy : x.length = y.length) (hx : x.length < 1000000) : ∀ (d f i : Nat), i + d = x.length → d < f →
    loopF (slices_Equal_byte_byte_b0 N) f (x, y, ((x.length : Nat) : Int), (i : Int)) = some (if x.drop i = y.drop i then .inr () else .inl ()) := by
  intro d
  induction d with
  | zero =>
    intro f i hi hf
    obtain ⟨f, rfl⟩ : ∃ g, f = g + 1 := ⟨f - 1, by omega⟩
    show slices_Equal_byte_byte_b0 N _ _ = _
    unfold slices_Equal_byte_byte_b0
    dsimp only
    rw [deF (by omega), cond_false, List.drop_of_length_le (by omega), List.drop_of_length_le (by omega), if_pos rfl]
  | succ d ih =>
    intro f i hi hf
    obtain ⟨f, rfl⟩ : ∃ g, f = g + 1 := ⟨f - 1, by omega⟩
    show slices_Equal_byte_byte_b0 N (loopF (slices_Equal_byte_byte_b0 N) f) _ = _
    have ih := ih f (i + 1) (by omega) (by omega)
    generalize loopF (slices_Equal_byte_byte_b0 N) f = nx at ih
    unfold slices_Equal_byte_byte_b0
    dsimp only
    have h1 : i < x.length := by omega
    have h2 : i < y.length := by omega
    have g1 : List.getD x i (EK.dflt (.int .u8)) = x[i] := by rw [List.getD, List.getElem?_eq_getElem h1]; rfl
    have g2 : List.getD y i (EK.dflt (.int .u8)) = y[i] := by rw [List.getD, List.getElem?_eq_getElem h2]; rfl
    rw [deT (p := (i : Int) < ((x.length : Nat) : Int)) (by omega), cond_true, deT (p := (0 : Int) ≤ (i : Int)) (by omega), deT (p := (i : Int) < ((y.length : Nat) : Int)) (by omega), Bool.and_self, cond_true, cond_true, Int.toNat_natCast, g1, g2, List.drop_eq_getElem_cons h1, List.drop_eq_getElem_cons h2]
    by_cases h : x[i] = y[i]
    · rw [deT h, Bool.not_true, cond_false, wrapF_i64 (by omega) (by omega), show (i : Int) + 1 = ((i + 1 : Nat) : Int) by omega, ih, h]
      by_cases h3 : x.drop (i + 1) = y.drop (i + 1)
      · rw [if_pos h3, if_pos (by rw [h3])]
      · rw [if_neg h3, if_neg (fun h4 => h3 (List.cons.inj h4).2)]
    · rw [deF h, Bool.not_false, cond_true, if_neg (fun h4 => h (List.cons.inj h4).1)]

theorem equal_ok {N : Nat} {x y : List Int} (hx : x.length < 1000000) (hN : x.length < N) : slices_Equal_byte_byte N (x, y) = some (decide (x = y)) := by
  unfold slices_Equal_byte_byte
  dsimp only
  by_cases h : x.length = y.length
  · rw [deT (by omega), Bool.not_true, cond_false]
    have := equal_loop (N := N) h hx x.length N 0 (by omega) hN
    rw [show (((0 : Nat)) : Int) = 0 from rfl, List.drop_zero, List.drop_zero] at this
    rw [show slices_Equal_byte_byte_l0 N = loopF (slices_Equal_byte_byte_b0 N) N from rfl, this, Option.bind_some]
    by_cases e : x = y
    · rw [if_pos e, deT e]
    · rw [if_neg e, deF e]
  · rw [deF (by omega), Bool.not_false, cond_true, deF (fun e => h (by rw [e]))]

/-- What comes of a reply that was read. -/
def finR (D : List Int) (x lo hi why : Nat) (k w : Int) (data : List Int) : Int × Int × Int × Int × Int × Int × List Int :=
  if w = 0 ∧ okR k lo hi why data.length = true ∧ encR x lo hi why k data = D then ((x : Int), k, (lo : Int), (hi : Int), (why : Int), 0, data) else (0, 0, 0, 0, 0, 212, [])

theorem enc_len (x lo hi why : Nat) (k : Int) (data : List Int) : (encR x lo hi why k data).length ≤ 32 + data.length := by
  unfold encR
  rw [List.length_append, words_len]
  unfold wds
  split
  · simp
  split
  · simp
  split
  · simp
  · simp

theorem tail_ok {N x lo hi why : Nat} {k w : Int} {a p : Int} {D data : List Int} (hx : x < 4294967296) (hl : lo < 4294967296) (hh : hi < 4294967296) (hy : why < 4294967296) (hd : data.length ≤ 20000) (hN : 25000 < N) :
    (Option.bind (rpc_PutReply_v1 N ((x : Int), k, (lo : Int), (hi : Int), (why : Int), data)) fun r30 =>
  (Option.bind (xdr_Reader_Why (a, w, p, D)) fun r31 =>
  (Option.bind
  (cond (!(decide (r31.1 = (0 : Int))))
  (some true)
  (cond (!(decide (r30.1 = (0 : Int))))
  (some true)
  (Option.bind (slices_Equal_byte_byte N (r30.2, D)) fun r34 =>
  (some (!r34)))))
  fun r36 =>
  (cond r36
  (some ((0 : Int), (0 : Int), (0 : Int), (0 : Int), (0 : Int), (212 : Int), ([] : List Int)))
  (some ((x : Int), k, (lo : Int), (hi : Int), (why : Int), (0 : Int), data)))))) = some (finR D x lo hi why k w data) := by
  have hlen := enc_len x lo hi why k data
  rw [putReply1_eq, putReply_ok hx hl hh hy (by omega) (by omega), Option.bind_some]
  rw [show xdr_Reader_Why (a, w, p, D) = some (w, p, a, w, p, D) from rfl, Option.bind_some]
  dsimp only
  unfold finR
  by_cases hw : w = 0
  · rw [deT hw, Bool.not_true, cond_false]
    cases ho : okR k lo hi why data.length with
    | false =>
      rw [if_neg (fun h => by simp at h)]
      rfl
    | true =>
      rw [cond_true]
      dsimp only
      rw [equal_ok (by omega) (by omega), Option.bind_some]
      by_cases e : encR x lo hi why k data = D
      · rw [deT e, if_pos ⟨hw, rfl, e⟩]; rfl
      · rw [deF e, if_neg (fun h => e h.2.2)]; rfl
  · rw [deF hw, if_neg (fun h => hw h.1)]; rfl

theorem byte11 {D : List Int} (hb : Bts D) (h : 12 ≤ D.length) : ((numAt D 8 % 256 : Nat) : Int) = List.getD D 11 (EK.dflt (.int .u8)) := by
  have h1 : 3 < (D.drop 8).length := by simp; omega
  have h2 := val_take h1
  have h3 : (D.drop 8).getD 3 0 = D.getD 11 0 := by simp [List.getD]
  have h4 : 0 ≤ D.getD 11 0 ∧ D.getD 11 0 < 256 := by
    rw [List.getD, List.getElem?_eq_getElem (by omega)]
    exact hb _ (List.getElem_mem _)
  show _ = D.getD 11 0
  unfold numAt
  rw [h2, h3]
  omega

theorem getReply_ok {N : Nat} {D : List Int} (hb : Bts D) (hD : D.length ≤ 20000) (hN : 25000 < N) :
    ∃ (x lo hi why : Nat) (k w : Int) (data : List Int), x < 4294967296 ∧ lo < 4294967296 ∧ hi < 4294967296 ∧ why < 4294967296 ∧ 0 ≤ k ∧ k < 4294967296 ∧ data.length ≤ D.length ∧
      rpc_GetReply N D = some (finR D x lo hi why k w data) ∧
      (∀ x' lo' hi' why' k' data', IsR D x' lo' hi' why' k' data' → w = 0 ∧ x = x' ∧ lo = lo' ∧ hi = hi' ∧ why = why' ∧ k = k' ∧ data = data') := by
  have hD' : D.length < 1000000 := by omega
  obtain ⟨v0, a0, w0, p0, k0, i0, e0, _, t0⟩ := both_uint3 (N := N) (a := 0) (w := 0) (p := 0) hb (Nat.zero_le _) hD' (by omega)
  obtain ⟨v1, a1, w1, p1, k1, i1, e1, _, t1⟩ := both_uint3 (N := N) (w := w0) (p := p0) hb k0 hD' (by omega)
  obtain ⟨v2, a2, w2, p2, k2, i2, e2, _, t2⟩ := both_uint3 (N := N) (w := w1) (p := p1) hb k1 hD' (by omega)
  rw [show (((0 : Nat)) : Int) = 0 from rfl] at e0
  unfold rpc_GetReply xdr_NewReader
  rw [clone1_ok hD', Option.bind_some, Option.bind_some, e0, Option.bind_some]
  dsimp only
  rw [e1, Option.bind_some]
  dsimp only
  rw [e2, Option.bind_some]
  dsimp only
  by_cases q : (v2 : Int) = 1
  · obtain ⟨v3, a3, w3, p3, k3, i3, e3, _, t3⟩ := both_uint3 (N := N) (w := w2) (p := p2) hb k2 hD' (by omega)
    rw [deT q, cond_true, e3, Option.bind_some, Option.bind_some]
    dsimp only
    by_cases r : (v3 : Int) = 0
    · obtain ⟨v4, a4, w4, p4, k4, i4, e4, _, t4⟩ := both_uint3 (N := N) (w := w3) (p := p3) hb k3 hD' (by omega)
      obtain ⟨v5, a5, w5, p5, k5, i5, e5, _, t5⟩ := both_uint3 (N := N) (w := w4) (p := p4) hb k4 hD' (by omega)
      rw [deT r, cond_true, e4, Option.bind_some]
      dsimp only
      rw [e5, Option.bind_some, Option.bind_some]
      dsimp only
      refine ⟨v0, v4, v5, 0, 6, w5, [], i0, i4, i5, by decide, by omega, by omega, by simp, tail_ok (why := 0) i0 i4 i5 (by decide) (by simp) hN, ?_⟩
      intro x' lo' hi' why' k' data' hI
      obtain ⟨e0, e4, e20, hs⟩ := shape hI
      obtain ⟨f0, f0', f0v⟩ := t0 rfl (by omega)
      have F0 : a0 = 4 := by omega
      subst F0
      obtain ⟨f1, f1', f1v⟩ := t1 f0 (by omega)
      have F1 : a1 = 8 := by omega
      subst F1
      obtain ⟨f2, f2', f2v⟩ := t2 f1 (by omega)
      have F2 : a2 = 12 := by omega
      subst F2
      obtain ⟨f3, f3', f3v⟩ := t3 f2 (by omega)
      have F3 : a3 = 16 := by omega
      subst F3
      rcases hs with ⟨g1, g2, g3, g4, g5, g6, g7, g8⟩ | ⟨g1, g2, g3, g4, _⟩ | ⟨g1, g2, g3, g4, _⟩ | ⟨_, _, g1, g2, g3, g4, _⟩
      · obtain ⟨f4, f4', f4v⟩ := t4 f3 (by omega)
        have F4 : a4 = 20 := by omega
        subst F4
        obtain ⟨f5, f5', f5v⟩ := t5 f4 (by omega)
        have F5 : a5 = 24 := by omega
        subst F5
        exact ⟨f5, by omega, by omega, by omega, by omega, by omega, g8.symm⟩
      · exfalso; omega
      · exfalso; omega
      · exfalso; omega
    rw [deF r, cond_false]
    have h15e : ∃ z : Bool, (bif decide ((16 : Int) ≤ ((D.length : Nat) : Int)) then (bif decide ((11 : Int) < ((D.length : Nat) : Int)) then some (decide (List.getD D 11 (EK.dflt (.int .u8)) = 1)) else none) else some false) = some z ∧ (16 ≤ D.length → (z = true ↔ List.getD D 11 (EK.dflt (.int .u8)) = 1)) := by
      by_cases c : 16 ≤ D.length
      · rw [deT (p := (16 : Int) ≤ ((D.length : Nat) : Int)) (by omega), deT (p := (11 : Int) < ((D.length : Nat) : Int)) (by omega)]
        exact ⟨_, rfl, fun _ => decide_eq_true_iff⟩
      · rw [deF (p := (16 : Int) ≤ ((D.length : Nat) : Int)) (by omega)]
        exact ⟨false, rfl, fun h => absurd h c⟩
    obtain ⟨z, hz, h15⟩ := h15e
    rw [hz, Option.bind_some]
    cases z with
    | true =>
      obtain ⟨v4, a4, w4, p4, k4, i4, e4, _, t4⟩ := both_uint3 (N := N) (w := w3) (p := p3) hb k3 hD' (by omega)
      rw [cond_true, e4, Option.bind_some, Option.bind_some, Option.bind_some]
      dsimp only
      refine ⟨v0, 0, 0, v4, 7, w4, [], i0, by decide, by decide, i4, by omega, by omega, by simp, tail_ok (lo := 0) (hi := 0) i0 (by decide) (by decide) i4 (by simp) hN, ?_⟩
      intro x' lo' hi' why' k' data' hI
      obtain ⟨e0, e4, e20, hs⟩ := shape hI
      obtain ⟨f0, f0', f0v⟩ := t0 rfl (by omega)
      have F0 : a0 = 4 := by omega
      subst F0
      obtain ⟨f1, f1', f1v⟩ := t1 f0 (by omega)
      have F1 : a1 = 8 := by omega
      subst F1
      obtain ⟨f2, f2', f2v⟩ := t2 f1 (by omega)
      have F2 : a2 = 12 := by omega
      subst F2
      obtain ⟨f3, f3', f3v⟩ := t3 f2 (by omega)
      have F3 : a3 = 16 := by omega
      subst F3
      rcases hs with ⟨g1, g2, g3, g4, g5, g6, g7, g8⟩ | ⟨g1, g2, g3, g4, g5, g6, g7, g8⟩ | ⟨g1, g2, g3, g4, _⟩ | ⟨_, _, g1, g2, g3, g4, _⟩
      · exfalso; omega
      · obtain ⟨f4, f4', f4v⟩ := t4 f3 (by omega)
        have F4 : a4 = 20 := by omega
        subst F4
        exact ⟨f4, by omega, by omega, by omega, by omega, by omega, g8.symm⟩
      · exfalso; omega
      · exfalso; omega
    | false =>
      rw [cond_false]
      have h15 : 16 ≤ D.length → ¬ List.getD D 11 (EK.dflt (.int .u8)) = 1 := fun h c => by have := (h15 h).2 c; cases this
      obtain ⟨m1, b1, y1, z1, n1, c1, s1, _, t4⟩ := both_uint3 (N := N) (w := w3) (p := p3) hb k3 hD' (by omega)
      obtain ⟨m2, b2, y2, z2, n2, c2, s2, _, t5⟩ := both_uint3 (N := N) (w := y1) (p := z1) hb n1 hD' (by omega)
      obtain ⟨m3, b3, y3, z3, n3, c3, s3, _, t6⟩ := both_uint3 (N := N) (w := y2) (p := z2) hb n2 hD' (by omega)
      rw [s1, Option.bind_some]
      dsimp only
      rw [s2, Option.bind_some]
      dsimp only
      rw [s3, Option.bind_some]
      dsimp only
      rw [wrapF_i64 (n := (m3 : Int)) (by omega) (by omega)]
      by_cases q2 : (m3 : Int) = 2
      · obtain ⟨m4, b4, y4, z4, n4, c4, s4, _, t7⟩ := both_uint3 (N := N) (w := y3) (p := z3) hb n3 hD' (by omega)
        obtain ⟨m5, b5, y5, z5, n5, c5, s5, _, t8⟩ := both_uint3 (N := N) (w := y4) (p := z4) hb n4 hD' (by omega)
        rw [deT q2, cond_true, deF (p := (m3 : Int) = 0) (by omega), s4, Option.bind_some]
        dsimp only
        rw [s5, Option.bind_some, Option.bind_some, cond_false, Option.bind_some, Option.bind_some, Option.bind_some]
        dsimp only
        refine ⟨v0, m4, m5, 0, m3, y5, [], i0, c4, c5, by decide, by omega, by omega, by simp, tail_ok (why := 0) i0 c4 c5 (by decide) (by simp) hN, ?_⟩
        intro x' lo' hi' why' k' data' hI
        exfalso
        obtain ⟨e0, e4, e20, hs⟩ := shape hI
        obtain ⟨f0, f0', f0v⟩ := t0 rfl (by omega)
        have F0 : a0 = 4 := by omega
        subst F0
        obtain ⟨f1, f1', f1v⟩ := t1 f0 (by omega)
        have F1 : a1 = 8 := by omega
        subst F1
        obtain ⟨f2, f2', f2v⟩ := t2 f1 (by omega)
        have F2 : a2 = 12 := by omega
        subst F2
        have h11 := byte11 hb (show 12 ≤ D.length by omega)
        have h15' := h15 (by omega)
        rcases hs with ⟨g1, g2, g3, g4, _⟩ | ⟨g1, g2, g3, g4, _⟩ | ⟨g1, g2, g3, g4, g5, g6, _⟩ | ⟨_, _, g1, g2, g3, g4, g5, g6, _⟩ <;> omega
      rw [deF q2, cond_false, Option.bind_some]
      by_cases q0 : (m3 : Int) = 0
      · rw [deT q0, cond_true, rest_ok n3 hD', Option.bind_some, Option.bind_some, Option.bind_some, Option.bind_some]
        dsimp only
        refine ⟨v0, 0, 0, 0, m3, y3, D.drop b3, i0, by decide, by decide, by decide, by omega, by omega, by simp, tail_ok (lo := 0) (hi := 0) (why := 0) i0 (by decide) (by decide) (by decide) (by simp; omega) hN, ?_⟩
        intro x' lo' hi' why' k' data' hI
        exfalso
        obtain ⟨e0, e4, e20, hs⟩ := shape hI
        obtain ⟨f0, f0', f0v⟩ := t0 rfl (by omega)
        have F0 : a0 = 4 := by omega
        subst F0
        obtain ⟨f1, f1', f1v⟩ := t1 f0 (by omega)
        have F1 : a1 = 8 := by omega
        subst F1
        obtain ⟨f2, f2', f2v⟩ := t2 f1 (by omega)
        have F2 : a2 = 12 := by omega
        subst F2
        have h11 := byte11 hb (show 12 ≤ D.length by omega)
        have h15' := h15 (by omega)
        rcases hs with ⟨g1, g2, g3, g4, _⟩ | ⟨g1, g2, g3, g4, _⟩ | ⟨g1, g2, g3, g4, g5, g6, _⟩ | ⟨_, _, g1, g2, g3, g4, g5, g6, _⟩ <;> omega
      · rw [deF q0, cond_false, Option.bind_some, Option.bind_some, Option.bind_some]
        dsimp only
        refine ⟨v0, 0, 0, 0, m3, y3, [], i0, by decide, by decide, by decide, by omega, by omega, by simp, tail_ok (lo := 0) (hi := 0) (why := 0) i0 (by decide) (by decide) (by decide) (by simp) hN, ?_⟩
        intro x' lo' hi' why' k' data' hI
        exfalso
        obtain ⟨e0, e4, e20, hs⟩ := shape hI
        obtain ⟨f0, f0', f0v⟩ := t0 rfl (by omega)
        have F0 : a0 = 4 := by omega
        subst F0
        obtain ⟨f1, f1', f1v⟩ := t1 f0 (by omega)
        have F1 : a1 = 8 := by omega
        subst F1
        obtain ⟨f2, f2', f2v⟩ := t2 f1 (by omega)
        have F2 : a2 = 12 := by omega
        subst F2
        have h11 := byte11 hb (show 12 ≤ D.length by omega)
        have h15' := h15 (by omega)
        rcases hs with ⟨g1, g2, g3, g4, _⟩ | ⟨g1, g2, g3, g4, _⟩ | ⟨g1, g2, g3, g4, g5, g6, _⟩ | ⟨_, _, g1, g2, g3, g4, g5, g6, _⟩ <;> omega
  rw [deF q, cond_false, Option.bind_some]
  dsimp only
  rw [cond_false]
  have h15e : ∃ z : Bool, (bif decide ((16 : Int) ≤ ((D.length : Nat) : Int)) then (bif decide ((11 : Int) < ((D.length : Nat) : Int)) then some (decide (List.getD D 11 (EK.dflt (.int .u8)) = 1)) else none) else some false) = some z ∧ (z = true → List.getD D 11 (EK.dflt (.int .u8)) = 1) := by
    by_cases c : 16 ≤ D.length
    · rw [deT (p := (16 : Int) ≤ ((D.length : Nat) : Int)) (by omega), deT (p := (11 : Int) < ((D.length : Nat) : Int)) (by omega)]
      exact ⟨_, rfl, fun h => decide_eq_true_iff.1 h⟩
    · rw [deF (p := (16 : Int) ≤ ((D.length : Nat) : Int)) (by omega)]
      exact ⟨false, rfl, fun h => by cases h⟩
  obtain ⟨z, hz, h15⟩ := h15e
  rw [hz, Option.bind_some]
  cases z with
  | true =>
    have h15 := h15 rfl
    obtain ⟨v4, a4, w4, p4, k4, i4, e4, _, t4⟩ := both_uint3 (N := N) (w := w2) (p := p2) hb k2 hD' (by omega)
    rw [cond_true, e4, Option.bind_some, Option.bind_some, Option.bind_some]
    dsimp only
    refine ⟨v0, 0, 0, v4, 7, w4, [], i0, by decide, by decide, i4, by omega, by omega, by simp, tail_ok (lo := 0) (hi := 0) i0 (by decide) (by decide) i4 (by simp) hN, ?_⟩
    intro x' lo' hi' why' k' data' hI
    exfalso
    obtain ⟨e0, e4, e20, hs⟩ := shape hI
    obtain ⟨f0, f0', f0v⟩ := t0 rfl (by omega)
    have F0 : a0 = 4 := by omega
    subst F0
    obtain ⟨f1, f1', f1v⟩ := t1 f0 (by omega)
    have F1 : a1 = 8 := by omega
    subst F1
    obtain ⟨f2, f2', f2v⟩ := t2 f1 (by omega)
    have F2 : a2 = 12 := by omega
    subst F2
    have h11 := byte11 hb (show 12 ≤ D.length by omega)
    have h15' := h15
    rcases hs with ⟨g1, g2, g3, g4, _⟩ | ⟨g1, g2, g3, g4, _⟩ | ⟨g1, g2, g3, g4, g5, g6, _⟩ | ⟨_, _, g1, g2, g3, g4, g5, g6, _⟩ <;> omega
  | false =>
    rw [cond_false]
    obtain ⟨m1, b1, y1, z1, n1, c1, s1, _, t4⟩ := both_uint3 (N := N) (w := w2) (p := p2) hb k2 hD' (by omega)
    obtain ⟨m2, b2, y2, z2, n2, c2, s2, _, t5⟩ := both_uint3 (N := N) (w := y1) (p := z1) hb n1 hD' (by omega)
    obtain ⟨m3, b3, y3, z3, n3, c3, s3, _, t6⟩ := both_uint3 (N := N) (w := y2) (p := z2) hb n2 hD' (by omega)
    rw [s1, Option.bind_some]
    dsimp only
    rw [s2, Option.bind_some]
    dsimp only
    rw [s3, Option.bind_some]
    dsimp only
    rw [wrapF_i64 (n := (m3 : Int)) (by omega) (by omega)]
    by_cases q2 : (m3 : Int) = 2
    · obtain ⟨m4, b4, y4, z4, n4, c4, s4, _, t7⟩ := both_uint3 (N := N) (w := y3) (p := z3) hb n3 hD' (by omega)
      obtain ⟨m5, b5, y5, z5, n5, c5, s5, _, t8⟩ := both_uint3 (N := N) (w := y4) (p := z4) hb n4 hD' (by omega)
      rw [deT q2, cond_true, deF (p := (m3 : Int) = 0) (by omega), s4, Option.bind_some]
      dsimp only
      rw [s5, Option.bind_some, Option.bind_some, cond_false, Option.bind_some, Option.bind_some, Option.bind_some]
      dsimp only
      refine ⟨v0, m4, m5, 0, m3, y5, [], i0, c4, c5, by decide, by omega, by omega, by simp, tail_ok (why := 0) i0 c4 c5 (by decide) (by simp) hN, ?_⟩
      intro x' lo' hi' why' k' data' hI
      obtain ⟨e0, e4, e20, hs⟩ := shape hI
      obtain ⟨f0, f0', f0v⟩ := t0 rfl (by omega)
      have F0 : a0 = 4 := by omega
      subst F0
      obtain ⟨f1, f1', f1v⟩ := t1 f0 (by omega)
      have F1 : a1 = 8 := by omega
      subst F1
      obtain ⟨f2, f2', f2v⟩ := t2 f1 (by omega)
      have F2 : a2 = 12 := by omega
      subst F2
      have h11 := byte11 hb (show 12 ≤ D.length by omega)
      have h24 : 24 ≤ D.length := by rcases hs with ⟨g1, g2, g3, g4, _⟩ | ⟨g1, g2, g3, g4, _⟩ | ⟨g1, g2, g3, g4, g5, g6, _⟩ | ⟨_, _, g1, g2, g3, g4, g5, g6, _⟩ <;> omega
      obtain ⟨f4, f4', f4v⟩ := t4 f2 (by omega)
      have F4 : b1 = 16 := by omega
      subst F4
      obtain ⟨f5, f5', f5v⟩ := t5 f4 (by omega)
      have F5 : b2 = 20 := by omega
      subst F5
      obtain ⟨f6, f6', f6v⟩ := t6 f5 (by omega)
      have F6 : b3 = 24 := by omega
      subst F6
      rcases hs with ⟨g1, g2, g3, g4, _⟩ | ⟨g1, g2, g3, g4, _⟩ | ⟨g1, g2, g3, g4, g5, g6, g7, g8, g9, g10⟩ | ⟨i1, i2, g1, g2, g3, g4, g5, g6, g7, g8, g9, g10, g11⟩
      · exfalso; omega
      · exfalso; omega
      · obtain ⟨f7, f7', f7v⟩ := t7 f6 (by omega)
        have F7 : b4 = 28 := by omega
        subst F7
        obtain ⟨f8, f8', f8v⟩ := t8 f7 (by omega)
        have F8 : b5 = 32 := by omega
        subst F8
        exact ⟨f8, by omega, by omega, by omega, by omega, by omega, g10.symm⟩
      · exfalso; omega
    rw [deF q2, cond_false, Option.bind_some]
    by_cases q0 : (m3 : Int) = 0
    · rw [deT q0, cond_true, rest_ok n3 hD', Option.bind_some, Option.bind_some, Option.bind_some, Option.bind_some]
      dsimp only
      refine ⟨v0, 0, 0, 0, m3, y3, D.drop b3, i0, by decide, by decide, by decide, by omega, by omega, by simp, tail_ok (lo := 0) (hi := 0) (why := 0) i0 (by decide) (by decide) (by decide) (by simp; omega) hN, ?_⟩
      intro x' lo' hi' why' k' data' hI
      obtain ⟨e0, e4, e20, hs⟩ := shape hI
      obtain ⟨f0, f0', f0v⟩ := t0 rfl (by omega)
      have F0 : a0 = 4 := by omega
      subst F0
      obtain ⟨f1, f1', f1v⟩ := t1 f0 (by omega)
      have F1 : a1 = 8 := by omega
      subst F1
      obtain ⟨f2, f2', f2v⟩ := t2 f1 (by omega)
      have F2 : a2 = 12 := by omega
      subst F2
      have h11 := byte11 hb (show 12 ≤ D.length by omega)
      have h24 : 24 ≤ D.length := by rcases hs with ⟨g1, g2, g3, g4, _⟩ | ⟨g1, g2, g3, g4, _⟩ | ⟨g1, g2, g3, g4, g5, g6, _⟩ | ⟨_, _, g1, g2, g3, g4, g5, g6, _⟩ <;> omega
      obtain ⟨f4, f4', f4v⟩ := t4 f2 (by omega)
      have F4 : b1 = 16 := by omega
      subst F4
      obtain ⟨f5, f5', f5v⟩ := t5 f4 (by omega)
      have F5 : b2 = 20 := by omega
      subst F5
      obtain ⟨f6, f6', f6v⟩ := t6 f5 (by omega)
      have F6 : b3 = 24 := by omega
      subst F6
      rcases hs with ⟨g1, g2, g3, g4, _⟩ | ⟨g1, g2, g3, g4, _⟩ | ⟨g1, g2, g3, g4, g5, g6, g7, g8, g9, g10⟩ | ⟨i1, i2, g1, g2, g3, g4, g5, g6, g7, g8, g9, g10, g11⟩
      · exfalso; omega
      · exfalso; omega
      · exfalso; omega
      · exact ⟨f6, by omega, by omega, by omega, by omega, by omega, g10.symm⟩
    · rw [deF q0, cond_false, Option.bind_some, Option.bind_some, Option.bind_some]
      dsimp only
      refine ⟨v0, 0, 0, 0, m3, y3, [], i0, by decide, by decide, by decide, by omega, by omega, by simp, tail_ok (lo := 0) (hi := 0) (why := 0) i0 (by decide) (by decide) (by decide) (by simp) hN, ?_⟩
      intro x' lo' hi' why' k' data' hI
      obtain ⟨e0, e4, e20, hs⟩ := shape hI
      obtain ⟨f0, f0', f0v⟩ := t0 rfl (by omega)
      have F0 : a0 = 4 := by omega
      subst F0
      obtain ⟨f1, f1', f1v⟩ := t1 f0 (by omega)
      have F1 : a1 = 8 := by omega
      subst F1
      obtain ⟨f2, f2', f2v⟩ := t2 f1 (by omega)
      have F2 : a2 = 12 := by omega
      subst F2
      have h11 := byte11 hb (show 12 ≤ D.length by omega)
      have h24 : 24 ≤ D.length := by rcases hs with ⟨g1, g2, g3, g4, _⟩ | ⟨g1, g2, g3, g4, _⟩ | ⟨g1, g2, g3, g4, g5, g6, _⟩ | ⟨_, _, g1, g2, g3, g4, g5, g6, _⟩ <;> omega
      obtain ⟨f4, f4', f4v⟩ := t4 f2 (by omega)
      have F4 : b1 = 16 := by omega
      subst F4
      obtain ⟨f5, f5', f5v⟩ := t5 f4 (by omega)
      have F5 : b2 = 20 := by omega
      subst F5
      obtain ⟨f6, f6', f6v⟩ := t6 f5 (by omega)
      have F6 : b3 = 24 := by omega
      subst F6
      rcases hs with ⟨g1, g2, g3, g4, _⟩ | ⟨g1, g2, g3, g4, _⟩ | ⟨g1, g2, g3, g4, g5, g6, g7, g8, g9, g10⟩ | ⟨i1, i2, g1, g2, g3, g4, g5, g6, g7, g8, g9, g10, g11⟩
      · exfalso; omega
      · exfalso; omega
      · exfalso; omega
      · refine ⟨f6, by omega, by omega, by omega, by omega, by omega, ?_⟩
        rcases g11 with h | h
        · exfalso; omega
        · exact h.symm

end Go.Rf.W.Pure
