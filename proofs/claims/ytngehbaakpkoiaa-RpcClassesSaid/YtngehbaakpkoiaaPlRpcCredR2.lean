/-
  Package rpc: reading credentials, both ways (the forms that Classify reaches).
-/
import Derived.Test.YtngehbaakpkoiaaPlRpcRef
set_option linter.unusedVariables false
set_option maxRecDepth 10000
namespace Go.Rf.W.Pure
open Go Go.Rf Go.Rf.W

/-! Reading -/

theorem fits4 {n : Nat} (h : n < 1000000) : fits 4 n = true := by simp [fits]; omega

theorem rgids_loop {N : Nat} {k1 k3 k4 : Int} {k2 : List UInt8} {D : List Int} (hb : Bts D) (hD : D.length < 1000000) (hN : 8 < N) (n : Nat) (hn : n < 4294967296) : ∀ (d i f a : Nat) (w p : Int) (acc : List Int), 17 ≤ i + d → i ≤ 17 → a ≤ D.length → acc.length = i → d < f →
    ∃ (a' : Nat) (w' p' : Int) (acc' : List Int), a' ≤ D.length ∧ loopF (granaryref21_GetCred_v1_b0 N) f ((n : Int), (i : Int), (a : Int), w, p, D, k1, k2, k3, k4, acc) = some ((a' : Int), w', p', D, k1, k2, k3, k4, acc') := by
  intro d
  induction d with
  | zero =>
    intro i f a w p acc h1 h2 ha hl hf
    obtain ⟨f, rfl⟩ : ∃ g, f = g + 1 := ⟨f - 1, by omega⟩
    refine ⟨a, w, p, acc, ha, ?_⟩
    show granaryref21_GetCred_v1_b0 N _ _ = _
    unfold granaryref21_GetCred_v1_b0
    dsimp only
    have : i = 17 := by omega
    subst this
    rw [deF (p := ((17 : Nat) : Int) ≤ 16) (by omega), cond_false]
    cases decide (((17 : Nat) : Int) < (n : Int)) <;> rfl
  | succ d ih =>
    intro i f a w p acc h1 h2 ha hl hf
    obtain ⟨f, rfl⟩ : ∃ g, f = g + 1 := ⟨f - 1, by omega⟩
    show ∃ (a' : Nat) (w' p' : Int) (acc' : List Int), a' ≤ D.length ∧ granaryref21_GetCred_v1_b0 N (loopF (granaryref21_GetCred_v1_b0 N) f) _ = _
    by_cases hg : i < n ∧ i ≤ 16 ∧ w = 0
    · obtain ⟨g1, g2, g3⟩ := hg
      subst g3
      obtain ⟨v, a1, w1, p1, h3, hv, e1, e2⟩ := both_uint (w := 0) (p := p) hb ha hD hN
      obtain ⟨a', w', p', acc', h4, h5⟩ := ih (i + 1) f a1 w1 p1 (acc ++ [(v : Int)]) (by omega) (by omega) h3 (by simp; omega) (by omega)
      refine ⟨a', w', p', acc', h4, ?_⟩
      rw [← h5]
      generalize loopF (granaryref21_GetCred_v1_b0 N) f = nx
      unfold granaryref21_GetCred_v1_b0
      dsimp only
      rw [deT (p := (i : Int) < (n : Int)) (by omega), cond_true, deT (p := (i : Int) ≤ 16) (by omega), cond_true, deS, Option.bind_some, cond_true, e2, Option.bind_some]
      dsimp only
      rw [show decide (1 ≤ [(v : Int)].length) = true from rfl, show List.take 1 (List.drop 0 [(v : Int)]) = [(v : Int)] from rfl, fits4 (by simp; omega), Bool.and_self, cond_true, wrapF_u32 (by omega) (by omega)]
      rfl
    · refine ⟨a, w, p, acc, ha, ?_⟩
      unfold granaryref21_GetCred_v1_b0
      dsimp only
      by_cases c1 : i < n
      · rw [deT (p := (i : Int) < (n : Int)) (by omega), cond_true]
        by_cases c2 : i ≤ 16
        · rw [deT (p := (i : Int) ≤ 16) (by omega), cond_true, deF (p := w = 0) (fun h => hg ⟨c1, c2, h⟩)]; rfl
        · rw [deF (p := (i : Int) ≤ 16) (by omega)]; rfl
      · rw [deF (p := (i : Int) < (n : Int)) (by omega)]; rfl

theorem bgids_loop {N : Nat} {k1 k3 k4 : Int} {k2 : List UInt8} {D : List Int} (hb : Bts D) (hD : D.length < 1000000) (hN : 8 < N) (n : Nat) (hn : n ≤ 16) : ∀ (d i f a : Nat) (w p : Int) (acc : List Int), i + d = n → a ≤ D.length → acc.length = i → d < f →
    ∃ (a' : Nat) (w' p' : Int) (acc' : List Int), a' ≤ D.length ∧ loopF (granaryref21_GetCred_v1_b0 N) f ((n : Int), (i : Int), (a : Int), w, p, D, k1, k2, k3, k4, acc) = some ((a' : Int), w', p', D, k1, k2, k3, k4, acc') ∧
      loopF (xdr_List_uint32_b0 N) f ((n : Int), (i : Int), (a : Int), w, p, D, acc) = some ((a' : Int), w', p', D, acc') ∧ acc'.length ≤ n := by
  intro d
  induction d with
  | zero =>
    intro i f a w p acc h1 ha hl hf
    obtain ⟨f, rfl⟩ : ∃ g, f = g + 1 := ⟨f - 1, by omega⟩
    refine ⟨a, w, p, acc, ha, ?_, ?_, by omega⟩
    · show granaryref21_GetCred_v1_b0 N _ _ = _
      unfold granaryref21_GetCred_v1_b0
      dsimp only
      rw [deF (p := (i : Int) < (n : Int)) (by omega)]; rfl
    · show xdr_List_uint32_b0 N _ _ = _
      unfold xdr_List_uint32_b0
      dsimp only
      rw [deF (p := (i : Int) < (n : Int)) (by omega), cond_false]
  | succ d ih =>
    intro i f a w p acc h1 ha hl hf
    obtain ⟨f, rfl⟩ : ∃ g, f = g + 1 := ⟨f - 1, by omega⟩
    show ∃ (a' : Nat) (w' p' : Int) (acc' : List Int), a' ≤ D.length ∧ granaryref21_GetCred_v1_b0 N (loopF (granaryref21_GetCred_v1_b0 N) f) _ = _ ∧ xdr_List_uint32_b0 N (loopF (xdr_List_uint32_b0 N) f) _ = _ ∧ acc'.length ≤ n
    by_cases g3 : w = 0
    · subst g3
      obtain ⟨v, a1, w1, p1, h3, hv, e1, e2⟩ := both_uint (w := 0) (p := p) hb ha hD hN
      obtain ⟨a', w', p', acc', h4, h5, h6, h7⟩ := ih (i + 1) f a1 w1 p1 (acc ++ [(v : Int)]) (by omega) h3 (by simp; omega) (by omega)
      refine ⟨a', w', p', acc', h4, ?_, ?_, h7⟩
      · rw [← h5]
        generalize loopF (granaryref21_GetCred_v1_b0 N) f = nx
        unfold granaryref21_GetCred_v1_b0
        dsimp only
        rw [deT (p := (i : Int) < (n : Int)) (by omega), cond_true, deT (p := (i : Int) ≤ 16) (by omega), cond_true, deS, Option.bind_some, cond_true, e2, Option.bind_some]
        dsimp only
        rw [show decide (1 ≤ [(v : Int)].length) = true from rfl, show List.take 1 (List.drop 0 [(v : Int)]) = [(v : Int)] from rfl, fits4 (by simp; omega), Bool.and_self, cond_true, wrapF_u32 (by omega) (by omega)]
        rfl
      · rw [← h6]
        generalize loopF (xdr_List_uint32_b0 N) f = nx
        unfold xdr_List_uint32_b0 xdr_Reader_bad rpc_getGid
        dsimp only
        rw [deT (p := (i : Int) < (n : Int)) (by omega), cond_true, Option.bind_some]
        dsimp only
        rw [deS, Bool.not_true, cond_false, e1, Option.bind_some, Option.bind_some]
        dsimp only
        rw [show decide (1 ≤ [(v : Int)].length) = true from rfl, show List.take 1 (List.drop 0 [(v : Int)]) = [(v : Int)] from rfl, fits4 (by simp; omega), Bool.and_self, cond_true, wrapF_i64 (by omega) (by omega)]
        rfl
    · refine ⟨a, w, p, acc, ha, ?_, ?_, by omega⟩
      · unfold granaryref21_GetCred_v1_b0
        dsimp only
        rw [deT (p := (i : Int) < (n : Int)) (by omega), cond_true, deT (p := (i : Int) ≤ 16) (by omega), cond_true, deF g3]; rfl
      · unfold xdr_List_uint32_b0 xdr_Reader_bad
        dsimp only
        rw [deT (p := (i : Int) < (n : Int)) (by omega), cond_true, Option.bind_some]
        dsimp only
        rw [deF g3]; rfl

theorem length_bad {N a : Nat} {M w p : Int} {D : List Int} (hw : w ≠ 0) : xdr_Reader_length N (M, (a : Int), w, p, D) = some (0, (a : Int), w, p, D) := by
  unfold xdr_Reader_length
  dsimp only
  rw [show xdr_Reader_At ((a : Int), w, p, D) = some ((a : Int), (a : Int), w, p, D) from rfl, Option.bind_some]
  dsimp only
  rw [uint_bad hw, Option.bind_some]
  dsimp only
  rw [show xdr_Reader_bad ((a : Int), w, p, D) = some (!(decide (w = 0)), (a : Int), w, p, D) from rfl, deF hw, Option.bind_some]
  rfl

theorem rdone_eq (a : Nat) (w p : Int) {D : List Int} (ha : a ≤ D.length) (hD : D.length < 1000000) : granaryref01_Reader_Done ((a : Int), w, p, D) = xdr_Reader_Done ((a : Int), w, p, D) := by
  unfold granaryref01_Reader_Done xdr_Reader_Done granaryref01_Reader_Left
  dsimp only
  by_cases h : w = 0
  · rw [deT h, cond_true, cond_true, Option.bind_some, Option.bind_some]
    dsimp only
    rw [wrapF_i64 (by omega) (by omega)]
    by_cases h2 : a < D.length
    · rw [deT (by omega), deT (by omega), Option.bind_some]
    · rw [deF (by omega), deF (by omega), Option.bind_some]
  · rw [deF h]; rfl

theorem done_bad {a : Nat} {w p : Int} {D : List Int} (hw : w ≠ 0) : ∃ q, xdr_Reader_Done ((a : Int), w, p, D) = some q ∧ q.1 ≠ 0 := by
  unfold xdr_Reader_Done
  dsimp only
  rw [deF hw]
  exact ⟨_, rfl, hw⟩

/-- Both read a list of numbers, to the same end. -/
theorem both_gids {N a : Nat} {w p k1 k3 k4 : Int} {k2 : List UInt8} {D : List Int} (hb : Bts D) (ha : a ≤ D.length) (hD : D.length < 1000000) (hN : 100 < N) :
    ∃ (n a0 : Nat) (w0 p0 : Int) (z1 : Int × Int × Int × List Int × List Int) (z2 : Int × Int × Int × List Int × Int × List UInt8 × Int × Int × List Int),
      granaryref01_Reader_Uint N ((a : Int), w, p, D) = some ((n : Int), (a0 : Int), w0, p0, D) ∧
      granaryref21_GetCred_v1_l0 N ((n : Int), 0, (a0 : Int), w0, p0, D, k1, k2, k3, k4, []) = some z2 ∧
      xdr_List_uint32 N (16, (a : Int), w, p, D) = some z1 ∧
      ((∃ (e f : Int) (q1 q2 : Int × Int × Int × List Int), xdr_Reader_Done (z1.1, z1.2.1, z1.2.2.1, z1.2.2.2.1) = some (e, q1) ∧ e ≠ 0 ∧ granaryref01_Reader_Done (z2.1, z2.2.1, z2.2.2.1, z2.2.2.2.1) = some (f, q2) ∧ (f ≠ 0 ∨ 16 < n)) ∨
       (n ≤ 16 ∧ ∃ (acc : List Int) (q1 q2 : Int × Int × Int × List Int), xdr_Reader_Done (z1.1, z1.2.1, z1.2.2.1, z1.2.2.2.1) = some (0, q1) ∧ granaryref01_Reader_Done (z2.1, z2.2.1, z2.2.2.1, z2.2.2.2.1) = some (0, q2) ∧ z1.2.2.2.2 = acc ∧ z2.2.2.2.2 = (k1, k2, k3, k4, acc) ∧ acc.length ≤ 16)) := by
  have lz : ∀ (a0 : Nat) (w0 p0 : Int), w0 ≠ 0 → granaryref21_GetCred_v1_l0 N (0, 0, (a0 : Int), w0, p0, D, k1, k2, k3, k4, []) = some ((a0 : Int), w0, p0, D, k1, k2, k3, k4, []) := fun a0 w0 p0 h => by
    obtain ⟨N, rfl⟩ : ∃ g, N = g + 1 := ⟨N - 1, by omega⟩
    rfl
  have xz : ∀ (a0 : Nat) (w0 p0 : Int), xdr_List_uint32_l0 N (0, 0, (a0 : Int), w0, p0, D, []) = some ((a0 : Int), w0, p0, D, []) := fun a0 w0 p0 => by
    obtain ⟨N, rfl⟩ : ∃ g, N = g + 1 := ⟨N - 1, by omega⟩
    rfl
  have lbad : ∀ (a0 : Nat) (w0 p0 : Int), w0 ≠ 0 → a0 ≤ D.length → xdr_Reader_length N (16, (a : Int), w, p, D) = some (0, (a0 : Int), w0, p0, D) → xdr_List_uint32 N (16, (a : Int), w, p, D) = some ((a0 : Int), w0, p0, D, []) := fun a0 w0 p0 h1 h2 h3 => by
    unfold xdr_List_uint32
    dsimp only
    rw [h3, Option.bind_some]
    dsimp only
    rw [xz, Option.bind_some]
    dsimp only
    rw [show xdr_Reader_bad ((a0 : Int), w0, p0, D) = some (!(decide (w0 = 0)), (a0 : Int), w0, p0, D) from rfl, Option.bind_some, deF h1]
    rfl
  have fin : ∀ (a0 : Nat) (w0 p0 : Int), w0 ≠ 0 → a0 ≤ D.length → ∃ (e : Int) (q1 : Int × Int × Int × List Int), xdr_Reader_Done ((a0 : Int), w0, p0, D) = some (e, q1) ∧ e ≠ 0 ∧ granaryref01_Reader_Done ((a0 : Int), w0, p0, D) = some (e, q1) := fun a0 w0 p0 h h2 => by
    obtain ⟨q, e1, e2⟩ := done_bad (a := a0) (p := p0) (D := D) h
    exact ⟨q.1, q.2, e1, e2, by rw [rdone_eq a0 w0 p0 h2 hD, e1]⟩
  by_cases hw : w = 0
  · subst hw
    by_cases h : D.length < a + 4
    · have hx := lbad a 3 a (by decide) ha (by rw [length_ok hb ha hD (by omega), if_pos h])
      obtain ⟨e, q1, f1, f2, f3⟩ := fin a 3 a (by decide) ha
      refine ⟨0, a, 3, a, _, _, ?_, lz a 3 a (by decide), hx, .inl ⟨e, e, q1, q1, f1, f2, f3, .inl f2⟩⟩
      rw [ruint_ok hb ha hD (by omega), if_pos h]; rfl
    have hr : granaryref01_Reader_Uint N ((a : Int), 0, p, D) = some (((numAt D a : Nat) : Int), ((a + 4 : Nat) : Int), 0, p, D) := by rw [ruint_ok hb ha hD (by omega), if_neg h]
    by_cases h2 : 16 < numAt D a
    · have hx := lbad a 1 a (by decide) ha (by rw [length_ok hb ha hD (by omega), if_neg h, if_pos (by omega)])
      obtain ⟨e, q1, f1, f2, _⟩ := fin a 1 a (by decide) ha
      obtain ⟨a', w', p', acc', g1, g2⟩ := rgids_loop (k1 := k1) (k2 := k2) (k3 := k3) (k4 := k4) hb hD (by omega : 8 < N) (numAt D a) (numAt_lt hb a) 17 0 N (a + 4) 0 p [] (by omega) (by omega) (by omega) rfl (by omega)
      obtain ⟨q2, g3⟩ : ∃ q2, granaryref01_Reader_Done ((a' : Int), w', p', D) = some q2 := by
        rw [rdone_eq a' w' p' g1 hD]
        unfold xdr_Reader_Done
        dsimp only
        by_cases c : w' = 0
        · rw [deT c, cond_true, Option.bind_some]; cases decide ((a' : Int) < (D.length : Int)) <;> exact ⟨_, rfl⟩
        · rw [deF c]; exact ⟨_, rfl⟩
      exact ⟨numAt D a, a + 4, 0, p, _, _, hr, g2, hx, .inl ⟨e, q2.1, q1, q2.2, f1, f2, g3, .inr h2⟩⟩
    · obtain ⟨a', w', p', acc', g1, g2, g3, g5⟩ := bgids_loop (k1 := k1) (k2 := k2) (k3 := k3) (k4 := k4) hb hD (by omega : 8 < N) (numAt D a) (by omega) (numAt D a) 0 N (a + 4) 0 p [] (by omega) (by omega) rfl (by omega)
      have hx : xdr_List_uint32 N (16, (a : Int), 0, p, D) = some ((a' : Int), w', p', D, if w' = 0 then acc' else []) := by
        unfold xdr_List_uint32
        dsimp only
        rw [length_ok hb ha hD (by omega), if_neg h, if_neg (by omega), Option.bind_some]
        dsimp only
        have g3' : xdr_List_uint32_l0 N (((numAt D a : Nat) : Int), 0, ((a + 4 : Nat) : Int), 0, p, D, []) = some ((a' : Int), w', p', D, acc') := g3
        rw [g3', Option.bind_some]
        dsimp only
        rw [show xdr_Reader_bad ((a' : Int), w', p', D) = some (!(decide (w' = 0)), (a' : Int), w', p', D) from rfl, Option.bind_some]
        by_cases c : w' = 0
        · rw [deT c, if_pos c]; rfl
        · rw [deF c, if_neg c]; rfl
      by_cases c : w' = 0
      · subst c
        by_cases c2 : a' < D.length
        · refine ⟨numAt D a, a + 4, 0, p, _, _, hr, g2, hx, .inl ⟨4, 4, ((a' : Int), 0, p', D), ((a' : Int), 0, p', D), ?_, by decide, ?_, .inl (by decide)⟩⟩
          · unfold xdr_Reader_Done
            dsimp only
            rw [deS, cond_true, Option.bind_some, deT (by omega)]; rfl
          · dsimp only
            rw [rdone_eq a' 0 p' g1 hD]
            unfold xdr_Reader_Done
            dsimp only
            rw [deS, cond_true, Option.bind_some, deT (by omega)]; rfl
        · refine ⟨numAt D a, a + 4, 0, p, _, _, hr, g2, hx, .inr ⟨by omega, acc', ((a' : Int), 0, p', D), ((a' : Int), 0, p', D), ?_, ?_, ?_, rfl, by omega⟩⟩
          · unfold xdr_Reader_Done
            dsimp only
            rw [deS, cond_true, Option.bind_some, deF (by omega)]; rfl
          · dsimp only
            rw [rdone_eq a' 0 p' g1 hD]
            unfold xdr_Reader_Done
            dsimp only
            rw [deS, cond_true, Option.bind_some, deF (by omega)]; rfl
          · rfl
      · obtain ⟨e, q1, f1, f2, f3⟩ := fin a' w' p' c g1
        exact ⟨numAt D a, a + 4, 0, p, _, _, hr, g2, hx, .inl ⟨e, e, q1, q1, f1, f2, f3, .inl f2⟩⟩
  · have hx := lbad a w p hw ha (length_bad hw)
    obtain ⟨e, q1, f1, f2, f3⟩ := fin a w p hw ha
    refine ⟨0, a, w, p, _, _, ?_, lz a w p hw, hx, .inl ⟨e, e, q1, q1, f1, f2, f3, .inl f2⟩⟩
    rw [ruint_bad hw]; rfl

theorem getCred_both {N f : Nat} {D : List Int} (hb : Bts D) (hD : D.length < 1000000) (hN : 100 < N) : ∃ r, rpc_GetCred N ((f : Int), D) = some r ∧ granaryref21_GetCred_v1 N ((f : Int), D) = some r ∧ r.2.2.2.2.2.2.length ≤ 16 := by
  unfold rpc_GetCred granaryref21_GetCred_v1 granaryref01_NewReader xdr_NewReader
  dsimp only
  by_cases h0 : (f : Int) = 0
  · rw [deT h0, cond_true, cond_true]
    cases decide ((0 : Int) < (D.length : Int)) <;> exact ⟨_, rfl, rfl, by decide⟩
  rw [deF h0, cond_false, cond_false]
  by_cases h1 : (f : Int) = 1
  · obtain ⟨v1, a1, w1, p1, k1, hv1, e1, f1⟩ := both_uint (N := N) (a := 0) (w := 0) (p := 0) hb (Nat.zero_le _) hD (by omega)
    obtain ⟨a2, w2, p2, l2, k2, b2, c2, e2, f2⟩ := both_opaque (N := N) (M := 64) (w := w1) (p := p1) hb k1 hD (by omega) (by decide) (by decide)
    obtain ⟨v3, a3, w3, p3, k3, hv3, e3, f3⟩ := both_uint (N := N) (w := w2) (p := p2) hb k2 hD (by omega)
    obtain ⟨v4, a4, w4, p4, k4, hv4, e4, f4⟩ := both_uint (N := N) (w := w3) (p := p3) hb k3 hD (by omega)
    obtain ⟨n, a0, w0, p0, z1, z2, g1, g2, g3, g4⟩ := both_gids (N := N) (w := w4) (p := p4) (k1 := (v1 : Int)) (k2 := List.map (fun (n : Int) => UInt8.ofNat n.toNat) l2) (k3 := (v3 : Int)) (k4 := (v4 : Int)) hb k4 hD hN
    rw [show (((0 : Nat)) : Int) = 0 from rfl] at e1 f1
    rw [deT h1, cond_true, Bool.not_true, cond_false, clone1_ok hD, Option.bind_some, fits1 hD, cond_true, Option.bind_some, Option.bind_some, e1, f1, Option.bind_some, Option.bind_some]
    unfold xdr_Reader_Text
    dsimp only
    rw [e2, f2, Option.bind_some, Option.bind_some, Option.bind_some]
    dsimp only
    rw [e3, f3, Option.bind_some, Option.bind_some]
    dsimp only
    rw [e4, f4, Option.bind_some, Option.bind_some]
    dsimp only
    rw [g1, g3, Option.bind_some, Option.bind_some]
    dsimp only
    rw [g2, Option.bind_some]
    rcases g4 with ⟨e, f, q1, q2, r1, r2, r3, r4⟩ | ⟨hn, acc, q1, q2, r1, r2, r3, r4, r5⟩
    · rw [r1, r3, Option.bind_some, Option.bind_some]
      dsimp only
      rw [deF r2, Bool.not_false, cond_true]
      by_cases c : f = 0
      · rw [deT c, Bool.not_true, cond_false, Option.bind_some, deT (p := (16 : Int) < (n : Int)) (by rcases r4 with r4 | r4; exact absurd c r4; omega), cond_true]
        exact ⟨_, rfl, rfl, by decide⟩
      · rw [deF c, Bool.not_false, cond_true, Option.bind_some]
        exact ⟨_, rfl, rfl, by decide⟩
    · rw [r1, r2, Option.bind_some, Option.bind_some]
      dsimp only
      rw [deS, Bool.not_true, cond_false, cond_false, Option.bind_some, deF (p := (16 : Int) < (n : Int)) (by omega), cond_false, r3, r4]
      exact ⟨_, rfl, rfl, r5⟩
  · rw [deF h1]
    exact ⟨_, rfl, rfl, by decide⟩

theorem same_cred {N : Nat} {x1 x2 x4 x5 : Int} {x3 : List UInt8} {l : List Int} (hl : l.length < 30000) (hN : l.length < N) : granaryref21_SameCred_v1 N (x1, x2, x3, x4, x5, l, x1, x2, x3, x4, x5, l) = some true := by
  have key : granaryref21_SameCred_v1_l0 N (0, x1, x2, x3, x4, x5, l, x1, x2, x3, x4, x5, l) = some (.inr (x1, x2, x3, x4, x5, l, x1, x2, x3, x4, x5, l)) := by
    refine r_iter (b := granaryref21_SameCred_v1_b0 N) (r := .inr (x1, x2, x3, x4, x5, l, x1, x2, x3, x4, x5, l)) (fun i => ((i : Int), x1, x2, x3, x4, x5, l, x1, x2, x3, x4, x5, l)) l.length (fun i hi nx => ?_) (fun nx => ?_) N hN
    · unfold granaryref21_SameCred_v1_b0
      dsimp only
      rw [deT (p := (i : Int) < (l.length : Int)) (by omega), cond_true, deT (p := (0 : Int) ≤ (i : Int)) (by omega), Bool.and_self, cond_true, cond_true, deS, Bool.not_true, cond_false, wrapF_i64 (by omega) (by omega)]
      rfl
    · unfold granaryref21_SameCred_v1_b0
      dsimp only
      rw [deF (by omega), cond_false]
  unfold granaryref21_SameCred_v1
  dsimp only
  rw [deS, Bool.not_true, cond_false, deS, Bool.not_true, cond_false, deS, Bool.not_true, cond_false, deS, Bool.not_true, cond_false, deS, Bool.not_true, cond_false, deS, Bool.not_true, Option.bind_some, cond_false, key, Option.bind_some]

end Go.Rf.W.Pure
