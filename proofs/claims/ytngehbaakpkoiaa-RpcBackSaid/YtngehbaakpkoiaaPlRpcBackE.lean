/-
  Package rpc: what is told apart can be put again.
-/
import Derived.Test.YtngehbaakpkoiaaPlRpcBackD
set_option linter.unusedVariables false
set_option linter.unusedSimpArgs false
set_option maxRecDepth 10000
namespace Go.Rf.W.Pure
open Go Go.Rf Go.Rf.W

theorem uint_any {N a : Nat} {w p : Int} {D : List Int} (hb : Bts D) (ha : a ≤ D.length) (hD : D.length < 1000000) (hN : 8 < N) :
    ∃ (v a' : Nat) (w' p' : Int), a' ≤ D.length ∧ v < 4294967296 ∧ xdr_Reader_Uint N ((a : Int), w, p, D) = some ((v : Int), (a' : Int), w', p', D) ∧ (w' = 0 → w = 0 ∧ a' = a + 4 ∧ D.drop a = be 4 v ++ D.drop (a + 4)) := by
  by_cases hw : w = 0
  · subst hw
    rw [uint_ok hb ha hD hN]
    by_cases h : D.length < a + 4
    · rw [if_pos h]; exact ⟨0, a, 3, a, ha, by decide, rfl, fun h => absurd h (by decide)⟩
    · rw [if_neg h]; exact ⟨numAt D a, a + 4, 0, p, by omega, numAt_lt hb a, rfl, fun _ => ⟨rfl, rfl, num_good hb h⟩⟩
  · rw [uint_bad hw]; exact ⟨0, a, w, p, ha, by decide, rfl, fun h => absurd h hw⟩

theorem opaque_any {N a : Nat} {M w p : Int} {D : List Int} (hb : Bts D) (ha : a ≤ D.length) (hD : D.length < 1000000) (hN : 8 < N) :
    ∃ (a' : Nat) (w' p' : Int) (l : List Int), a' ≤ D.length ∧ Bts l ∧ l.length ≤ D.length ∧ xdr_Reader_Opaque N (M, (a : Int), w, p, D) = some ((a' : Int), w', p', D, l) ∧ (w' = 0 → w = 0 ∧ (l.length : Int) ≤ M ∧ D.drop a = encB l ++ D.drop a') := by
  by_cases hw : w = 0
  · subst hw
    rw [opaque_ok hb ha hD hN]
    by_cases h : opq M D a = 0
    · rw [if_pos h]
      obtain ⟨h1, h2, h3, h4⟩ := opq_good hb h
      exact ⟨_, 0, p, _, h1, bts_take (bts_drop hb _) _, by simp; omega, rfl, fun _ => ⟨rfl, by rw [h3]; exact h2, h4⟩⟩
    · rw [if_neg h]; exact ⟨a, _, _, [], ha, (fun x hx => by cases hx), by simp, rfl, fun h2 => absurd h2 h⟩
  · rw [opaque_bad (at_ := 0) hw]; exact ⟨a, w, p, [], ha, (fun x hx => by cases hx), by simp, rfl, fun h => absurd h hw⟩

theorem auth_any {N a : Nat} {w p : Int} {D : List Int} (hb : Bts D) (ha : a ≤ D.length) (hD : D.length < 1000000) (hN : 8 < N) :
    ∃ (v a' : Nat) (w' p' : Int) (l : List Int), a' ≤ D.length ∧ v < 4294967296 ∧ Bts l ∧ l.length ≤ D.length ∧ rpc_getAuth N ((a : Int), w, p, D) = some ((v : Int), (a' : Int), w', p', D, l) ∧ (w' = 0 → w = 0 ∧ l.length ≤ 400 ∧ D.drop a = be 4 v ++ (encB l ++ D.drop a')) := by
  obtain ⟨v, a1, w1, p1, h1, hv, e1, g1⟩ := uint_any (w := w) (p := p) hb ha hD hN
  obtain ⟨a2, w2, p2, l, h2, hl, hll, e3, g2⟩ := opaque_any (M := 400) (w := w1) (p := p1) hb h1 hD hN
  refine ⟨v, a2, w2, p2, l, h2, hv, hl, hll, ?_, fun h => ?_⟩
  · unfold rpc_getAuth
    dsimp only
    rw [e1, Option.bind_some]
    dsimp only
    rw [e3, Option.bind_some]
  · obtain ⟨q1, q2, q3⟩ := g2 h
    obtain ⟨r1, r2, r3⟩ := g1 q1
    subst r2
    exact ⟨r1, by omega, by rw [r3, q3]⟩

theorem gids_any {N : Nat} {D : List Int} (hb : Bts D) (hD : D.length < 1000000) (hN : 8 < N) (n : Nat) (hn : n ≤ 16) : ∀ (d i f a : Nat) (w p : Int) (acc : List Int), i + d = n → a ≤ D.length → acc.length = i → d < f →
    ∃ (a' : Nat) (w' p' : Int) (acc' : List Int), a' ≤ D.length ∧ loopF (xdr_List_uint32_b0 N) f ((n : Int), (i : Int), (a : Int), w, p, D, acc) = some ((a' : Int), w', p', D, acc') := by
  intro d
  induction d with
  | zero =>
    intro i f a w p acc h1 ha hl hf
    obtain ⟨f, rfl⟩ : ∃ g, f = g + 1 := ⟨f - 1, by omega⟩
    refine ⟨a, w, p, acc, ha, ?_⟩
    show xdr_List_uint32_b0 N _ _ = _
    unfold xdr_List_uint32_b0
    dsimp only
    rw [deF (p := (i : Int) < (n : Int)) (by omega), cond_false]
  | succ d ih =>
    intro i f a w p acc h1 ha hl hf
    obtain ⟨f, rfl⟩ : ∃ g, f = g + 1 := ⟨f - 1, by omega⟩
    show ∃ (a' : Nat) (w' p' : Int) (acc' : List Int), a' ≤ D.length ∧ xdr_List_uint32_b0 N (loopF (xdr_List_uint32_b0 N) f) _ = _
    by_cases g3 : w = 0
    · subst g3
      obtain ⟨v, a1, w1, p1, h3, hv, e1, _⟩ := uint_any (w := 0) (p := p) hb ha hD hN
      obtain ⟨a', w', p', acc', h4, h6⟩ := ih (i + 1) f a1 w1 p1 (acc ++ [(v : Int)]) (by omega) h3 (by simp; omega) (by omega)
      refine ⟨a', w', p', acc', h4, ?_⟩
      rw [← h6]
      generalize loopF (xdr_List_uint32_b0 N) f = nx
      unfold xdr_List_uint32_b0 xdr_Reader_bad rpc_getGid
      dsimp only
      rw [deT (p := (i : Int) < (n : Int)) (by omega), cond_true, Option.bind_some]
      dsimp only
      rw [deS, Bool.not_true, cond_false, e1, Option.bind_some, Option.bind_some]
      dsimp only
      rw [show decide (1 ≤ [(v : Int)].length) = true from rfl, show List.take 1 (List.drop 0 [(v : Int)]) = [(v : Int)] from rfl, fits4 (by simp; omega), Bool.and_self, cond_true, wrapF_i64 (by omega) (by omega)]
      rfl
    · refine ⟨a, w, p, acc, ha, ?_⟩
      unfold xdr_List_uint32_b0 xdr_Reader_bad
      dsimp only
      rw [deT (p := (i : Int) < (n : Int)) (by omega), cond_true, Option.bind_some]
      dsimp only
      rw [deF g3]; rfl

theorem length_any {N a : Nat} {w p : Int} {D : List Int} (hb : Bts D) (ha : a ≤ D.length) (hD : D.length < 1000000) (hN : 8 < N) :
    ∃ (n a' : Nat) (w' p' : Int), n ≤ 16 ∧ a' ≤ D.length ∧ xdr_Reader_length N (16, (a : Int), w, p, D) = some ((n : Int), (a' : Int), w', p', D) := by
  by_cases hw : w = 0
  · subst hw
    rw [length_ok hb ha hD hN]
    by_cases h : D.length < a + 4
    · rw [if_pos h]; exact ⟨0, a, 3, a, by decide, ha, rfl⟩
    · rw [if_neg h]
      by_cases h2 : (16 : Int) < (numAt D a : Int)
      · rw [if_pos h2]; exact ⟨0, a, 1, a, by decide, ha, rfl⟩
      · rw [if_neg h2]; exact ⟨numAt D a, a + 4, 0, p, by omega, by omega, rfl⟩
  · refine ⟨0, a, w, p, by decide, ha, ?_⟩
    unfold xdr_Reader_length
    dsimp only
    rw [show xdr_Reader_At ((a : Int), w, p, D) = some ((a : Int), (a : Int), w, p, D) from rfl, Option.bind_some]
    dsimp only
    rw [uint_bad hw, Option.bind_some]
    dsimp only
    rw [show xdr_Reader_bad ((a : Int), w, p, D) = some (!(decide (w = 0)), (a : Int), w, p, D) from rfl, deF hw, Option.bind_some]
    rfl

theorem list_any {N a : Nat} {w p : Int} {D : List Int} (hb : Bts D) (ha : a ≤ D.length) (hD : D.length < 1000000) (hN : 100 < N) :
    ∃ (a' : Nat) (w' p' : Int) (l : List Int), xdr_List_uint32 N (16, (a : Int), w, p, D) = some ((a' : Int), w', p', D, l) := by
  obtain ⟨n, a1, w1, p1, hn, h1, e1⟩ := length_any (w := w) (p := p) hb ha hD (by omega : 8 < N)
  obtain ⟨a2, w2, p2, acc, h2, e2⟩ := gids_any hb hD (by omega : 8 < N) n hn n 0 N a1 w1 p1 [] (by omega) h1 rfl (by omega)
  have e2 : xdr_List_uint32_l0 N ((n : Int), 0, (a1 : Int), w1, p1, D, []) = _ := e2
  unfold xdr_List_uint32
  dsimp only
  rw [e1, Option.bind_some]
  dsimp only
  rw [e2, Option.bind_some]
  dsimp only
  rw [show xdr_Reader_bad ((a2 : Int), w2, p2, D) = some (!(decide (w2 = 0)), (a2 : Int), w2, p2, D) from rfl, Option.bind_some]
  dsimp only
  cases (!(decide (w2 = 0))) <;> exact ⟨a2, w2, p2, _, rfl⟩

theorem cred_any {N f : Nat} {D : List Int} (hb : Bts D) (hD : D.length < 1000000) (hN : 100 < N) : ∃ q e, rpc_GetCred N ((f : Int), D) = some q ∧ q.2.2.2.2.2.1 = ((e : Nat) : Int) ∧ e ≤ 2 := by
  unfold rpc_GetCred xdr_NewReader
  dsimp only
  by_cases h0 : (f : Int) = 0
  · rw [deT h0, cond_true]
    cases decide ((0 : Int) < (D.length : Int))
    · exact ⟨_, 0, rfl, rfl, by decide⟩
    · exact ⟨_, 1, rfl, rfl, by decide⟩
  rw [deF h0, cond_false]
  by_cases h1 : (f : Int) = 1
  · obtain ⟨v1, a1, w1, p1, k1, hv1, e1, _⟩ := uint_any (N := N) (a := 0) (w := 0) (p := 0) hb (Nat.zero_le _) hD (by omega)
    obtain ⟨a2, w2, p2, l2, k2, b2, c2, e2, _⟩ := opaque_any (N := N) (M := 64) (w := w1) (p := p1) hb k1 hD (by omega)
    obtain ⟨v3, a3, w3, p3, k3, hv3, e3, _⟩ := uint_any (N := N) (w := w2) (p := p2) hb k2 hD (by omega)
    obtain ⟨v4, a4, w4, p4, k4, hv4, e4, _⟩ := uint_any (N := N) (w := w3) (p := p3) hb k3 hD (by omega)
    obtain ⟨a5, w5, p5, l5, e5⟩ := list_any (N := N) (w := w4) (p := p4) hb k4 hD hN
    have e1 : xdr_Reader_Uint N (0, 0, 0, D) = _ := e1
    rw [deT h1, cond_true, clone1_ok hD, Option.bind_some, Option.bind_some, e1, Option.bind_some]
    unfold xdr_Reader_Text
    dsimp only
    rw [e2, Option.bind_some, Option.bind_some]
    dsimp only
    rw [e3, Option.bind_some]
    dsimp only
    rw [e4, Option.bind_some]
    dsimp only
    rw [e5, Option.bind_some]
    dsimp only
    have hd : ∃ z, xdr_Reader_Done ((a5 : Int), w5, p5, D) = some z := by
      unfold xdr_Reader_Done
      dsimp only
      cases decide (w5 = 0) <;> cases decide ((a5 : Int) < ((D.length : Nat) : Int)) <;> exact ⟨_, rfl⟩
    obtain ⟨z, hz⟩ := hd
    rw [hz, Option.bind_some]
    cases (!(decide (z.1 = 0)))
    · exact ⟨_, 0, rfl, rfl, by decide⟩
    · exact ⟨_, 1, rfl, rfl, by decide⟩
  · rw [deF h1]
    exact ⟨_, 2, rfl, rfl, by decide⟩

end Go.Rf.W.Pure
