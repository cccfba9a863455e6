/-
  Package xdr: lists and chains of strings, read.
-/
import Derived.Test.YtabkbpilajgcnaaPlXdrWr
set_option linter.unusedVariables false
set_option maxRecDepth 10000
namespace Go.Rf.W.Pure
open Go Go.Rf Go.Rf.W

theorem fits16 {n : Nat} (h : n < 1000000) : fits 16 n = true := by simp [fits]; omega

theorem rbad_ok (a w p : Int) (D : List Int) : xdr_Reader_bad (a, w, p, D) = some (!(decide (w = 0)), a, w, p, D) := rfl

theorem gettext_ok {N a : Nat} {p : Int} {D : List Int} (hb : Bts D) (ha : a ≤ D.length) (hD : D.length < 1000000) (hN : 8 < N) :
    (∃ w : Int, w ≠ 0 ∧ granarylaw01_getText N ((a : Int), 0, p, D) = some ([], (a : Int), w, (a : Int), D)) ∨
    (∃ t : List UInt8, t.length ≤ 7 ∧ a + (encT t).length ≤ D.length ∧ D.drop a = encT t ++ D.drop (a + (encT t).length) ∧ granarylaw01_getText N ((a : Int), 0, p, D) = some (t, ((a + (encT t).length : Nat) : Int), 0, p, D)) := by
  unfold granarylaw01_getText
  dsimp only
  rcases text_ok (M := 7) (p := p) hb ha hD hN with ⟨h1, h2⟩ | ⟨t, h1, h2, h3, h4⟩
  · exact .inl ⟨_, h1, by rw [h2]; rfl⟩
  · exact .inr ⟨t, by omega, h2, h3, by rw [h4]; rfl⟩

theorem encT_pos (t : List UInt8) : 4 ≤ (encT t).length := by rw [encT_length]; omega

/-- What reading a list ends in. -/
def Ends (N : Nat) (D : List Int) (a : Nat) (r : Option (Int × Int × Int × List Int × List (List UInt8))) (acc : List (List UInt8)) (G : List (List UInt8) → Nat → Prop) : Prop :=
  (∃ (a' : Nat) (w p' : Int) (acc' : List (List UInt8)), w ≠ 0 ∧ a' ≤ D.length ∧ r = some ((a' : Int), w, p', D, acc')) ∨
  (∃ (a' : Nat) (p' : Int) (ts : List (List UInt8)), a' ≤ D.length ∧ r = some ((a' : Int), 0, p', D, acc ++ ts) ∧ (∀ t ∈ ts, t.length ≤ 7) ∧ G ts a')

theorem rlist_loop {N : Nat} {D : List Int} (hb : Bts D) (hD : D.length < 100000) (hN : 8 < N) (n : Nat) (hn : n < 4294967296) : ∀ (f i a : Nat) (p : Int) (acc : List (List UInt8)),
    i ≤ n → a ≤ D.length → D.length + 8 ≤ a + 4 * f → acc.length * 4 ≤ a →
    Ends N D a (loopF (xdr_List_string_b0 N) f ((n : Int), (i : Int), (a : Int), 0, p, D, acc)) acc (fun ts a' => ts.length = n - i ∧ D.drop a = encTs ts ++ D.drop a') := by
  intro f
  induction f with
  | zero => intro i a p acc _ _ h; omega
  | succ f ih =>
    intro i a p acc hi ha hf hacc
    have hform : loopF (xdr_List_string_b0 N) (f + 1) ((n : Int), (i : Int), (a : Int), 0, p, D, acc) = xdr_List_string_b0 N (loopF (xdr_List_string_b0 N) f) ((n : Int), (i : Int), (a : Int), 0, p, D, acc) := rfl
    rw [hform]
    clear hform
    by_cases hlt : i < n
    · have hnext : ∀ (t : List UInt8) (a2 w p2 : Int), granarylaw01_getText N ((a : Int), 0, p, D) = some (t, a2, w, p2, D) → acc.length < 100000 →
          xdr_List_string_b0 N (loopF (xdr_List_string_b0 N) f) ((n : Int), (i : Int), (a : Int), 0, p, D, acc) = loopF (xdr_List_string_b0 N) f ((n : Int), ((i + 1 : Nat) : Int), a2, w, p2, D, acc ++ [t]) := by
        intro t a2 w p2 hg hal
        generalize hnx : loopF (xdr_List_string_b0 N) f = nx
        unfold xdr_List_string_b0
        dsimp only
        have e1 : ((i : Int) + 1) = ((i + 1 : Nat) : Int) := by omega
        rw [deT (p := (i : Int) < (n : Int)) (by omega), cond_true, rbad_ok, Option.bind_some]
        dsimp only
        rw [show decide ((0 : Int) = 0) = true from rfl, Bool.not_true, cond_false, hg, Option.bind_some]
        dsimp only
        rw [show decide (1 ≤ [t].length) = true from rfl, show List.take 1 (List.drop 0 [t]) = [t] from rfl, fits16 (by simp; omega), Bool.and_self, cond_true, wrapF_i64 (by omega) (by omega), e1]
      rcases gettext_ok (p := p) hb ha (by omega) hN with ⟨w, hw, hg⟩ | ⟨t, ht, h3, h4, hg⟩
      · rw [hnext _ _ _ _ hg (by omega)]
        obtain ⟨f, rfl⟩ : ∃ g, f = g + 1 := ⟨f - 1, by omega⟩
        refine .inl ⟨a, w, a, acc ++ [[]], hw, ha, ?_⟩
        show xdr_List_string_b0 N _ _ = _
        unfold xdr_List_string_b0
        dsimp only
        rw [rbad_ok, Option.bind_some, deF hw, Bool.not_false, cond_true]
        cases decide (((i + 1 : Nat) : Int) < (n : Int)) <;> rfl
      · rw [hnext _ _ _ _ hg (by omega)]
        have h5 := encT_pos t
        · rcases ih (i + 1) (a + (encT t).length) p (acc ++ [t]) (by omega) h3 (by omega) (by simp; omega) with ⟨a', w, p', acc', q1, q2, q3⟩ | ⟨a', p', ts, q1, q2, q3, q4, q5⟩
          · exact .inl ⟨a', w, p', acc', q1, q2, q3⟩
          · refine .inr ⟨a', p', t :: ts, q1, by rw [q2]; simp, fun u hu => ?_, by simp; omega, ?_⟩
            · rcases List.mem_cons.mp hu with rfl | hu
              · exact ht
              · exact q3 u hu
            · rw [h4, q5]
              simp only [encTs, List.map_cons, List.flatten_cons, List.append_assoc]
    · have : i = n := by omega
      refine .inr ⟨a, p, [], ha, ?_, by simp, by simp; omega, by simp [encTs]⟩
      generalize loopF (xdr_List_string_b0 N) f = nx
      unfold xdr_List_string_b0
      dsimp only
      rw [deF (by omega), cond_false, List.append_nil]

theorem rlist_ok {N a : Nat} {M p : Int} {D : List Int} (hb : Bts D) (ha : a ≤ D.length) (hD : D.length < 100000) (hN : 100000 < N) :
    (∃ (a' : Nat) (w p' : Int), w ≠ 0 ∧ a' ≤ D.length ∧ xdr_List_string N (M, (a : Int), 0, p, D) = some ((a' : Int), w, p', D, [])) ∨
    (∃ (a' : Nat) (p' : Int) (ts : List (List UInt8)), a' ≤ D.length ∧ xdr_List_string N (M, (a : Int), 0, p, D) = some ((a' : Int), 0, p', D, ts) ∧ (∀ t ∈ ts, t.length ≤ 7) ∧ (ts.length : Int) ≤ M ∧ D.drop a = encN ts.length ++ encTs ts ++ D.drop a') := by
  unfold xdr_List_string xdr_List_string_l0
  dsimp only
  rw [length_ok hb ha (by omega) (by omega)]
  have hn := numAt_lt hb a
  have fin : ∀ (a' w p' : Int) (ts : List (List UInt8)), (Option.bind (xdr_Reader_bad (a', w, p', D)) fun r3 => cond r3.1 (some (r3.2.1, r3.2.2.1, r3.2.2.2.1, r3.2.2.2.2, ([] : List (List UInt8)))) (some (r3.2.1, r3.2.2.1, r3.2.2.2.1, r3.2.2.2.2, ts))) = some (a', w, p', D, cond (decide (w = 0)) ts []) := by
    intro a' w p' ts
    rw [rbad_ok, Option.bind_some]
    cases decide (w = 0) <;> rfl
  have none_ : ∀ (w : Int), w ≠ 0 → loopF (xdr_List_string_b0 N) N ((0 : Int), (0 : Int), (a : Int), w, (a : Int), D, []) = some ((a : Int), w, (a : Int), D, []) := by
    intro w hw
    obtain ⟨N', rfl⟩ : ∃ g, N = g + 1 := ⟨N - 1, by omega⟩
    rfl
  by_cases h : D.length < a + 4
  · rw [if_pos h, Option.bind_some]
    dsimp only
    rw [none_ 3 (by decide), Option.bind_some]
    dsimp only
    rw [fin]
    exact .inl ⟨a, 3, a, by decide, ha, rfl⟩
  rw [if_neg h]
  by_cases h2 : M < (numAt D a : Int)
  · rw [if_pos h2, Option.bind_some]
    dsimp only
    rw [none_ 1 (by decide), Option.bind_some]
    dsimp only
    rw [fin]
    exact .inl ⟨a, 1, a, by decide, ha, rfl⟩
  rw [if_neg h2, Option.bind_some]
  dsimp only
  have hl := rlist_loop hb hD (N := N) (by omega) (numAt D a) hn N 0 (a + 4) p [] (by omega) (by omega) (by omega) (by simp)
  rw [show (((0 : Nat)) : Int) = 0 from rfl] at hl
  rcases hl with ⟨a', w, p', acc', q1, q2, q3⟩ | ⟨a', p', ts, q1, q2, q3, q4, q5⟩
  · rw [q3, Option.bind_some]
    dsimp only
    rw [fin]
    rw [deF q1]
    exact .inl ⟨a', w, p', q1, q2, rfl⟩
  · rw [q2, Option.bind_some]
    dsimp only
    rw [fin]
    have hlen : ts.length = numAt D a := by omega
    refine .inr ⟨a', p', ts, q1, by simp, q3, by omega, ?_⟩
    rw [hlen, List.append_assoc, ← q5]
    exact num_good hb h

theorem rchain_loop {N : Nat} {M : Int} {D : List Int} (hb : Bts D) (hD : D.length < 100000) (hN : 8 < N) : ∀ (f a : Nat) (p : Int) (acc : List (List UInt8)),
    a ≤ D.length → D.length + 8 ≤ a + 4 * f → acc.length * 4 ≤ a →
    (∃ (a' : Nat) (w p' : Int), w ≠ 0 ∧ a' ≤ D.length ∧ loopF (xdr_Chain_string_v1_b0 N) f (M, (a : Int), 0, p, D, acc) = some (.inl ((a' : Int), w, p', D))) ∨
    (∃ (a' : Nat) (p' : Int) (ts : List (List UInt8)), a' ≤ D.length ∧ loopF (xdr_Chain_string_v1_b0 N) f (M, (a : Int), 0, p, D, acc) = some (.inr ((a' : Int), 0, p', D, acc ++ ts)) ∧ (∀ t ∈ ts, t.length ≤ 7) ∧ D.drop a = encC ts ++ encN 0 ++ D.drop a') := by
  intro f
  induction f with
  | zero => intro a p acc _ h; omega
  | succ f ih =>
    intro a p acc ha hf hacc
    have hform : loopF (xdr_Chain_string_v1_b0 N) (f + 1) (M, (a : Int), 0, p, D, acc) = xdr_Chain_string_v1_b0 N (loopF (xdr_Chain_string_v1_b0 N) f) (M, (a : Int), 0, p, D, acc) := rfl
    rw [hform]
    clear hform
    generalize hnx : loopF (xdr_Chain_string_v1_b0 N) f = nx
    unfold xdr_Chain_string_v1_b0
    dsimp only
    rw [show xdr_Reader_At ((a : Int), 0, p, D) = some ((a : Int), (a : Int), 0, p, D) from rfl, Option.bind_some]
    dsimp only
    rcases bool_ok (p := p) hb ha (by omega) hN with ⟨w, hw, hg⟩ | ⟨b, h3, h4, hg⟩
    · rw [hg, Option.bind_some]
      dsimp only
      rw [rbad_ok, Option.bind_some, deF hw, Bool.not_false, cond_true]
      exact .inl ⟨a, w, a, hw, ha, rfl⟩
    rw [hg, Option.bind_some]
    dsimp only
    rw [rbad_ok, Option.bind_some, show decide ((0 : Int) = 0) = true from rfl, Bool.not_true, cond_false]
    cases b with
    | false =>
      rw [Bool.not_false, cond_true]
      refine .inr ⟨a + 4, p, [], h3, by simp, by simp, ?_⟩
      rw [h4]
      simp [encC]
    | true =>
      rw [Bool.not_true, cond_false]
      by_cases hM : M ≤ ((acc.length : Nat) : Int)
      · rw [deT hM, cond_true]
        exact .inl ⟨a, 1, a, by decide, ha, rfl⟩
      rw [deF hM, cond_false]
      dsimp only
      rcases gettext_ok (a := a + 4) (p := p) hb h3 (by omega) hN with ⟨w, hw, hg2⟩ | ⟨t, ht, h5, h6, hg2⟩
      · rw [hg2, Option.bind_some]
        dsimp only
        rw [show decide (1 ≤ [([] : List UInt8)].length) = true from rfl, show List.take 1 (List.drop 0 [([] : List UInt8)]) = [[]] from rfl, fits16 (by simp; omega), Bool.and_self, cond_true]
        obtain ⟨f, rfl⟩ : ∃ g, f = g + 1 := ⟨f - 1, by omega⟩
        refine .inl ⟨a + 4, w, ((a + 4 : Nat) : Int), hw, h3, ?_⟩
        rw [← hnx]
        show xdr_Chain_string_v1_b0 N _ _ = _
        unfold xdr_Chain_string_v1_b0
        dsimp only
        rw [show xdr_Reader_At (((a + 4 : Nat) : Int), w, ((a + 4 : Nat) : Int), D) = some (((a + 4 : Nat) : Int), ((a + 4 : Nat) : Int), w, ((a + 4 : Nat) : Int), D) from rfl, Option.bind_some]
        dsimp only
        rw [bool_bad hw, Option.bind_some]
        dsimp only
        rw [rbad_ok, Option.bind_some, deF hw, Bool.not_false, cond_true]
      · rw [hg2, Option.bind_some]
        dsimp only
        rw [show decide (1 ≤ [t].length) = true from rfl, show List.take 1 (List.drop 0 [t]) = [t] from rfl, fits16 (by simp; omega), Bool.and_self, cond_true]
        have h7 := encT_pos t
        rw [← hnx]
        · rcases ih (a + 4 + (encT t).length) p (acc ++ [t]) h5 (by omega) (by simp; omega) with ⟨a', w, p', q1, q2, q3⟩ | ⟨a', p', ts, q1, q2, q3, q4⟩
          · exact .inl ⟨a', w, p', q1, q2, q3⟩
          · refine .inr ⟨a', p', t :: ts, q1, by rw [q2]; simp, fun u hu => ?_, ?_⟩
            · rcases List.mem_cons.mp hu with rfl | hu
              · exact ht
              · exact q3 u hu
            · rw [h4, h6, q4]
              simp only [encC, List.map_cons, List.flatten_cons, List.append_assoc, Bool.toNat_true]

theorem rchain_ok {N a : Nat} {M p : Int} {D : List Int} (hb : Bts D) (ha : a ≤ D.length) (hD : D.length < 100000) (hN : 100000 < N) :
    (∃ (a' : Nat) (w p' : Int), w ≠ 0 ∧ a' ≤ D.length ∧ xdr_Chain_string_v1 N (M, (a : Int), 0, p, D) = some ((a' : Int), w, p', D, [])) ∨
    (∃ (a' : Nat) (p' : Int) (ts : List (List UInt8)), a' ≤ D.length ∧ xdr_Chain_string_v1 N (M, (a : Int), 0, p, D) = some ((a' : Int), 0, p', D, ts) ∧ (∀ t ∈ ts, t.length ≤ 7) ∧ D.drop a = encC ts ++ encN 0 ++ D.drop a') := by
  unfold xdr_Chain_string_v1 xdr_Chain_string_v1_l0
  dsimp only
  rcases rchain_loop (M := M) hb hD (N := N) (by omega) N a p [] ha (by omega) (by simp) with ⟨a', w, p', q1, q2, q3⟩ | ⟨a', p', ts, q1, q2, q3, q4⟩
  · rw [q3]
    exact .inl ⟨a', w, p', q1, q2, rfl⟩
  · rw [q2]
    exact .inr ⟨a', p', ts, q1, by simp, q3, q4⟩

theorem encTs_len : ∀ ts : List (List UInt8), 4 * ts.length ≤ (encTs ts).length
  | [] => by simp
  | t :: ts => by
    have h1 := encTs_len ts
    have h2 := encT_pos t
    simp only [encTs, List.map_cons, List.flatten_cons, List.length_append, List.length_cons] at h1 ⊢
    omega
theorem encC_len : ∀ ts : List (List UInt8), 4 * ts.length ≤ (encC ts).length
  | [] => by simp
  | t :: ts => by
    have h1 := encC_len ts
    have h2 := encT_pos t
    simp only [encC, List.map_cons, List.flatten_cons, List.length_append, List.length_cons, encN_length] at h1 ⊢
    omega

end Go.Rf.W.Pure
