/-
  RpcFeeds, plain: every pieces of every bytes: the program's framer and the document's tell the same.
-/
import Derived.Test.YtngehbaakpkoiaaRpcFRpcFeeds
import Derived.Test.YtngehbaakpkoiaaPlRpcDoc2
import Derived.Test.YtngehbaakpkoiaaPlRpc
import Derived.Test.YtngehbaakpkoiaaRfC
set_option linter.unusedVariables false
set_option linter.unusedSimpArgs false
set_option maxRecDepth 10000
namespace Go.Rf.W.Pure
open Go Go.Rf Go.Rf.W

theorem s_iter {A R : Type} {b : (A → Option R) → A → Option R} (st : Nat → A) (n : Nat) {r : R} (hs : ∀ i, i < n → ∀ nx, b nx (st i) = nx (st (i + 1))) (he : ∀ nx, b nx (st n) = some r) : ∀ f, n < f → loopF b f (st 0) = some r := by
  have key : ∀ d i f, i + d = n → d < f → loopF b f (st i) = some r := by
    intro d
    induction d with
    | zero =>
      intro i f hi hf
      obtain ⟨f, rfl⟩ : ∃ g, f = g + 1 := ⟨f - 1, by omega⟩
      have : i = n := by omega
      subst this
      exact he _
    | succ d ih =>
      intro i f hi hf
      obtain ⟨f, rfl⟩ : ∃ g, f = g + 1 := ⟨f - 1, by omega⟩
      show b (loopF b f) (st i) = _
      rw [hs i (by omega)]
      exact ih (i + 1) f (by omega) (by omega)
  exact fun f hf => key n 0 f (by omega) hf

theorem same_ok {N : Nat} {x : List (List Int)} (hx : x.length < 100000) (hN : x.length < N) : granaryref21_Same N (x, x) = some true := by
  have key : granaryref21_Same_l0 N (x, x, (0 : Int)) = some (.inr ()) := by
    refine s_iter (b := granaryref21_Same_b0 N) (r := .inr ()) (fun i => (x, x, (i : Int))) x.length (fun i hi nx => ?_) (fun nx => ?_) N hN
    · unfold granaryref21_Same_b0
      dsimp only
      rw [deT (p := (i : Int) < ((x.length : Nat) : Int)) (by omega), cond_true, deT (p := (0 : Int) ≤ (i : Int)) (by omega), Bool.and_self, cond_true, cond_true, deS, Bool.not_true, cond_false, wrapF_i64 (by omega) (by omega)]
      rfl
    · unfold granaryref21_Same_b0
      dsimp only
      rw [deF (by omega), cond_false]
  unfold granaryref21_Same
  dsimp only
  rw [deS, Bool.not_true, cond_false, key, Option.bind_some]

theorem feed_v4 : rpc_Framer_Feed_v4 = rpc_Framer_Feed_v1 := rfl

/-! How long the records are -/

theorem settle_rows {s : FS} (h : s.part.length ≤ 4096) : ∀ r, r ∈ s.settle.recs → r ∈ s.recs ∨ r.length ≤ 4096 := by
  intro r hr
  unfold FS.settle at hr
  split at hr
  · rcases List.mem_append.1 hr with hr | hr
    · exact .inl hr
    · rw [List.mem_singleton] at hr
      subst hr
      exact .inr h
  · exact .inl hr

theorem step_rows {s : FS} {b : Int} (h : s.ok) : ∀ r, r ∈ (s.step b).recs → r ∈ s.recs ∨ r.length ≤ 4096 := by
  obtain ⟨o1, o2, o3, o4⟩ := h
  intro r hr
  unfold FS.step at hr
  split at hr
  · exact .inl hr
  · split at hr
    · have := settle_rows (s := ⟨s.n - 1, s.last, s.frags, s.held + 1, false, s.head, s.part ++ [b], s.recs⟩) (by simp; omega) r hr
      exact this
    · split at hr
      · exact .inl hr
      · unfold FS.begins at hr
        split at hr
        · exact settle_rows (s := ⟨val (s.head ++ [b]) % 2147483648, decide (2147483648 ≤ val (s.head ++ [b])), s.frags + 1, s.held + 1, false, [], s.part, s.recs⟩) (by show s.part.length ≤ 4096; omega) r hr
        · exact .inl hr

theorem run_rows : ∀ (c : List Int) (s : FS), Bts c → s.ok → ∀ r, r ∈ (s.run c).recs → r ∈ s.recs ∨ r.length ≤ 4096
  | [], s, _, _ => fun r hr => .inl hr
  | b :: c, s, hb, h => by
    intro r hr
    have h1 := (run_props [b] s (fun x hx => hb x (by rw [List.mem_singleton] at hx; subst hx; exact List.mem_cons_self ..)) h).1
    rcases run_rows c (s.step b) (fun x hx => hb x (List.mem_cons_of_mem _ hx)) h1 r hr with h2 | h2
    · exact step_rows h r h2
    · exact .inr h2

/-! How much there is -/

def ltot : List (List Int) → Nat
  | [] => 0
  | c :: r => c.length + ltot r

theorem sumL_len {α : Type} {f : α → Nat} (h : ∀ x, 1 ≤ f x) : ∀ l : List α, l.length ≤ sumL f l
  | [] => Nat.le_refl _
  | a :: l => by
    have := sumL_len h l
    have := h a
    simp only [sumL, List.length_cons]
    omega

theorem ltot_bulk : ∀ l : List (List Int), ltot l ≤ sumL (EK.bulk (.sl (.int .u8))) l
  | [] => Nat.le_refl _
  | c :: r => by
    have h := ltot_bulk r
    have h1 : EK.bulk (.sl (.int .u8)) c = sumL (EK.bulk (.int .u8)) c + 1 := rfl
    have h2 := sumL_len (f := EK.bulk (.int .u8)) (fun _ => Nat.le_refl 1) c
    show c.length + ltot r ≤ EK.bulk (.sl (.int .u8)) c + sumL (EK.bulk (.sl (.int .u8))) r
    omega

theorem ltot_drop {l : List (List Int)} {i : Nat} (h : i < l.length) : ltot (l.drop i) = (l[i]).length + ltot (l.drop (i + 1)) := by
  rw [List.drop_eq_getElem_cons h]; rfl

theorem getD_i {l : List (List Int)} {i : Nat} (h : i < l.length) : List.getD l i (EK.dflt (.sl (.int .u8))) = l[i] := by
  rw [List.getD, List.getElem?_eq_getElem h]; rfl

theorem huge_loop {N : Nat} {l : List (List Int)} : ∀ (d f i : Nat) (acc : Int), i + d = min l.length 61 → d < f →
    ∃ r, loopF (granarylaw21_huge_b0 N) f (l, acc, (i : Int)) = some r ∧ (∀ a : Nat, acc = (a : Int) → a + ltot (l.drop i) ≤ 1048576 → l.length ≤ 60 → r = ((a + ltot (l.drop i) : Nat) : Int)) := by
  intro d
  induction d with
  | zero =>
    intro f i acc hi hf
    obtain ⟨f, rfl⟩ : ∃ g, f = g + 1 := ⟨f - 1, by omega⟩
    refine ⟨acc, ?_, ?_⟩
    · show granarylaw21_huge_b0 N _ _ = _
      unfold granarylaw21_huge_b0
      dsimp only
      by_cases h : (i : Int) < ((l.length : Nat) : Int)
      · rw [deT h, cond_true, Option.bind_some, deF (p := (i : Int) ≤ 60) (by omega), cond_false]
      · rw [deF h, cond_false, Option.bind_some, cond_false]
    · intro a ha _ hl
      rw [List.drop_eq_nil_of_le (by omega), ha]
      rfl
  | succ d ih =>
    intro f i acc hi hf
    obtain ⟨f, rfl⟩ : ∃ g, f = g + 1 := ⟨f - 1, by omega⟩
    have hlt : i < l.length := by omega
    obtain ⟨r, r1, r2⟩ := ih f (i + 1) (wrapF .i64 (acc + ((l[i].length : Nat) : Int))) (by omega) (by omega)
    refine ⟨r, ?_, ?_⟩
    · show granarylaw21_huge_b0 N (loopF (granarylaw21_huge_b0 N) f) _ = _
      generalize loopF (granarylaw21_huge_b0 N) f = nx at r1
      unfold granarylaw21_huge_b0
      dsimp only
      rw [deT (p := (i : Int) < ((l.length : Nat) : Int)) (by omega), cond_true, Option.bind_some, deT (p := (i : Int) ≤ 60) (by omega), cond_true, deT (p := (0 : Int) ≤ (i : Int)) (by omega), Bool.and_self, cond_true, Int.toNat_natCast, getD_i hlt, wrapF_i64 (n := (i : Int) + 1) (by omega) (by omega)]
      exact r1
    · intro a ha hb hl
      rw [ltot_drop hlt] at hb ⊢
      have := r2 (a + l[i].length) (by rw [ha, wrapF_i64 (by omega) (by omega)]; omega) (by omega) hl
      rw [this]
      omega

theorem huge_ok {N : Nat} (hN : 61 < N) {l : List (List Int)} (hb : ltot l ≤ 1048576) : ∃ b, granarylaw21_huge N l = some b ∧ (b = false → l.length ≤ 60 ∧ ltot l ≤ 20000) := by
  obtain ⟨r, r1, r2⟩ := huge_loop (N := N) (l := l) (min l.length 61) N 0 0 (by omega) (by omega)
  have r1' : granarylaw21_huge_l0 N (l, (0 : Int), (0 : Int)) = some r := r1
  unfold granarylaw21_huge
  rw [r1', Option.bind_some]
  by_cases h : (60 : Int) < ((l.length : Nat) : Int)
  · rw [deT h, cond_true, Option.bind_some]
    exact ⟨true, rfl, fun h => by cases h⟩
  · rw [deF h, cond_false, Option.bind_some]
    refine ⟨_, rfl, fun hx => ?_⟩
    have e := r2 0 rfl (by rw [List.drop_zero]; omega) (by omega)
    rw [List.drop_zero] at e
    rw [e] at hx
    have hn : ¬ ((20000 : Int) < ((0 + ltot l : Nat) : Int)) := of_decide_eq_false hx
    omega

/-! What is spoilt afterwards -/

theorem spoil2 {N : Nat} {l : List (List Int)} {i : Int} : ∀ (d f k : Nat) (p : List Int), k + d = p.length → p.length < 1000000 → d < f → ∃ q, loopF (granarylaw21_RpcFeeds_b2 N) f (l, i, (k : Int), p) = some q := by
  intro d
  induction d with
  | zero =>
    intro f k p hk hp hf
    obtain ⟨f, rfl⟩ : ∃ g, f = g + 1 := ⟨f - 1, by omega⟩
    refine ⟨p, ?_⟩
    show granarylaw21_RpcFeeds_b2 N _ _ = _
    unfold granarylaw21_RpcFeeds_b2
    dsimp only
    rw [deF (p := (k : Int) < ((p.length : Nat) : Int)) (by omega), cond_false]
  | succ d ih =>
    intro f k p hk hp hf
    obtain ⟨f, rfl⟩ : ∃ g, f = g + 1 := ⟨f - 1, by omega⟩
    obtain ⟨q, hq⟩ := ih f (k + 1) (List.set p k (xorF .u8 (List.getD p k (EK.dflt (.int .u8))) (85 : Int))) (by rw [List.length_set]; omega) (by rw [List.length_set]; omega) (by omega)
    refine ⟨q, ?_⟩
    show granarylaw21_RpcFeeds_b2 N (loopF (granarylaw21_RpcFeeds_b2 N) f) _ = _
    generalize loopF (granarylaw21_RpcFeeds_b2 N) f = nx at hq
    unfold granarylaw21_RpcFeeds_b2
    dsimp only
    rw [deT (p := (k : Int) < ((p.length : Nat) : Int)) (by omega), cond_true, deT (p := (0 : Int) ≤ (k : Int)) (by omega), Bool.and_self, cond_true, Int.toNat_natCast, deT (p := k < p.length) (by omega), cond_true, cond_true, cond_true, wrapF_i64 (n := (k : Int) + 1) (by omega) (by omega)]
    exact hq

theorem spoil6 {N : Nat} {l : List (List Int)} {i : Int} : ∀ (d f a t : Nat) (R : List (List Int)), a < R.length → R.length < 1000000 → (R.getD a []).length < 1000000 → t + d = (R.getD a []).length → d < f →
    ∃ Q, loopF (granarylaw21_RpcFeeds_b6 N) f (l, i, (a : Int), (t : Int), R) = some Q ∧ Q.length = R.length ∧ ∀ j, (Q.getD j []).length = (R.getD j []).length := by
  intro d
  induction d with
  | zero =>
    intro f a t R ha hR hr ht hf
    obtain ⟨f, rfl⟩ : ∃ g, f = g + 1 := ⟨f - 1, by omega⟩
    refine ⟨R, ?_, rfl, fun _ => rfl⟩
    show granarylaw21_RpcFeeds_b6 N _ _ = _
    unfold granarylaw21_RpcFeeds_b6
    dsimp only
    rw [deT (p := (0 : Int) ≤ (a : Int)) (by omega), deT (p := (a : Int) < ((R.length : Nat) : Int)) (by omega), Bool.and_self, cond_true, Int.toNat_natCast, deT (p := a < R.length) ha, cond_true, deF (p := (t : Int) < (((R.getD a []).length : Nat) : Int)) (by omega), cond_false]
  | succ d ih =>
    intro f a t R ha hR hr ht hf
    obtain ⟨f, rfl⟩ : ∃ g, f = g + 1 := ⟨f - 1, by omega⟩
    have hl : ∀ (v : Int) (j : Nat), ((List.set R a (List.set (R.getD a []) t v)).getD j []).length = (R.getD j []).length := by
      intro v j
      rw [List.getD_eq_getElem?_getD, List.getD_eq_getElem?_getD, List.getElem?_set]
      by_cases h : a = j
      · subst h
        rw [if_pos rfl, if_pos ha, Option.getD_some, List.length_set, List.getD_eq_getElem?_getD]
      · rw [if_neg h, List.getD_eq_getElem?_getD]
    obtain ⟨Q, q1, q2, q3⟩ := ih f a (t + 1) (List.set R a (List.set (R.getD a []) t (xorF .u8 (List.getD (R.getD a []) t 0) (85 : Int)))) (by rw [List.length_set]; exact ha) (by rw [List.length_set]; exact hR) (by rw [hl]; exact hr) (by rw [hl]; omega) (by omega)
    refine ⟨Q, ?_, by rw [q2, List.length_set], fun j => by rw [q3, hl]⟩
    show granarylaw21_RpcFeeds_b6 N (loopF (granarylaw21_RpcFeeds_b6 N) f) _ = _
    generalize loopF (granarylaw21_RpcFeeds_b6 N) f = nx at q1
    unfold granarylaw21_RpcFeeds_b6
    dsimp only
    rw [deT (p := (0 : Int) ≤ (a : Int)) (by omega), deT (p := (a : Int) < ((R.length : Nat) : Int)) (by omega), Bool.and_self, cond_true, Int.toNat_natCast, deT (p := a < R.length) ha, cond_true, deT (p := (t : Int) < (((R.getD a []).length : Nat) : Int)) (by omega), cond_true, cond_true, cond_true, cond_true, cond_true, deT (p := (0 : Int) ≤ (t : Int)) (by omega), Bool.and_self, cond_true, Int.toNat_natCast, deT (p := t < (R.getD a []).length) (by omega), cond_true, cond_true, cond_true, wrapF_i64 (n := (t : Int) + 1) (by omega) (by omega)]
    exact q1

theorem spoil4 {N : Nat} {l : List (List Int)} {i : Int} : ∀ (d f a : Nat) (R : List (List Int)), a + d = R.length → R.length < 1000000 → (∀ j, (R.getD j []).length < 1000000 ∧ (R.getD j []).length < N) → d < f →
    ∃ Q, loopF (granarylaw21_RpcFeeds_b4 N) f (l, i, (a : Int), R) = some Q := by
  intro d
  induction d with
  | zero =>
    intro f a R ha hR hr hf
    obtain ⟨f, rfl⟩ : ∃ g, f = g + 1 := ⟨f - 1, by omega⟩
    refine ⟨R, ?_⟩
    show granarylaw21_RpcFeeds_b4 N _ _ = _
    unfold granarylaw21_RpcFeeds_b4
    dsimp only
    rw [deF (p := (a : Int) < ((R.length : Nat) : Int)) (by omega), cond_false]
  | succ d ih =>
    intro f a R ha hR hr hf
    obtain ⟨f, rfl⟩ : ∃ g, f = g + 1 := ⟨f - 1, by omega⟩
    obtain ⟨Q, q1, q2, q3⟩ := spoil6 (N := N) (l := l) (i := i) (R.getD a []).length N a 0 R (by omega) hR (hr a).1 (by omega) (hr a).2
    obtain ⟨P, hP⟩ := ih f (a + 1) Q (by omega) (by omega) (fun j => by rw [q3]; exact hr j) (by omega)
    refine ⟨P, ?_⟩
    show granarylaw21_RpcFeeds_b4 N (loopF (granarylaw21_RpcFeeds_b4 N) f) _ = _
    generalize loopF (granarylaw21_RpcFeeds_b4 N) f = nx at hP
    have q1' : granarylaw21_RpcFeeds_l6 N (l, i, (a : Int), (0 : Int), R) = some Q := q1
    unfold granarylaw21_RpcFeeds_b4
    dsimp only
    rw [deT (p := (a : Int) < ((R.length : Nat) : Int)) (by omega), cond_true, q1', Option.bind_some, wrapF_i64 (n := (a : Int) + 1) (by omega) (by omega)]
    exact hP

/-! The rounds -/

theorem feeds_loop {l : List (List Int)} (hl : l.length ≤ 60) (hb : ∀ c, c ∈ l → Bts c) : ∀ (d f i : Nat) (t : FS) (a : Nat) (B : List Int), i + d = l.length → d < f → Inv t a B → B.length + ltot (l.drop i) ≤ 20000 →
    ∃ z, loopF (granarylaw21_RpcFeeds_b0 30000) f (l, (i : Int), (t.n : Int), t.last, (t.frags : Int), (t.held : Int), t.closed, (a : Int), t.closed, t.head, t.part, B) = some (.inr z) := by
  intro d
  induction d with
  | zero =>
    intro f i t a B hi hf hI hB
    obtain ⟨f, rfl⟩ : ∃ g, f = g + 1 := ⟨f - 1, by omega⟩
    refine ⟨((t.n : Int), t.last, (t.frags : Int), (t.held : Int), t.closed, (a : Int), t.closed, t.head, t.part, B), ?_⟩
    show granarylaw21_RpcFeeds_b0 30000 _ _ = _
    unfold granarylaw21_RpcFeeds_b0
    dsimp only
    rw [deF (p := (i : Int) < ((l.length : Nat) : Int)) (by omega), cond_false]
  | succ d ih =>
    intro f i t a B hi hf hI hB
    obtain ⟨f, rfl⟩ : ∃ g, f = g + 1 := ⟨f - 1, by omega⟩
    have hlt : i < l.length := by omega
    rw [ltot_drop hlt] at hB
    have hc : Bts l[i] := hb _ (List.getElem_mem hlt)
    have hrec := hI.1
    have hok := hI.2.1
    have hheld := hI.2.2.1
    obtain ⟨a', B', e2, I', lB⟩ := dfeed_ok (N := 30000) hI hc (by omega) (by omega)
    have e1 := feed_ok (N := 30000) (c := l[i]) (s := t) (by decide) (by omega) hok hc hrec (by omega) (by omega)
    have hp := run_props l[i] t hc hok
    have hrows := run_rows l[i] t hc hok
    rw [hrec] at hrows
    have hr0 := hp.2.1
    rw [hrec] at hr0
    obtain ⟨z, hz⟩ := ih f (i + 1) (t.run l[i]).clr a' B' (by omega) (by omega) I' (by omega)
    obtain ⟨_, _, _, _, j5, j6⟩ := I'
    refine ⟨z, ?_⟩
    show granarylaw21_RpcFeeds_b0 30000 (loopF (granarylaw21_RpcFeeds_b0 30000) f) _ = _
    generalize loopF (granarylaw21_RpcFeeds_b0 30000) f = nx at hz
    have hheld' : (t.run l[i]).held ≤ 40000 := by have := hp.2.2.1; omega
    generalize t.run l[i] = T at *
    have sm := same_ok (N := 30000) (x := T.recs) (by have : ([] : List (List Int)).length = 0 := rfl; omega) (by have : ([] : List (List Int)).length = 0 := rfl; omega)
    have hn : ∀ n, granarylaw21_num n = some n := fun _ => rfl
    have f1 : fits 1 (l[i]).length = true := fits1 (by omega)
    have hleft : granaryref21_Framer_Left ((a' : Int), T.closed, B') = some ((T.held : Int), (a' : Int), T.closed, B') := by
      unfold granaryref21_Framer_Left
      dsimp only
      by_cases h : T.closed = true
      · have : T.held = 0 := j5 h
        rw [h, cond_true, this]; rfl
      · have h' : T.closed = false := by simpa using h
        have g := j6 h'
        have g1 : a' ≤ B'.length := g.1
        have g2 : T.held = B'.length - a' := g.2.1
        rw [h', cond_false, wrapF_i64 (by omega) (by omega), show ((B'.length : Nat) : Int) - (a' : Int) = (T.held : Int) by omega]
    obtain ⟨Q2, hQ2⟩ := spoil2 (N := 30000) (l := l) (i := (i : Int)) (l[i]).length 30000 0 l[i] (by omega) (by omega) (by omega)
    have hlen0 : ([] : List (List Int)).length = 0 := rfl
    obtain ⟨Q4, hQ4⟩ := spoil4 (N := 30000) (l := l) (i := (i : Int)) T.recs.length 30000 0 T.recs (by omega) (by omega) (fun j => by
      by_cases hj : j < T.recs.length
      · have hm : T.recs.getD j [] ∈ T.recs := by rw [List.getD_eq_getElem?_getD, List.getElem?_eq_getElem hj]; exact List.getElem_mem _
        rcases hrows _ hm with h | h
        · cases h
        · constructor <;> omega
      · rw [List.getD_eq_getElem?_getD, List.getElem?_eq_none (by omega)]
        constructor <;> decide) (by omega)
    have hQ2' : granarylaw21_RpcFeeds_l2 30000 (l, (i : Int), (0 : Int), l[i]) = some Q2 := hQ2
    have hQ4' : granarylaw21_RpcFeeds_l4 30000 (l, (i : Int), (0 : Int), T.recs) = some Q4 := hQ4
    unfold granarylaw21_RpcFeeds_b0
    dsimp only
    rw [deT (p := (i : Int) < ((l.length : Nat) : Int)) (by omega), cond_true, deT (p := (0 : Int) ≤ (i : Int)) (by omega), Bool.and_self, cond_true, Int.toNat_natCast, getD_i hlt, f1, cond_true, feed_v4, e1, Option.bind_some, cond_true, e2, Option.bind_some]
    unfold FS.res
    dsimp only
    rw [sm, Option.bind_some, Bool.not_true, cond_false, hn, Option.bind_some, deS, Bool.not_true, cond_false]
    unfold rpc_Framer_Left_v1
    dsimp only
    rw [Option.bind_some, hleft, Option.bind_some]
    dsimp only
    rw [deS, Bool.not_true, cond_false]
    unfold rpc_Framer_Closed_v1
    dsimp only
    rw [Option.bind_some]
    dsimp only
    rw [beq_self_eq_true, Bool.not_true, cond_false, cond_true, deS, Bool.not_true, Option.bind_some]
    dsimp only
    rw [cond_false, hQ2', Option.bind_some, hQ4', Option.bind_some, wrapF_i64 (n := (i : Int) + 1) (by omega) (by omega)]
    exact hz

theorem rpcFeeds (x : EKs [(.sl (.sl (.int .u8)))]) (hw : wfs [(.sl (.sl (.int .u8)))] x) (hb : bulks [(.sl (.sl (.int .u8)))] x ≤ 1048576) : ∃ N, granarylaw21_RpcFeeds N x = some true := by
  change List (List Int) at x
  have hbx : ltot x ≤ 1048576 := by
    have h1 : sumL (EK.bulk (.sl (.int .u8))) x + 1 ≤ 1048576 := hb
    have := ltot_bulk x
    omega
  have hwx : EK.wf (.sl (.sl (.int .u8))) x := hw
  refine ⟨30000, ?_⟩
  obtain ⟨b, h1, h2⟩ := huge_ok (N := 30000) (by decide) hbx
  unfold granarylaw21_RpcFeeds
  rw [h1, Option.bind_some]
  cases b with
  | true => rw [cond_true, rpc_live]; rfl
  | false =>
    have hs := h2 rfl
    have hts : ∀ c, c ∈ x → Bts c := fun c hc => wf_bytes (l := c) (hwx.2 c hc)
    obtain ⟨z, hz⟩ := feeds_loop hs.1 hts x.length 30000 0 (FS.start []) 0 [] (by omega) (by omega) inv_start (by rw [List.drop_zero]; simpa using hs.2)
    have hz' : granarylaw21_RpcFeeds_l0 30000 (x, (0 : Int), (0 : Int), false, (0 : Int), (0 : Int), false, (0 : Int), false, ([] : List Int), ([] : List Int), ([] : List Int)) = some (.inr z) := hz
    rw [cond_false, show rpc_NewFramer () = some () from rfl, Option.bind_some, hz', Option.bind_some]
    dsimp only
    rw [rpc_live]
    rfl

end Go.Rf.W.Pure
