/-
  Unlike rows of powers have an inverse: the plain law.
-/
import Derived.Test.YtmkpcnmjhmdndaaGfFGfVandermonde
import Derived.Test.YtmkpcnmjhmdndaaPlGfProd
import Derived.Test.YtmkpcnmjhmdndaaPlVand
import Derived.Test.YtmkpcnmjhmdndaaRfC
set_option linter.unusedVariables false
set_option linter.unusedSimpArgs false
namespace Go.Rf.W.Pure
open Go Go.Rf Go.Rf.W Go.Rf.Lin

theorem live300v : granarylaw02_live 300 () = some true := by decide +kernel

theorem pw_n (g : G) : ∀ n, (Lin.pw g n).n = Gf.pow g.n n
  | 0 => rfl
  | n + 1 => by
    show Gf.mul (Lin.pw g n).n g.n = Gf.pow g.n (n + 1)
    rw [pw_n g n]; rfl

theorem powG {N r c : Nat} (hN : 20 ≤ N) (hr : r < 256) (hc : c < 255) : gf_Pow N ((r : Int), (c : Int)) = some (((Lin.pw (G.of r) c).n : Nat) : Int) := by
  rw [gf_Pow_eq (N := N) (by omega) hr (by omega) (by omega)]
  have hof := G.of_n hr
  by_cases h0 : r = 0
  · subst h0
    rw [if_pos rfl]
    cases c with
    | zero => rfl
    | succ c =>
      rw [if_neg (by omega)]
      have : Lin.pw (G.of 0) (c + 1) = 0 := by
        show Lin.pw (G.of 0) c * G.of 0 = 0
        rw [show G.of 0 = 0 from rfl, G.mul_zero]
      rw [this]; rfl
  · rw [if_neg h0, pw_n, hof, show ((c : Int) % 255).toNat = c from by omega]

theorem powers_in {N : Nat} (hN : 100 ≤ N) {rows cols r : Nat} (h2 : rows ≤ 64) (h4 : cols ≤ 64) (hr : r < rows) (a1 a3 a4 : Int) :
    ∀ (d f c : Nat) (L : List Int) (A : Mt), c + d = cols → d < f → Is rows cols L A →
      ∃ L', loopF (gf_Powers_b2 N) f (a1, (r : Int), a3, a4, (cols : Int), (c : Int), L, (rows : Int), (cols : Int)) = some (L', (rows : Int), (cols : Int)) ∧
        Is rows cols L' (fun a b => if a = r ∧ c ≤ b then Lin.pw (G.of r) b else A a b) := by
  have hb : rows * cols ≤ 4096 := mul_bd h2 h4
  intro d
  induction d with
  | zero =>
    intro f c L A hc hf hI
    obtain ⟨f, rfl⟩ : ∃ g, f = g + 1 := ⟨f - 1, by omega⟩
    have : c = cols := by omega
    subst this
    exact ⟨L, by simp [loopF, gf_Powers_b2], hI.congr (fun a ha b hb => by rw [if_neg (by omega)])⟩
  | succ d ih =>
    intro f c L A hc hf hI
    obtain ⟨f, rfl⟩ : ∃ g, f = g + 1 := ⟨f - 1, by omega⟩
    have hlt : c < cols := by omega
    have hcl := cell_lt hr hlt
    have hl := hI.len
    obtain ⟨L', e1, e2⟩ := ih f (c + 1) _ _ (by omega) (by omega) (hI.set hr hlt (Lin.pw (G.of r) c))
    refine ⟨L', ?_, e2.congr (fun a ha b hb => ?_)⟩
    · rw [← e1]
      have z1 : (c : Int) < (cols : Int) := by omega
      have z2 : (0 : Int) ≤ (c : Int) := by omega
      have z3 : c + r * cols < L.length := by omega
      have b3 : c ≤ 1000000 := by omega
      have hw : wrapF .u8 (r : Int) = (r : Int) := wrapF_u8 (by omega) (by omega)
      have hp := powG (N := N) (r := r) (c := c) (by omega) (by omega) (by omega)
      have hrow := gf_row_eq (r := r) hr hl (by omega) (by omega)
      show gf_Powers_b2 N (loopF (gf_Powers_b2 N) f) _ = _
      unfold gf_Powers_b2
      dsimp only
      rw [dT z1, cond_true, hrow, Option.bind_some]
      dsimp only
      rw [hw, hp, Option.bind_some, dT z2, dT z1, Bool.and_self, cond_true, Int.toNat_natCast, dT z3, cond_true, wrap_succ b3]
    · by_cases h1 : b = c
      · subst h1
        by_cases h3 : a = r
        · subst h3; simp [Nat.not_le.2 (Nat.lt_succ_self b)]
        · simp [h3]
      · by_cases h3 : c + 1 ≤ b
        · have : c ≤ b := by omega
          simp [h3, this, h1]
        · have : ¬ c ≤ b := by omega
          simp [h3, this, h1]

theorem powers_out {N : Nat} (hN : 100 ≤ N) {rows cols : Nat} (h2 : rows ≤ 64) (h4 : cols ≤ 64) :
    ∀ (d f r : Nat) (L : List Int) (A : Mt), r + d = rows → d < f → Is rows cols L A →
      ∃ L', loopF (gf_Powers_b0 N) f ((cols : Int), (rows : Int), (r : Int), L, (rows : Int), (cols : Int)) = some (L', (rows : Int), (cols : Int)) ∧
        Is rows cols L' (fun a b => if r ≤ a then Lin.pw (G.of a) b else A a b) := by
  intro d
  induction d with
  | zero =>
    intro f r L A hc hf hI
    obtain ⟨f, rfl⟩ : ∃ g, f = g + 1 := ⟨f - 1, by omega⟩
    have : r = rows := by omega
    subst this
    exact ⟨L, by simp [loopF, gf_Powers_b0], hI.congr (fun a ha b hb => by rw [if_neg (by omega)])⟩
  | succ d ih =>
    intro f r L A hc hf hI
    obtain ⟨f, rfl⟩ : ∃ g, f = g + 1 := ⟨f - 1, by omega⟩
    have hlt : r < rows := by omega
    obtain ⟨L1, p1, p2⟩ := powers_in (N := N) hN h2 h4 hlt (cols : Int) (rows : Int) (r : Int) cols N 0 L A (by omega) (by omega) hI
    have e0 : ((0 : Nat) : Int) = 0 := rfl
    rw [e0] at p1
    obtain ⟨L', e1, e2⟩ := ih f (r + 1) L1 _ (by omega) (by omega) p2
    refine ⟨L', ?_, e2.congr (fun a ha b hb => ?_)⟩
    · rw [← e1]
      have z1 : (r : Int) < (rows : Int) := by omega
      have b3 : r ≤ 1000000 := by omega
      show gf_Powers_b0 N (loopF (gf_Powers_b0 N) f) _ = _
      unfold gf_Powers_b0
      dsimp only
      rw [dT z1, cond_true, gf_Powers_l2, p1, Option.bind_some, wrap_succ b3]
    · by_cases h1 : a = r
      · subst h1; simp [Nat.not_le.2 (Nat.lt_succ_self a)]
      · have : (r + 1 ≤ a) = (r ≤ a) := propext (by omega)
        simp [h1, this]

theorem powers_ok {N : Nat} (hN : 100 ≤ N) {rows cols : Nat} (h1 : 1 ≤ rows) (h2 : rows ≤ 64) (h3 : 1 ≤ cols) (h4 : cols ≤ 64) :
    ∃ L, gf_Powers N ((rows : Int), (cols : Int)) = some ((rows : Int), (cols : Int), 0, L) ∧ Is rows cols L (fun a b => Lin.pw (G.of a) b) := by
  have hb : rows * cols ≤ 4096 := mul_bd h2 h4
  obtain ⟨L', e1, e2⟩ := powers_out (N := N) hN h2 h4 rows N 0 _ _ (by omega) (by omega) (Is.zeros rows cols)
  have e0 : ((0 : Nat) : Int) = 0 := rfl
  rw [e0] at e1
  have d1 : decide ((1 : Int) ≤ (rows : Int) ∧ (rows : Int) ≤ 64) = true := by rw [decide_eq_true_eq]; omega
  have d2 : decide ((1 : Int) ≤ (cols : Int) ∧ (cols : Int) ≤ 64) = true := by rw [decide_eq_true_eq]; omega
  refine ⟨L', ?_, e2.congr (fun a ha b hb => by simp)⟩
  simp only [gf_Powers, side_eq, Option.bind_some, d1, d2, Bool.not_true, cond_false, zeros_eq hb, gf_Powers_l0, e1]

theorem _root_.Go.Rf.W.Is.append {k cols : Nat} {L V : List Int} {A v : Mt} (h : Is k cols L A) (hV : Is 1 cols V v) : Is (k + 1) cols (L ++ V) (fun a b => if a = k then v 0 b else A a b) := by
  have hl := h.len
  have hl2 := hV.len
  rw [Nat.one_mul] at hl2
  refine ⟨by rw [List.length_append, hl, hl2, Nat.add_mul, Nat.one_mul], fun i hi j hj => ?_⟩
  rw [List.getD_eq_getElem?_getD, List.getElem?_append]
  by_cases h1 : i = k
  · subst h1
    rw [if_neg (by omega), if_pos rfl, show j + i * cols - L.length = j from by omega]
    have := hV.get 0 (by omega) j hj
    rw [Nat.zero_mul, Nat.add_zero, List.getD_eq_getElem?_getD] at this
    exact this
  · have h2 := cell_lt (show i < k by omega) hj
    rw [if_pos (by omega), if_neg h1, ← List.getD_eq_getElem?_getD, h.get i (by omega) j hj]

/-- Some rows. -/
theorem rows_loop {N : Nat} {rows cols n : Nat} (h2 : rows ≤ 64) (h4 : cols ≤ 64) (hn : n ≤ 64) {K W : List Int} {A : Mt} {t : Nat → Nat} (hK : Is rows cols K A) (hW : W.length = n)
    (ht : ∀ i, i < n → W.getD i 0 = (t i : Int) ∧ t i < rows) (a7 : Int) :
    ∀ (d f k : Nat) (L : List Int), k + d = n → d < f → Is k cols L (fun i j => A (t i) j) →
      ∃ L', loopF (gf_Rows_b0 N) f (W, (n : Int), (k : Int), (rows : Int), (cols : Int), K, a7, (cols : Int), L) = some (.inr ((rows : Int), (cols : Int), K, a7, (cols : Int), L')) ∧
        Is n cols L' (fun i j => A (t i) j) := by
  have hb : rows * cols ≤ 4096 := mul_bd h2 h4
  intro d
  induction d with
  | zero =>
    intro f k L hk hf hI
    obtain ⟨f, rfl⟩ : ∃ g, f = g + 1 := ⟨f - 1, by omega⟩
    have : k = n := by omega
    subst this
    exact ⟨L, by simp [loopF, gf_Rows_b0], hI⟩
  | succ d ih =>
    intro f k L hk hf hI
    obtain ⟨f, rfl⟩ : ∃ g, f = g + 1 := ⟨f - 1, by omega⟩
    have hlt : k < n := by omega
    obtain ⟨t1, t2⟩ := ht k hlt
    have hrow := hK.row t2
    obtain ⟨L', e1, e2⟩ := ih f (k + 1) _ (by omega) (by omega) ((hI.append hrow).congr (fun a ha b hb => by
      by_cases h : a = k
      · subst h; simp
      · simp [h]))
    refine ⟨L', ?_, e2⟩
    rw [← e1]
    have z1 : (k : Int) < (n : Int) := by omega
    have z2 : (0 : Int) ≤ (k : Int) := by omega
    have z3 : (k : Int) < ((W.length : Nat) : Int) := by omega
    have z4 : ¬ ((t k : Int) < 0) := by omega
    have z5 : ¬ ((rows : Int) ≤ (t k : Int)) := by omega
    have b3 : k ≤ 1000000 := by omega
    have t1' : List.getD W k (EK.dflt (.int .i64)) = (t k : Int) := t1
    have hr1 := row1_eq (r := t k) t2 hK.len (by omega) (by omega)
    have hl := hI.len
    have hl2 := hrow.len
    rw [Nat.one_mul] at hl2
    have hbk : k * cols ≤ 4096 := mul_bd (by omega : k ≤ 64) h4
    have hf1 : fits 1 (L.length + (List.take cols (List.drop (t k * cols) K)).length) = true := by
      rw [hl, hl2]; simp [fits]; omega
    show gf_Rows_b0 N (loopF (gf_Rows_b0 N) f) _ = _
    unfold gf_Rows_b0
    dsimp only
    rw [dT z1, cond_true, dT z2, dT z3, Bool.and_self, cond_true, Int.toNat_natCast, t1', dF z4, cond_false, dF z5, Option.bind_some, cond_false, hr1, Option.bind_some, hf1, cond_true, wrap_succ b3]

theorem rows_ok {N : Nat} (hN : 100 ≤ N) {rows cols n : Nat} (h1 : 1 ≤ rows) (h2 : rows ≤ 64) (h3 : 1 ≤ cols) (h4 : cols ≤ 64) (h5 : 1 ≤ n) (hn : n ≤ 64) {K W : List Int} {A : Mt} {t : Nat → Nat} (hK : Is rows cols K A) (hW : W.length = n)
    (ht : ∀ i, i < n → W.getD i 0 = (t i : Int) ∧ t i < rows) :
    ∃ L', gf_Rows N ((rows : Int), (cols : Int), K, W) = some ((n : Int), (cols : Int), 0, L') ∧ Is n cols L' (fun i j => A (t i) j) := by
  obtain ⟨L', e1, e2⟩ := rows_loop (N := N) h2 h4 hn hK hW ht (n : Int) n N 0 [] (by omega) (by omega) ⟨by simp, fun i hi => absurd hi (by omega)⟩
  have e0 : ((0 : Nat) : Int) = 0 := rfl
  rw [e0] at e1
  have d1 : decide ((1 : Int) ≤ (n : Int) ∧ (n : Int) ≤ 64) = true := by rw [decide_eq_true_eq]; omega
  refine ⟨L', ?_, e2⟩
  simp only [gf_Rows, check_ok h1 h2 h3 h4 hK.len, Option.bind_some, decide_true, Bool.not_true, cond_false, hW, side_eq, d1, gf_Rows_l0, e1]

theorem vnum (x : Int) : granarylaw02_num x = some x := rfl
theorem v00 : decide ((0 : Int) = 0) = true := rfl
theorem vsame (m n : Int) (L : List Int) : granaryref02_Same (m, n, L, m, n, L) = some true := by simp [granaryref02_Same]

theorem vand_in (W : List Int) {n i : Nat} (hW : W.length = n) (hn : n ≤ 64) (hi : i < n) : ∀ (d f j : Nat), j + d = i → d < f →
    loopF (granarylaw02_GfVandermonde_b2 300) f (W, (i : Int), (j : Int)) = some (.inl true) ∨
      (loopF (granarylaw02_GfVandermonde_b2 300) f (W, (i : Int), (j : Int)) = some (.inr ()) ∧ ∀ k, j ≤ k → k < i → W.getD k 0 ≠ W.getD i 0) := by
  intro d
  induction d with
  | zero =>
    intro f j hj hf
    obtain ⟨f, rfl⟩ : ∃ g, f = g + 1 := ⟨f - 1, by omega⟩
    refine .inr ⟨?_, fun k h1 h2 => by omega⟩
    show granarylaw02_GfVandermonde_b2 300 _ _ = _
    unfold granarylaw02_GfVandermonde_b2
    dsimp only
    rw [dF (show ¬ ((j : Int) < (i : Int)) by omega), cond_false]
  | succ d ih =>
    intro f j hj hf
    obtain ⟨f, rfl⟩ : ∃ g, f = g + 1 := ⟨f - 1, by omega⟩
    have h := ih f (j + 1) (by omega) (by omega)
    have hform : loopF (granarylaw02_GfVandermonde_b2 300) (f + 1) (W, (i : Int), (j : Int)) = granarylaw02_GfVandermonde_b2 300 (loopF (granarylaw02_GfVandermonde_b2 300) f) (W, (i : Int), (j : Int)) := rfl
    rw [hform]
    clear hform
    generalize hnx : loopF (granarylaw02_GfVandermonde_b2 300) f = nx at *
    have z1 : (j : Int) < (i : Int) := by omega
    have z2 : (0 : Int) ≤ (j : Int) := by omega
    have z3 : (j : Int) < ((W.length : Nat) : Int) := by omega
    have z4 : (0 : Int) ≤ (i : Int) := by omega
    have z5 : (i : Int) < ((W.length : Nat) : Int) := by omega
    have b3 : j ≤ 1000000 := by omega
    unfold granarylaw02_GfVandermonde_b2
    dsimp only
    rw [dT z1, cond_true, dT z2, dT z3, Bool.and_self, cond_true, dT z4, dT z5, Bool.and_self, cond_true, Int.toNat_natCast, Int.toNat_natCast, wrap_succ b3]
    by_cases he : W.getD j (EK.dflt (.int .i64)) = W.getD i (EK.dflt (.int .i64))
    · rw [dT he, cond_true, live300v]
      exact .inl rfl
    · rw [dF he, cond_false]
      rcases h with h | ⟨h, h2⟩
      · exact .inl h
      · refine .inr ⟨h, fun k h3 h4 => ?_⟩
        by_cases hk : k = j
        · subst hk; exact he
        · exact h2 k (by omega) h4

theorem vand_out (W : List Int) {n : Nat} (hW : W.length = n) (hn : n ≤ 64) : ∀ (d f i : Nat), i + d = n → d < f →
    loopF (granarylaw02_GfVandermonde_b0 300) f (W, (i : Int)) = some (.inl true) ∨
      (loopF (granarylaw02_GfVandermonde_b0 300) f (W, (i : Int)) = some (.inr ()) ∧ ∀ k, i ≤ k → k < n → (0 ≤ W.getD k 0 ∧ W.getD k 0 < 64) ∧ ∀ j, j < k → W.getD j 0 ≠ W.getD k 0) := by
  intro d
  induction d with
  | zero =>
    intro f i hi hf
    obtain ⟨f, rfl⟩ : ∃ g, f = g + 1 := ⟨f - 1, by omega⟩
    refine .inr ⟨?_, fun k h1 h2 => by omega⟩
    show granarylaw02_GfVandermonde_b0 300 _ _ = _
    unfold granarylaw02_GfVandermonde_b0
    dsimp only
    rw [dF (show ¬ ((i : Int) < ((W.length : Nat) : Int)) by omega), cond_false]
  | succ d ih =>
    intro f i hi hf
    obtain ⟨f, rfl⟩ : ∃ g, f = g + 1 := ⟨f - 1, by omega⟩
    have h := ih f (i + 1) (by omega) (by omega)
    have hin := vand_in W hW hn (show i < n by omega) i 300 0 (by omega) (by omega)
    have hform : loopF (granarylaw02_GfVandermonde_b0 300) (f + 1) (W, (i : Int)) = granarylaw02_GfVandermonde_b0 300 (loopF (granarylaw02_GfVandermonde_b0 300) f) (W, (i : Int)) := rfl
    rw [hform]
    clear hform
    generalize hnx : loopF (granarylaw02_GfVandermonde_b0 300) f = nx at *
    have z1 : (i : Int) < ((W.length : Nat) : Int) := by omega
    have z2 : (0 : Int) ≤ (i : Int) := by omega
    have b3 : i ≤ 1000000 := by omega
    unfold granarylaw02_GfVandermonde_b0 granarylaw02_GfVandermonde_l2
    dsimp only
    rw [dT z1, cond_true, dT z2, Bool.and_self, cond_true, cond_true, Int.toNat_natCast, wrap_succ b3]
    by_cases h1 : W.getD i (EK.dflt (.int .i64)) < 0
    · rw [dT h1, cond_true, Option.bind_some, cond_true, live300v]
      exact .inl rfl
    rw [dF h1, cond_false, Option.bind_some]
    by_cases h2 : (64 : Int) ≤ W.getD i (EK.dflt (.int .i64))
    · rw [dT h2, cond_true, live300v]
      exact .inl rfl
    rw [dF h2, cond_false]
    rw [show ((0 : Nat) : Int) = 0 from rfl] at hin
    rcases hin with hin | ⟨hin, h3⟩
    · rw [hin]
      exact .inl rfl
    · rw [hin, Option.bind_some]
      dsimp only
      rcases h with h | ⟨h, h4⟩
      · exact .inl h
      · refine .inr ⟨h, fun k h5 h6 => ?_⟩
        by_cases hk : k = i
        · subst hk
          exact ⟨⟨Int.not_lt.1 h1, Int.not_le.1 h2⟩, fun j hj => h3 j (by omega) hj⟩
        · exact h4 k (by omega) h6

theorem vand_main {W : List Int} {n : Nat} (hW : W.length = n) (h1 : 1 ≤ n) (hn : n ≤ 16)
    (hl : granarylaw02_GfVandermonde_l0 300 (W, 0) = some (.inr ())) (hr : ∀ k, k < n → (0 ≤ W.getD k 0 ∧ W.getD k 0 < 64) ∧ ∀ j, j < k → W.getD j 0 ≠ W.getD k 0) :
    granarylaw02_GfVandermonde 300 W = some true := by
  obtain ⟨K, k1, k2⟩ := powers_ok (N := 300) (rows := 64) (cols := n) (by omega) (by omega) (by omega) h1 (by omega)
  have ht : ∀ i, i < n → W.getD i 0 = (((W.getD i 0).toNat : Nat) : Int) ∧ (W.getD i 0).toNat < 64 := fun i hi => by
    have := (hr i hi).1
    omega
  obtain ⟨R, r1, r2⟩ := rows_ok (N := 300) (t := fun i => (W.getD i 0).toNat) (by omega) (rows := 64) (cols := n) (n := n) (by omega) (by omega) h1 (by omega) h1 (by omega) k2 hW ht
  obtain ⟨q, e1, e2⟩ := rank_ok (N := 300) (by omega) h1 (by omega) h1 (by omega) r2
  have hq : q = n := by
    refine Lin.vand_full (pts := fun i => G.of (W.getD i 0).toNat) (fun i j hij hj heq => ?_) (fun i hi j hj => rfl) e2
    have a1 := ht i (by omega)
    have a2 := ht j hj
    have := congrArg G.n heq
    rw [G.of_n (by omega), G.of_n (by omega)] at this
    exact (hr j hj).2 i hij (by omega)
  subst hq
  obtain ⟨q2, g1, g2⟩ := inverse_ok (N := 300) (by omega) h1 (by omega) r2
  obtain rfl : q2 = q := g1.unique e2
  rcases g2 with ⟨g3, _⟩ | ⟨_, I, Im, g4, g5, g6⟩
  · omega
  obtain ⟨P, p1, p2⟩ := product_ok (N := 300) (by omega) h1 (by omega) h1 (by omega) h1 (by omega) r2 g5
  obtain ⟨U, u1, u2⟩ := identity_ok (N := 300) (n := q2) (by omega) h1 (by omega)
  obtain ⟨rr, s1, s2, _⟩ := identity_same (N := 300) (n := (q2 : Int)) (by omega)
  rw [u1] at s1
  cases s1
  have hPU : P = U := Is.ext p2 u2 g6.right
  subst hPU
  have hf : fits 8 W.length = true := by rw [hW]; simp [fits]; omega
  have z1 : ¬ (((W.length : Nat) : Int) < 1) := by omega
  have z2 : ¬ ((16 : Int) < ((W.length : Nat) : Int)) := by omega
  unfold granarylaw02_GfVandermonde
  rw [dF z1, cond_false, Option.bind_some, dF z2, cond_false, hl, Option.bind_some]
  dsimp only
  rw [show ((64 : Nat) : Int) = 64 from rfl] at k1 r1
  rw [hf, hW, k1, Option.bind_some, cond_true]
  dsimp only
  rw [r1, Option.bind_some]
  dsimp only
  rw [g4, Option.bind_some]
  dsimp only
  rw [p1, Option.bind_some, s2, Option.bind_some, e1, Option.bind_some]
  dsimp only
  have zs : decide (((q2 : Nat) : Int) = ((q2 : Nat) : Int)) = true := by simp
  repeat (first | rw [Option.bind_some] | rw [vnum] | rw [v00] | rw [cond_true] | rw [vsame] | rw [zs] | rw [live300v])

theorem gfVandermonde (x : EKs [(.sl (.int .i64))]) (hw : wfs [(.sl (.int .i64))] x) : ∃ N, granarylaw02_GfVandermonde N x = some true := by
  refine ⟨300, ?_⟩
  by_cases h1 : ((List.length (α := Int) x : Nat) : Int) < 1
  · unfold granarylaw02_GfVandermonde
    rw [dT h1, cond_true, Option.bind_some, cond_true, live300v]
    rfl
  by_cases h2 : (16 : Int) < ((List.length (α := Int) x : Nat) : Int)
  · unfold granarylaw02_GfVandermonde
    rw [dF h1, cond_false, Option.bind_some, dT h2, cond_true, live300v]
    rfl
  have ho := vand_out x rfl (by omega) (List.length (α := Int) x) 300 0 (by omega) (by omega)
  rw [show ((0 : Nat) : Int) = 0 from rfl] at ho
  rcases ho with ho | ⟨ho, hr⟩
  · unfold granarylaw02_GfVandermonde granarylaw02_GfVandermonde_l0
    rw [dF h1, cond_false, Option.bind_some, dF h2, cond_false, ho]
    rfl
  · exact vand_main rfl (by omega) (by omega) ho (fun k hk => hr k (by omega) hk)

end Go.Rf.W.Pure
