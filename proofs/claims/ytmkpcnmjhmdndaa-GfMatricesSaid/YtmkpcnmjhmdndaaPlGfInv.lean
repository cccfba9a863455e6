/-
  gf.Identity, gf.Inverse, gf.Turn, gf.Product: what they make.
-/
import Derived.Test.YtmkpcnmjhmdndaaPlGfClear1
set_option linter.unusedVariables false
set_option linter.unusedSimpArgs false
namespace Go.Rf.W
open Go Go.Rf Go.Rf.Lin

theorem id_loop {N n : Nat} (hn : n ≤ 64) : ∀ (d f i : Nat) (L : List Int) (A : Mt), i + d = n → d < f → Is n n L A →
    ∃ L', loopF (gf_Identity_b0 N) f ((n : Int), (i : Int), L, (n : Int), (n : Int)) = some (L', (n : Int), (n : Int)) ∧ Is n n L' (fun a b => if i ≤ a ∧ a = b then 1 else A a b) := by
  intro d
  induction d with
  | zero =>
    intro f i L A hi hf hI
    obtain ⟨f, rfl⟩ : ∃ g, f = g + 1 := ⟨f - 1, by omega⟩
    have : i = n := by omega
    subst this
    exact ⟨L, by simp [loopF, gf_Identity_b0], hI.congr (fun a ha b hb => by rw [if_neg (by omega)])⟩
  | succ d ih =>
    intro f i L A hi hf hI
    obtain ⟨f, rfl⟩ : ∃ g, f = g + 1 := ⟨f - 1, by omega⟩
    have hlt : i < n := by omega
    have hnn : n * n ≤ 4096 := mul_bd hn hn
    have hL := hI.len
    have hc := cell_lt hlt hlt
    have hs : Is n n (L.set (i + i * n) 1) _ := hI.set hlt hlt 1
    obtain ⟨L', e1, e2⟩ := ih f (i + 1) _ _ (by omega) (by omega) hs
    refine ⟨L', ?_, e2.congr (fun a ha b hb => ?_)⟩
    · rw [← e1]
      have d0 : decide ((i : Int) < (n : Int)) = true := by rw [decide_eq_true_eq]; omega
      have d1 : decide ((0 : Int) ≤ (i : Int)) = true := by simp
      have d2 : decide (i + i * n < L.length) = true := by rw [decide_eq_true_eq]; omega
      simp only [loopF, gf_Identity_b0, d0, cond_true, gf_row_eq (r := i) hlt hL (by omega) (by omega), Option.bind_some, d1, Bool.and_self, Int.toNat_natCast, d2, wrap_succ (a := i) (by omega)]
    · by_cases h1 : a = i
      · subst h1
        by_cases h2 : b = a
        · subst h2; simp
        · simp [h2, Ne.symm h2]
      · have : (i + 1 ≤ a) = (i ≤ a) := propext (by omega)
        simp [h1, this]

theorem identity_ok {N n : Nat} (hN : 100 ≤ N) (h1 : 1 ≤ n) (hn : n ≤ 64) : ∃ L, gf_Identity N (n : Int) = some ((n : Int), (n : Int), 0, L) ∧ Is n n L Lin.one := by
  have hnn : n * n ≤ 4096 := mul_bd hn hn
  obtain ⟨L', e1, e2⟩ := id_loop (N := N) hn n N 0 _ _ (by omega) (by omega) (Is.zeros n n)
  have e0 : ((0 : Nat) : Int) = 0 := rfl
  rw [e0] at e1
  have d1 : decide ((1 : Int) ≤ (n : Int) ∧ (n : Int) ≤ 64) = true := by rw [decide_eq_true_eq]; omega
  refine ⟨L', ?_, e2.congr (fun a ha b hb => by simp [Lin.one])⟩
  simp only [gf_Identity, side_eq, Option.bind_some, d1, Bool.not_true, cond_false, zeros_eq hnn, gf_Identity_l0, e1]

/-- gf.Inverse: the inverse, if the rank is full. -/
theorem inverse_ok {N : Nat} (hN : 100 ≤ N) {n : Nat} {L : List Int} {A : Mt} (h1 : 1 ≤ n) (h2 : n ≤ 64) (hI : Is n n L A) :
    ∃ r : Nat, IsRank n n A r ∧ ((r < n ∧ gf_Inverse N ((n : Int), (n : Int), L) = some (0, 0, 22, [])) ∨
      (r = n ∧ ∃ L' I, gf_Inverse N ((n : Int), (n : Int), L) = some ((n : Int), (n : Int), 0, L') ∧ Is n n L' I ∧ IsInv n A I)) := by
  obtain ⟨M, m1, m2⟩ := identity_ok (N := N) hN h1 h2
  obtain ⟨r, L', M', A', B', T, T', p, e1, e2, e3, e4, e5, e6, e7⟩ := clear_loop (N := N) hN h2 h2 h2 A Lin.one n N 0 0 L M A Lin.one _ _ _ (by omega) (by omega) hI m2 (Acts.id n) (Lin.Same.refl _ _ _) (Lin.Same.refl _ _ _) (Lin.Stepped.zero n A)
  have e0 : ((0 : Nat) : Int) = 0 := rfl
  rw [e0] at e1
  have hown := own_ok h1 h2 h1 h2 hI.len
  refine ⟨r, e7.rank e4 e5, ?_⟩
  have hle := e7.le
  rcases Nat.lt_or_ge r n with h | h
  · refine .inl ⟨h, ?_⟩
    have z : (r : Int) < (n : Int) := by omega
    simp only [gf_Inverse, check_ok h1 h2 h1 h2 hI.len, Option.bind_some, decide_true, Bool.not_true, cond_false, m1, hown, gf_clear2, gf_clear2_l0, e1, dT z, cond_true]
  · have hr : r = n := by omega
    subst hr
    refine .inr ⟨rfl, M', B', ?_, e3, e7.inv e4 e5 e6⟩
    have z : ¬ ((r : Int) < (r : Int)) := by omega
    simp only [gf_Inverse, check_ok h1 h2 h1 h2 hI.len, Option.bind_some, decide_true, Bool.not_true, cond_false, m1, hown, gf_clear2, gf_clear2_l0, e1, dF z]

theorem inverse_side {N : Nat} {m n : Nat} {L : List Int} (h1 : 1 ≤ m) (h2 : m ≤ 64) (h3 : 1 ≤ n) (h4 : n ≤ 64) (hl : L.length = m * n) (hne : m ≠ n) :
    gf_Inverse N ((m : Int), (n : Int), L) = some (0, 0, 23, []) := by
  have z : ¬ ((m : Int) = (n : Int)) := by omega
  simp only [gf_Inverse, check_ok h1 h2 h3 h4 hl, Option.bind_some, decide_true, Bool.not_true, cond_false, dF z, Bool.not_false, cond_true]

theorem row1_eq {rows cols r : Nat} {L : List Int} (hr : r < rows) (hL : L.length = rows * cols) (hb : rows * cols ≤ 1000000) (hc : rows ≤ 1000000) :
    gf_row_v1 ((rows : Int), (cols : Int), L, (r : Int)) = some (List.take cols (List.drop (r * cols) L)) := by
  have h1 : (r + 1) * cols ≤ rows * cols := Nat.mul_le_mul_right _ hr
  have h2 : (r + 1) * cols = r * cols + cols := by rw [Nat.add_mul, Nat.one_mul]
  have e1 : wrapF .i64 ((r : Int) * (cols : Int)) = ((r * cols : Nat) : Int) := wrap_mul (by omega)
  have e2 : wrapF .i64 ((r : Int) + 1) = ((r + 1 : Nat) : Int) := wrap_succ (by omega)
  have e3 : wrapF .i64 (((r + 1 : Nat) : Int) * (cols : Int)) = (((r + 1) * cols : Nat) : Int) := wrap_mul (by omega)
  simp only [gf_row_v1, e1, e2, e3, hL]
  have d1 : decide ((0 : Int) ≤ ((r * cols : Nat) : Int)) = true := by rw [decide_eq_true_eq]; omega
  have d2 : decide (((r * cols : Nat) : Int) ≤ (((r + 1) * cols : Nat) : Int)) = true := by rw [decide_eq_true_eq]; omega
  have d3 : decide ((((r + 1) * cols : Nat) : Int) ≤ (((r + 1) * cols : Nat) : Int)) = true := by simp
  have d4 : decide ((((r + 1) * cols : Nat) : Int) ≤ ((rows * cols : Nat) : Int)) = true := by rw [decide_eq_true_eq]; omega
  rw [d1, d2, d3, d4]
  simp only [Bool.and_self, cond_true, Int.toNat_natCast]
  have : (r + 1) * cols - r * cols = cols := by omega
  rw [this]

theorem turn_in {N : Nat} {rows cols r : Nat} (h2 : rows ≤ 64) (h4 : cols ≤ 64) (hr : r < rows) {V : List Int} {v : Mt} (hV : Is 1 cols V v) (a2 a3 : Int) :
    ∀ (d f c : Nat) (L : List Int) (B : Mt), c + d = cols → d < f → Is cols rows L B →
      ∃ L', loopF (gf_Turn_b2 N) f ((r : Int), a2, a3, V, (cols : Int), (c : Int), L, (cols : Int), (rows : Int)) = some (L', (cols : Int), (rows : Int)) ∧
        Is cols rows L' (fun a b => if c ≤ a ∧ b = r then v 0 a else B a b) := by
  have hb : cols * rows ≤ 4096 := mul_bd h4 h2
  intro d
  induction d with
  | zero =>
    intro f c L B hc hf hI
    obtain ⟨f, rfl⟩ : ∃ g, f = g + 1 := ⟨f - 1, by omega⟩
    have : c = cols := by omega
    subst this
    exact ⟨L, by simp [loopF, gf_Turn_b2], hI.congr (fun a ha b hb => by rw [if_neg (by omega)])⟩
  | succ d ih =>
    intro f c L B hc hf hI
    obtain ⟨f, rfl⟩ : ∃ g, f = g + 1 := ⟨f - 1, by omega⟩
    have hlt : c < cols := by omega
    have hL := hI.len
    have hl2 := hV.len
    have hcl := cell_lt hlt hr
    have hg := hV.get 0 (by omega) c hlt
    rw [Nat.zero_mul, Nat.add_zero] at hg
    obtain ⟨L', e1, e2⟩ := ih f (c + 1) _ _ (by omega) (by omega) (hI.set hlt hr (v 0 c))
    refine ⟨L', ?_, e2.congr (fun a ha b hb => ?_)⟩
    · rw [← e1]
      have z1 : (c : Int) < (cols : Int) := by omega
      have z2 : (0 : Int) ≤ (c : Int) := by omega
      have z3 : (c : Int) < ((V.length : Nat) : Int) := by omega
      have z4 : (0 : Int) ≤ (r : Int) := by omega
      have z5 : (r : Int) < (rows : Int) := by omega
      have z6 : r + c * rows < L.length := by omega
      have b3 : c ≤ 1000000 := by omega
      have hg' : List.getD V c (EK.dflt (.int .u8)) = ((v 0 c).n : Int) := hg
      have hrow := gf_row_eq (r := c) hlt hL (by omega) (by omega)
      show gf_Turn_b2 N (loopF (gf_Turn_b2 N) f) _ = _
      unfold gf_Turn_b2
      dsimp only
      rw [dT z1, cond_true, dT z2, dT z3, Bool.and_self, cond_true, hrow, Option.bind_some]
      dsimp only
      rw [dT z4, dT z5, Bool.and_self, cond_true, Int.toNat_natCast, dT z6, cond_true, Int.toNat_natCast, hg', wrap_succ b3]
    · by_cases h1 : a = c
      · subst h1
        by_cases h2 : b = r
        · subst h2; simp
        · simp [h2]
      · have : (c + 1 ≤ a) = (c ≤ a) := propext (by omega)
        simp [h1, this]

theorem turn_out {N : Nat} (hN : 100 ≤ N) {rows cols : Nat} (h2 : rows ≤ 64) (h4 : cols ≤ 64) {K : List Int} {A : Mt} (hK : Is rows cols K A) :
    ∀ (d f r : Nat) (L : List Int) (B : Mt), r + d = rows → d < f → Is cols rows L B →
      ∃ L', loopF (gf_Turn_b0 N) f ((rows : Int), (r : Int), (rows : Int), (cols : Int), K, L, (cols : Int), (rows : Int)) = some ((rows : Int), (cols : Int), K, L', (cols : Int), (rows : Int)) ∧
        Is cols rows L' (fun a b => if r ≤ b then A b a else B a b) := by
  have hb : rows * cols ≤ 4096 := mul_bd h2 h4
  intro d
  induction d with
  | zero =>
    intro f r L B hc hf hI
    obtain ⟨f, rfl⟩ : ∃ g, f = g + 1 := ⟨f - 1, by omega⟩
    have : r = rows := by omega
    subst this
    exact ⟨L, by simp [loopF, gf_Turn_b0], hI.congr (fun a ha b hb => by rw [if_neg (by omega)])⟩
  | succ d ih =>
    intro f r L B hc hf hI
    obtain ⟨f, rfl⟩ : ∃ g, f = g + 1 := ⟨f - 1, by omega⟩
    have hlt : r < rows := by omega
    have hV := hK.row hlt
    have hl2 := hV.len
    rw [Nat.one_mul] at hl2
    obtain ⟨L1, p1, p2⟩ := turn_in (N := N) h2 h4 hlt hV (rows : Int) (r : Int) cols N 0 L B (by omega) (by omega) hI
    have e0 : ((0 : Nat) : Int) = 0 := rfl
    rw [e0] at p1
    obtain ⟨L', e1, e2⟩ := ih f (r + 1) L1 _ (by omega) (by omega) p2
    refine ⟨L', ?_, e2.congr (fun a ha b hb => ?_)⟩
    · rw [← e1]
      have z1 : (r : Int) < (rows : Int) := by omega
      have b3 : r ≤ 1000000 := by omega
      have hrow := row1_eq (r := r) hlt hK.len (by omega) (by omega)
      show gf_Turn_b0 N (loopF (gf_Turn_b0 N) f) _ = _
      unfold gf_Turn_b0
      dsimp only
      rw [dT z1, cond_true, hrow, Option.bind_some, hl2, gf_Turn_l2, p1, Option.bind_some, wrap_succ b3]
    · by_cases h1 : b = r
      · subst h1; simp [Nat.not_le.2 (Nat.lt_succ_self b)]
      · have : (r + 1 ≤ b) = (r ≤ b) := propext (by omega)
        simp [h1, this]

/-- gf.Turn: rows and columns exchanged. -/
theorem turn_ok {N : Nat} (hN : 100 ≤ N) {rows cols : Nat} {L : List Int} {A : Mt} (h1 : 1 ≤ rows) (h2 : rows ≤ 64) (h3 : 1 ≤ cols) (h4 : cols ≤ 64) (hI : Is rows cols L A) :
    ∃ L', gf_Turn N ((rows : Int), (cols : Int), L) = some ((cols : Int), (rows : Int), 0, L') ∧ Is cols rows L' (tr A) := by
  have hb : cols * rows ≤ 4096 := mul_bd h4 h2
  obtain ⟨L', e1, e2⟩ := turn_out (N := N) hN h2 h4 hI rows N 0 _ _ (by omega) (by omega) (Is.zeros cols rows)
  have e0 : ((0 : Nat) : Int) = 0 := rfl
  rw [e0] at e1
  refine ⟨L', ?_, e2.congr (fun a ha b hb => by simp [tr])⟩
  simp only [gf_Turn, check_ok h1 h2 h3 h4 hI.len, Option.bind_some, decide_true, Bool.not_true, cond_false, zeros_eq hb, gf_Turn_l0, e1]

end Go.Rf.W
