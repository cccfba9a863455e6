/-
  Rows of matrices in the printed functions.
-/
import Derived.Test.YtmkpcnmjhmdndaaPlGfLog
set_option linter.unusedVariables false
set_option linter.unusedSimpArgs false
namespace Go.Rf.W
open Go Go.Rf Go.Rf.Gf

theorem wrap_nat {n : Nat} (h : n < 9223372036854775808) : wrapF .i64 (n : Int) = (n : Int) := wrapF_i64 (by omega) (by omega)

theorem wrap_mul {a b : Nat} (h : a * b ≤ 1000000) : wrapF .i64 ((a : Int) * (b : Int)) = ((a * b : Nat) : Int) := by
  rw [← Int.natCast_mul]; exact wrap_nat (by omega)

theorem wrap_succ {a : Nat} (h : a ≤ 1000000) : wrapF .i64 ((a : Int) + 1) = ((a + 1 : Nat) : Int) := by
  rw [wrapF_i64 (by omega) (by omega)]; omega

theorem wrap_add2 {p k : Nat} (h : k + p ≤ 1000000) : wrapF .i64 ((p : Int) + (k : Int)) = ((k + p : Nat) : Int) := by
  rw [wrapF_i64 (by omega) (by omega)]; omega

theorem mul_bd {a b m n : Nat} (ha : a ≤ m) (hb : b ≤ n) : a * b ≤ m * n := Nat.mul_le_mul ha hb

theorem gf_row_eq {rows cols r : Nat} {L : List Int} (hr : r < rows) (hL : L.length = rows * cols) (hb : rows * cols ≤ 1000000) (hc : rows ≤ 1000000) :
    gf_row ((rows : Int), (cols : Int), (r : Int), L) = some (r * cols, cols, L) := by
  have h1 : (r + 1) * cols ≤ rows * cols := Nat.mul_le_mul_right _ hr
  have h2 : (r + 1) * cols = r * cols + cols := by rw [Nat.add_mul, Nat.one_mul]
  have e1 : wrapF .i64 ((r : Int) * (cols : Int)) = ((r * cols : Nat) : Int) := wrap_mul (by omega)
  have e2 : wrapF .i64 ((r : Int) + 1) = ((r + 1 : Nat) : Int) := wrap_succ (by omega)
  have e3 : wrapF .i64 (((r + 1 : Nat) : Int) * (cols : Int)) = (((r + 1) * cols : Nat) : Int) := wrap_mul (by omega)
  simp only [gf_row, e1, e2, e3, hL]
  have d1 : decide ((0 : Int) ≤ ((r * cols : Nat) : Int)) = true := by rw [decide_eq_true_eq]; omega
  have d2 : decide (((r * cols : Nat) : Int) ≤ (((r + 1) * cols : Nat) : Int)) = true := by rw [decide_eq_true_eq]; omega
  have d3 : decide ((((r + 1) * cols : Nat) : Int) ≤ (((r + 1) * cols : Nat) : Int)) = true := by simp
  have d4 : decide ((((r + 1) * cols : Nat) : Int) ≤ ((rows * cols : Nat) : Int)) = true := by rw [decide_eq_true_eq]; omega
  rw [d1, d2, d3, d4]
  simp only [Bool.and_self, cond_true, Int.toNat_natCast]
  have : (r + 1) * cols - r * cols = cols := by omega
  rw [this]

theorem side_eq (n : Int) : gf_side n = some (decide (1 ≤ n ∧ n ≤ 64)) := by
  unfold gf_side
  by_cases h1 : (1 : Int) ≤ n <;> by_cases h2 : n ≤ 64 <;> simp [h1, h2]

theorem zeros_eq {a b : Nat} (h : a * b ≤ 4096) : gf_zeros ((a : Int), (b : Int)) = some ((a : Int), (b : Int), List.replicate (a * b) 0) := by
  have e1 : wrapF .i64 ((a : Int) * (b : Int)) = ((a * b : Nat) : Int) := wrap_mul (by omega)
  have e2 : fits 1 (a * b) = true := by simp [fits]; omega
  have d1 : decide ((0 : Int) ≤ ((a * b : Nat) : Int)) = true := by rw [decide_eq_true_eq]; omega
  simp only [gf_zeros, e1, Int.toNat_natCast, e2, d1, Bool.and_self, cond_true, EK.dflt]

theorem refNew_eq {a b : Nat} (h : a * b ≤ 4096) : granaryref02_New ((a : Int), (b : Int)) = some ((a : Int), (b : Int), List.replicate (a * b) 0) := by
  have e1 : wrapF .i64 ((a : Int) * (b : Int)) = ((a * b : Nat) : Int) := wrap_mul (by omega)
  have e2 : fits 1 (a * b) = true := by simp [fits]; omega
  have d1 : decide ((0 : Int) ≤ ((a * b : Nat) : Int)) = true := by rw [decide_eq_true_eq]; omega
  simp only [granaryref02_New, e1, Int.toNat_natCast, e2, d1, Bool.and_self, cond_true, EK.dflt]

/-- An identity's rows, from one on. -/
theorem identity_loops (N : Nat) : ∀ (k f g n i : Nat) (L : List Int), i + k = n → n ≤ 64 → L.length = n * n → k < f → k < g →
    ∃ L', L'.length = n * n ∧ loopF (gf_Identity_b0 N) f ((n : Int), (i : Int), L, (n : Int), (n : Int)) = some (L', (n : Int), (n : Int)) ∧
      loopF (granaryref02_Identity_b0 N) g ((n : Int), (i : Int), L, (n : Int), (n : Int)) = some (L', (n : Int), (n : Int))
  | k, 0, g, n, i, L, _, _, _, h, _ => by omega
  | k, f, 0, n, i, L, _, _, _, _, h => by omega
  | 0, f + 1, g + 1, n, i, L, hi, hn, hL, _, _ => by
    have : i = n := by omega
    subst this
    exact ⟨L, hL, by simp [loopF, gf_Identity_b0], by simp [loopF, granaryref02_Identity_b0]⟩
  | k + 1, f + 1, g + 1, n, i, L, hi, hn, hL, hf, hg => by
    have hlt : i < n := by omega
    have hnn : n * n ≤ 4096 := mul_bd hn hn
    have hin : (i + 1) * n ≤ n * n := Nat.mul_le_mul_right _ hlt
    have hin2 : (i + 1) * n = i * n + n := by rw [Nat.add_mul, Nat.one_mul]
    obtain ⟨L', h1, h2, h3⟩ := identity_loops N k f g n (i + 1) (L.set (i + i * n) 1) (by omega) hn (by simp [hL]) (by omega) (by omega)
    refine ⟨L', h1, ?_, ?_⟩
    · rw [← h2]
      have d0 : decide ((i : Int) < (n : Int)) = true := by rw [decide_eq_true_eq]; omega
      have d1 : decide ((0 : Int) ≤ (i : Int)) = true := by simp
      have d2 : decide (i + i * n < L.length) = true := by rw [decide_eq_true_eq]; omega
      simp only [loopF, gf_Identity_b0, d0, cond_true, gf_row_eq (r := i) hlt hL (by omega) (by omega), Option.bind_some, d1, Bool.and_self, Int.toNat_natCast, d2, wrap_succ (a := i) (by omega)]
    · rw [← h3]
      have d0 : decide ((i : Int) < (n : Int)) = true := by rw [decide_eq_true_eq]; omega
      have d1 : decide ((0 : Int) ≤ ((i + i * n : Nat) : Int)) = true := by rw [decide_eq_true_eq]; omega
      have d2 : decide (((i + i * n : Nat) : Int) < ((L.length : Nat) : Int)) = true := by rw [decide_eq_true_eq]; omega
      have d3 : decide (i + i * n < L.length) = true := by rw [decide_eq_true_eq]; omega
      have b1 : i * n ≤ 1000000 := by omega
      have b2 : i + i * n ≤ 1000000 := by omega
      have b3 : i ≤ 1000000 := by omega
      have e1 : wrapF .i64 ((i : Int) * (n : Int)) = ((i * n : Nat) : Int) := wrap_mul b1
      have e2 : wrapF .i64 (((i * n : Nat) : Int) + (i : Int)) = ((i + i * n : Nat) : Int) := wrap_add2 b2
      simp only [loopF, granaryref02_Identity_b0, d0, cond_true, e1, e2, d1, d2, Bool.and_self, Int.toNat_natCast, d3, wrap_succ b3]

theorem identity_same {N : Nat} {n : Int} (hN : 100 < N) : ∃ r, gf_Identity N n = some r ∧ granaryref02_Identity N n = some r ∧
    (¬ (1 ≤ n ∧ n ≤ 64) → r = (0, 0, 2, [])) ∧ (∀ m : Nat, n = m → 1 ≤ m → m ≤ 64 → ∃ L : List Int, L.length = m * m ∧ r = ((m : Int), (m : Int), 0, L)) := by
  by_cases h : 1 ≤ n ∧ n ≤ 64
  · obtain ⟨m, rfl⟩ : ∃ m : Nat, n = m := ⟨n.toNat, by omega⟩
    have hm : 1 ≤ m ∧ m ≤ 64 := by omega
    have hmm : m * m ≤ 4096 := mul_bd hm.2 hm.2
    obtain ⟨L', h1, h2, h3⟩ := identity_loops N m N N m 0 (List.replicate (m * m) 0) (by omega) hm.2 (by simp) (by omega) (by omega)
    refine ⟨((m : Int), (m : Int), 0, L'), ?_, ?_, fun h' => absurd h h', fun m' e a b => ⟨L', by rw [show m' = m by omega]; exact h1, by rw [show m' = m by omega]⟩⟩
    · have e0 : ((0 : Nat) : Int) = 0 := rfl
      rw [e0] at h2
      simp only [gf_Identity, side_eq, Option.bind_some, h, and_self, decide_true, Bool.not_true, cond_false, zeros_eq hmm, gf_Identity_l0, h2]
    · have e0 : ((0 : Nat) : Int) = 0 := rfl
      rw [e0] at h3
      have d1 : decide ((m : Int) < 1) = false := by rw [decide_eq_false_iff_not]; omega
      have d2 : decide ((64 : Int) < (m : Int)) = false := by rw [decide_eq_false_iff_not]; omega
      simp only [granaryref02_Identity, d1, d2, cond_false, Option.bind_some, refNew_eq hmm, granaryref02_Identity_l0, h3]
  · refine ⟨(0, 0, 2, []), ?_, ?_, fun _ => rfl, fun m e a b => absurd ⟨by omega, by omega⟩ h⟩
    · simp [gf_Identity, side_eq, h]
    · by_cases h1 : n < 1
      · simp [granaryref02_Identity, h1]
      · have h2 : (64 : Int) < n := by omega
        simp [granaryref02_Identity, h1, h2]

/-- One row of powers. -/
theorem powers_row {N : Nat} (hN : 300 ≤ N) : ∀ (k f g rows cols r c : Nat) (L : List Int), c + k = cols → cols ≤ 64 → rows ≤ 64 → r < rows → L.length = rows * cols → k < f → k < g →
    ∃ L', L'.length = rows * cols ∧
      (∀ a b d e : Int, loopF (gf_Powers_b2 N) f (a, (r : Int), b, d, (cols : Int), (c : Int), L, (rows : Int), (cols : Int)) = some (L', (rows : Int), (cols : Int))) ∧
      (∀ a : Int, loopF (granaryref02_Powers_b2 N) g (a, (cols : Int), (r : Int), (c : Int), L, (rows : Int), (cols : Int)) = some (L', (rows : Int), (cols : Int)))
  | k, 0, g, rows, cols, r, c, L, _, _, _, _, _, h, _ => by omega
  | k, f, 0, rows, cols, r, c, L, _, _, _, _, _, _, h => by omega
  | 0, f + 1, g + 1, rows, cols, r, c, L, hc, _, _, hr, hL, _, _ => by
    have : c = cols := by omega
    subst this
    exact ⟨L, hL, fun _ _ _ _ => by simp [loopF, gf_Powers_b2], fun _ => by simp [loopF, granaryref02_Powers_b2]⟩
  | k + 1, f + 1, g + 1, rows, cols, r, c, L, hc, hcols, hrows, hr, hL, hf, hg => by
    have hnn : rows * cols ≤ 4096 := mul_bd hrows hcols
    have hin : (r + 1) * cols ≤ rows * cols := Nat.mul_le_mul_right _ hr
    have hin2 : (r + 1) * cols = r * cols + cols := by rw [Nat.add_mul, Nat.one_mul]
    have hw : wrapF .u8 (r : Int) = (r : Int) := wrapF_u8 (by omega) (by omega)
    have p1 := gf_Pow_eq (N := N) (a := r) (n := (c : Int)) (by omega) (by omega) (by omega) (by omega)
    have p2 := refPow_eq (N := N) (a := r) (n := (c : Int)) (by omega) (by omega) (by omega) (by omega)
    generalize (if r = 0 then (if (c : Int) = 0 then (1 : Int) else 0) else ((Gf.pow r ((c : Int) % 255).toNat : Nat) : Int)) = v at p1 p2
    obtain ⟨L', h1, h2, h3⟩ := powers_row hN k f g rows cols r (c + 1) (L.set (c + r * cols) v) (by omega) hcols hrows hr (by simp [hL]) (by omega) (by omega)
    have d0 : decide ((c : Int) < (cols : Int)) = true := by rw [decide_eq_true_eq]; omega
    refine ⟨L', h1, fun a b d e => ?_, fun a => ?_⟩
    · rw [← h2 a b d e]
      have d1 : decide ((0 : Int) ≤ (c : Int)) = true := by simp
      have d2 : decide (c + r * cols < L.length) = true := by rw [decide_eq_true_eq]; omega
      simp only [loopF, gf_Powers_b2, d0, cond_true, gf_row_eq (r := r) hr hL (by omega) (by omega), Option.bind_some, hw, p1, d1, Bool.and_self, Int.toNat_natCast, d2, wrap_succ (a := c) (by omega)]
    · rw [← h3 a]
      have d1 : decide ((0 : Int) ≤ ((c + r * cols : Nat) : Int)) = true := by rw [decide_eq_true_eq]; omega
      have d2 : decide (((c + r * cols : Nat) : Int) < ((L.length : Nat) : Int)) = true := by rw [decide_eq_true_eq]; omega
      have d3 : decide (c + r * cols < L.length) = true := by rw [decide_eq_true_eq]; omega
      have b1 : r * cols ≤ 1000000 := by omega
      have b2 : c + r * cols ≤ 1000000 := by omega
      have b3 : c ≤ 1000000 := by omega
      have e1 : wrapF .i64 ((r : Int) * (cols : Int)) = ((r * cols : Nat) : Int) := wrap_mul b1
      have e2 : wrapF .i64 (((r * cols : Nat) : Int) + (c : Int)) = ((c + r * cols : Nat) : Int) := wrap_add2 b2
      simp only [loopF, granaryref02_Powers_b2, d0, cond_true, e1, e2, hw, p2, Option.bind_some, d1, d2, Bool.and_self, Int.toNat_natCast, d3, wrap_succ b3]

theorem powers_rows {N : Nat} (hN : 300 ≤ N) : ∀ (k f g rows cols r : Nat) (L : List Int), r + k = rows → cols ≤ 64 → rows ≤ 64 → L.length = rows * cols → k < f → k < g →
    ∃ L', L'.length = rows * cols ∧ loopF (gf_Powers_b0 N) f ((cols : Int), (rows : Int), (r : Int), L, (rows : Int), (cols : Int)) = some (L', (rows : Int), (cols : Int)) ∧
      loopF (granaryref02_Powers_b0 N) g ((rows : Int), (cols : Int), (r : Int), L, (rows : Int), (cols : Int)) = some (L', (rows : Int), (cols : Int))
  | k, 0, g, rows, cols, r, L, _, _, _, _, h, _ => by omega
  | k, f, 0, rows, cols, r, L, _, _, _, _, _, h => by omega
  | 0, f + 1, g + 1, rows, cols, r, L, hr, _, _, hL, _, _ => by
    have : r = rows := by omega
    subst this
    exact ⟨L, hL, by simp [loopF, gf_Powers_b0], by simp [loopF, granaryref02_Powers_b0]⟩
  | k + 1, f + 1, g + 1, rows, cols, r, L, hr, hcols, hrows, hL, hf, hg => by
    have hlt : r < rows := by omega
    obtain ⟨L1, q1, q2, q3⟩ := powers_row hN cols N N rows cols r 0 L (by omega) hcols hrows hlt hL (by omega) (by omega)
    obtain ⟨L', h1, h2, h3⟩ := powers_rows hN k f g rows cols (r + 1) L1 (by omega) hcols hrows q1 (by omega) (by omega)
    have d0 : decide ((r : Int) < (rows : Int)) = true := by rw [decide_eq_true_eq]; omega
    have e0 : ((0 : Nat) : Int) = 0 := rfl
    refine ⟨L', h1, ?_, ?_⟩
    · rw [← h2]
      have := q2 (cols : Int) (rows : Int) (r : Int) 0
      rw [e0] at this
      simp only [loopF, gf_Powers_b0, d0, cond_true, gf_Powers_l2, this, Option.bind_some, wrap_succ (a := r) (by omega)]
    · rw [← h3]
      have := q3 (rows : Int)
      rw [e0] at this
      simp only [loopF, granaryref02_Powers_b0, d0, cond_true, granaryref02_Powers_l2, this, Option.bind_some, wrap_succ (a := r) (by omega)]

theorem powers_same {N : Nat} {m n : Int} (hN : 300 ≤ N) : ∃ r, gf_Powers N (m, n) = some r ∧ granaryref02_Powers N (m, n) = some r := by
  by_cases h : (1 ≤ m ∧ m ≤ 64) ∧ (1 ≤ n ∧ n ≤ 64)
  · obtain ⟨h1, h2⟩ := h
    obtain ⟨a, rfl⟩ : ∃ a : Nat, m = a := ⟨m.toNat, by omega⟩
    obtain ⟨b, rfl⟩ : ∃ b : Nat, n = b := ⟨n.toNat, by omega⟩
    have hab : a * b ≤ 4096 := mul_bd (by omega : a ≤ 64) (by omega : b ≤ 64)
    obtain ⟨L', q1, q2, q3⟩ := powers_rows hN a N N a b 0 (List.replicate (a * b) 0) (by omega) (by omega) (by omega) (by simp) (by omega) (by omega)
    have e0 : ((0 : Nat) : Int) = 0 := rfl
    rw [e0] at q2 q3
    refine ⟨((a : Int), (b : Int), 0, L'), ?_, ?_⟩
    · simp only [gf_Powers, side_eq, Option.bind_some, h1, h2, and_self, decide_true, Bool.not_true, cond_false, zeros_eq hab, gf_Powers_l0, q2]
    · have d1 : decide ((a : Int) < 1) = false := by rw [decide_eq_false_iff_not]; omega
      have d2 : decide ((64 : Int) < (a : Int)) = false := by rw [decide_eq_false_iff_not]; omega
      have d3 : decide ((b : Int) < 1) = false := by rw [decide_eq_false_iff_not]; omega
      have d4 : decide ((64 : Int) < (b : Int)) = false := by rw [decide_eq_false_iff_not]; omega
      simp only [granaryref02_Powers, d1, d2, d3, d4, cond_false, Option.bind_some, refNew_eq hab, granaryref02_Powers_l0, q3]
  · refine ⟨(0, 0, 2, []), ?_, ?_⟩
    · by_cases h1 : 1 ≤ m ∧ m ≤ 64
      · have h2 : ¬ (1 ≤ n ∧ n ≤ 64) := fun h2 => h ⟨h1, h2⟩
        simp [gf_Powers, side_eq, h1, h2]
      · simp [gf_Powers, side_eq, h1]
    · by_cases h1 : m < 1
      · simp [granaryref02_Powers, h1]
      · by_cases h2 : (64 : Int) < m
        · simp [granaryref02_Powers, h1, h2]
        · by_cases h3 : n < 1
          · simp [granaryref02_Powers, h1, h2, h3]
          · have h4 : (64 : Int) < n := by
              rcases Int.lt_or_le 64 n with h4 | h4
              · exact h4
              · exact absurd ⟨⟨by omega, by omega⟩, ⟨by omega, by omega⟩⟩ h
            simp [granaryref02_Powers, h1, h2, h3, h4]

theorem same_refl (r : Int × Int × Int × List Int) : granarylaw02_same (r.1, r.2.1, r.2.2.2, r.2.2.1, r.1, r.2.1, r.2.2.2, r.2.2.1) = some true := by
  simp [granarylaw02_same, granaryref02_Same_v1, granarylaw02_num]

end Go.Rf.W
