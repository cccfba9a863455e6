/-
  Matrices in the printed functions (package rs's forms): cells, rows, steps, inverses.
-/
import Derived.Test.YtoabbnfjnjbjfaaPlRsLog
import Derived.Test.YtoabbnfjnjbjfaaPlRank
set_option linter.unusedVariables false
set_option linter.unusedSimpArgs false
namespace Go.Rf.W
open Go Go.Rf Go.Rf.Lin
theorem wrap_nat {n : Nat} (h : n < 9223372036854775808) : wrapF .i64 (n : Int) = (n : Int) := wrapF_i64 (by omega) (by omega)

theorem wrap_mul {a b : Nat} (h : a * b ≤ 1000000) : wrapF .i64 ((a : Int) * (b : Int)) = ((a * b : Nat) : Int) := by
  rw [← Int.natCast_mul]; exact wrap_nat (by omega)

theorem wrap_succ {a : Nat} (h : a ≤ 1000000) : wrapF .i64 ((a : Int) + 1) = ((a + 1 : Nat) : Int) := by
  rw [wrapF_i64 (by omega) (by omega)]; omega

theorem wrap_add2 {p k : Nat} (h : k + p ≤ 1000000) : wrapF .i64 ((p : Int) + (k : Int)) = ((k + p : Nat) : Int) := by
  rw [wrapF_i64 (by omega) (by omega)]; omega

theorem mul_bd {a b m n : Nat} (ha : a ≤ m) (hb : b ≤ n) : a * b ≤ m * n := Nat.mul_le_mul ha hb

theorem gf_row_eq {rows cols r : Nat} {L : List Int} (hr : r < rows) (hL : L.length = rows * cols) (hb : rows * cols ≤ 1000000) (hc : rows ≤ 1000000) :
    gf_row ((rows : Int), (cols : Int), (r : Int), L) = some (r * cols, cols, L) := by
  have h1 : (r + 1) * cols ≤ rows * cols := Nat.mul_le_mul_right _ hr
  have h2 : (r + 1) * cols = r * cols + cols := by rw [Nat.add_mul, Nat.one_mul]
  have e1 : wrapF .i64 ((r : Int) * (cols : Int)) = ((r * cols : Nat) : Int) := wrap_mul (by omega)
  have e2 : wrapF .i64 ((r : Int) + 1) = ((r + 1 : Nat) : Int) := wrap_succ (by omega)
  have e3 : wrapF .i64 (((r + 1 : Nat) : Int) * (cols : Int)) = (((r + 1) * cols : Nat) : Int) := wrap_mul (by omega)
  simp only [gf_row, e1, e2, e3, hL]
  have d1 : decide ((0 : Int) ≤ ((r * cols : Nat) : Int)) = true := by rw [decide_eq_true_eq]; omega
  have d2 : decide (((r * cols : Nat) : Int) ≤ (((r + 1) * cols : Nat) : Int)) = true := by rw [decide_eq_true_eq]; omega
  have d3 : decide ((((r + 1) * cols : Nat) : Int) ≤ (((r + 1) * cols : Nat) : Int)) = true := by simp
  have d4 : decide ((((r + 1) * cols : Nat) : Int) ≤ ((rows * cols : Nat) : Int)) = true := by rw [decide_eq_true_eq]; omega
  rw [d1, d2, d3, d4]
  simp only [Bool.and_self, cond_true, Int.toNat_natCast]
  have : (r + 1) * cols - r * cols = cols := by omega
  rw [this]

theorem side_eq (n : Int) : gf_side n = some (decide (1 ≤ n ∧ n ≤ 64)) := by
  unfold gf_side
  by_cases h1 : (1 : Int) ≤ n <;> by_cases h2 : n ≤ 64 <;> simp [h1, h2]

theorem zeros_eq {a b : Nat} (h : a * b ≤ 4096) : gf_zeros ((a : Int), (b : Int)) = some ((a : Int), (b : Int), List.replicate (a * b) 0) := by
  have e1 : wrapF .i64 ((a : Int) * (b : Int)) = ((a * b : Nat) : Int) := wrap_mul (by omega)
  have e2 : fits 1 (a * b) = true := by simp [fits]; omega
  have d1 : decide ((0 : Int) ≤ ((a * b : Nat) : Int)) = true := by rw [decide_eq_true_eq]; omega
  simp only [gf_zeros, e1, Int.toNat_natCast, e2, d1, Bool.and_self, cond_true, EK.dflt]
end Go.Rf.W
namespace Go.Rf.W
open Go Go.Rf Go.Rf.Lin

/-- Cells lie as a matrix says. -/
structure Is (rows cols : Nat) (L : List Int) (A : Mt) : Prop where
  len : L.length = rows * cols
  get : ∀ i, i < rows → ∀ j, j < cols → L.getD (j + i * cols) 0 = ((A i j).n : Int)

theorem cell_lt {rows cols i j : Nat} (hi : i < rows) (hj : j < cols) : j + i * cols < rows * cols := by
  have h1 : (i + 1) * cols ≤ rows * cols := Nat.mul_le_mul_right _ hi
  rw [Nat.add_mul, Nat.one_mul] at h1; omega

theorem cell_inj {cols i j a b : Nat} (hj : j < cols) (hb : b < cols) (h : j + i * cols = b + a * cols) : i = a ∧ j = b := by
  have h1 : (j + i * cols) / cols = i := by rw [Nat.add_mul_div_right _ _ (by omega), Nat.div_eq_of_lt hj, Nat.zero_add]
  have h2 : (b + a * cols) / cols = a := by rw [Nat.add_mul_div_right _ _ (by omega), Nat.div_eq_of_lt hb, Nat.zero_add]
  rw [h, h2] at h1
  subst h1
  exact ⟨rfl, by omega⟩

theorem Is.congr {rows cols : Nat} {L : List Int} {A B : Mt} (h : Is rows cols L A) (e : Lin.Same rows cols A B) : Is rows cols L B :=
  ⟨h.len, fun i hi j hj => by rw [h.get i hi j hj, e i hi j hj]⟩

theorem Is.set {rows cols : Nat} {L : List Int} {A : Mt} (h : Is rows cols L A) {i j : Nat} (hi : i < rows) (hj : j < cols) (g : G) :
    Is rows cols (L.set (j + i * cols) (g.n : Int)) (fun a b => if a = i ∧ b = j then g else A a b) := by
  refine ⟨by rw [List.length_set]; exact h.len, fun a ha b hb => ?_⟩
  have hlt := cell_lt hi hj
  have hlt2 := cell_lt ha hb
  rw [List.getD_eq_getElem?_getD, List.getElem?_set]
  by_cases h1 : a = i ∧ b = j
  · obtain ⟨rfl, rfl⟩ := h1
    rw [if_pos rfl, if_pos (by rw [h.len]; exact hlt)]
    simp
  · have h2 : ¬ j + i * cols = b + a * cols := fun e => h1 (by have := cell_inj hj hb e; exact ⟨this.1.symm, this.2.symm⟩)
    rw [if_neg h2, ← List.getD_eq_getElem?_getD, h.get a ha b hb, if_neg h1]

theorem Is.of {rows cols : Nat} {L : List Int} (hl : L.length = rows * cols) (hb : ∀ x, x ∈ L → 0 ≤ x ∧ x < 256) : ∃ A, Is rows cols L A := by
  refine ⟨fun i j => G.of (L.getD (j + i * cols) 0).toNat, hl, fun i hi j hj => ?_⟩
  have hlt := cell_lt hi hj
  have h1 : L.getD (j + i * cols) 0 = L[j + i * cols]'(by omega) := by rw [List.getD_eq_getElem?_getD, List.getElem?_eq_getElem (by omega)]; rfl
  have h2 := hb _ (List.getElem_mem (l := L) (n := j + i * cols) (by omega))
  rw [h1, G.of_n (by omega)]
  omega

theorem Is.ext {rows cols : Nat} {L L' : List Int} {A B : Mt} (h : Is rows cols L A) (h' : Is rows cols L' B) (e : Lin.Same rows cols A B) : L = L' := by
  refine List.ext_getElem? (fun k => ?_)
  rcases Nat.lt_or_ge k (rows * cols) with h1 | h1
  · have hc : 0 < cols := by
      rcases Nat.eq_zero_or_pos cols with h0 | h0
      · rw [h0, Nat.mul_zero] at h1; omega
      · exact h0
    have e1 : k = k % cols + k / cols * cols := by have := Nat.div_add_mod k cols; rw [Nat.mul_comm] at this; omega
    have hi : k / cols < rows := (Nat.div_lt_iff_lt_mul hc).2 h1
    have hj : k % cols < cols := Nat.mod_lt _ hc
    have a1 := h.get _ hi _ hj
    have a2 := h'.get _ hi _ hj
    rw [← e1, List.getD_eq_getElem?_getD] at a1 a2
    rw [e _ hi _ hj, ← a2] at a1
    have l1 := h.len
    have l2 := h'.len
    rw [List.getElem?_eq_getElem (by omega), List.getElem?_eq_getElem (by omega)] at a1 ⊢
    simpa using a1
  · rw [List.getElem?_eq_none (by rw [h.len]; exact h1), List.getElem?_eq_none (by rw [h'.len]; exact h1)]

theorem Is.bytes {rows cols : Nat} {L : List Int} {A : Mt} (h : Is rows cols L A) : ∀ x, x ∈ L → 0 ≤ x ∧ x < 256 := by
  intro x hx
  obtain ⟨k, hk, rfl⟩ := List.getElem_of_mem hx
  have h1 : k < rows * cols := by rw [← h.len]; exact hk
  have hc : 0 < cols := by
    rcases Nat.eq_zero_or_pos cols with h0 | h0
    · rw [h0, Nat.mul_zero] at h1; omega
    · exact h0
  have e1 : k = k % cols + k / cols * cols := by have := Nat.div_add_mod k cols; rw [Nat.mul_comm] at this; omega
  have hi : k / cols < rows := (Nat.div_lt_iff_lt_mul hc).2 h1
  have hj : k % cols < cols := Nat.mod_lt _ hc
  have a1 := h.get _ hi _ hj
  rw [← e1, List.getD_eq_getElem?_getD, List.getElem?_eq_getElem hk] at a1
  have := (A (k / cols) (k % cols)).lt
  have a2 : L[k] = ((A (k / cols) (k % cols)).n : Int) := by simpa using a1
  omega

theorem wrapG (g : G) : wrapF .u8 (g.n : Int) = (g.n : Int) := by have := g.lt; exact wrapF_u8 (by omega) (by omega)

theorem mulG {N : Nat} (hN : 20 ≤ N) (a b : G) : gf_Mul N ((a.n : Int), (b.n : Int)) = some (((a * b).n : Nat) : Int) := by
  rw [gf_Mul_eq (by omega) a.lt b.lt]; rfl

theorem xorG (a b : G) : xorF .u8 (a.n : Int) (b.n : Int) = (((a + b).n : Nat) : Int) := by
  rw [xorF_nat .u8 (by have := a.lt; simpa [topA] using this) (by have := b.lt; simpa [topA] using this)]; rfl

theorem dT {p : Prop} [Decidable p] (h : p) : decide p = true := decide_eq_true h
theorem dF {p : Prop} [Decidable p] (h : ¬ p) : decide p = false := decide_eq_false h

/-- A multiple of row q is added to row r. -/
theorem add_loop {N : Nat} (hN : 20 ≤ N) {rows cols r q : Nat} (hr : r < rows) (hq : q < rows) (hne : r ≠ q) (hb : rows * cols ≤ 4096) (hc : cols ≤ 64) (c : G) :
    ∀ (d f k : Nat) (L : List Int) (A : Mt), k + d = cols → d < f → Is rows cols L A →
      ∃ L', loopF (gf_add_b0 N) f (r * cols, cols, (c.n : Int), q * cols, cols, (cols : Int), (k : Int), L) = some L' ∧
        Is rows cols L' (fun a b => if a = r ∧ k ≤ b then A a b + c * A q b else A a b) := by
  intro d
  induction d with
  | zero =>
    intro f k L A hk hf hI
    obtain ⟨f, rfl⟩ : ∃ g, f = g + 1 := ⟨f - 1, by omega⟩
    have : k = cols := by omega
    subst this
    refine ⟨L, by simp [loopF, gf_add_b0], hI.congr (fun i hi j hj => ?_)⟩
    rw [if_neg (by omega)]
  | succ d ih =>
    intro f k L A hk hf hI
    obtain ⟨f, rfl⟩ : ∃ g, f = g + 1 := ⟨f - 1, by omega⟩
    have hkc : k < cols := by omega
    have h1 := cell_lt hr hkc
    have h2 := cell_lt hq hkc
    obtain ⟨L', e1, e2⟩ := ih f (k + 1) _ _ (by omega) (by omega) (hI.set hr hkc (A r k + c * A q k))
    refine ⟨L', ?_, e2.congr (fun i hi j hj => ?_)⟩
    · rw [← e1]
      have hl := hI.len
      have b3 : k ≤ 1000000 := by omega
      have z1 : (0 : Int) ≤ (k : Int) := by omega
      have z2 : (k : Int) < (cols : Int) := by omega
      have z3 : k + q * cols < L.length := by omega
      have z4 : k + r * cols < L.length := by omega
      simp only [loopF, gf_add_b0, dT z1, dT z2, dT z3, dT z4, Bool.and_self, cond_true, Int.toNat_natCast, EK.dflt, hI.get q hq k hkc, hI.get r hr k hkc, mulG hN, Option.bind_some, xorG, wrap_succ b3]
    · by_cases h3 : i = r
      · subst h3
        by_cases h4 : k = j
        · subst h4
          simp [hne.symm, Nat.not_le.2 (Nat.lt_succ_self k)]
        · by_cases h5 : k + 1 ≤ j
          · have : k ≤ j := by omega
            simp [h5, this, hne.symm, Ne.symm h4]
          · have : ¬ k ≤ j := by omega
            simp [h5, this, Ne.symm h4]
      · simp [h3]

theorem add_ok {N : Nat} (hN : 100 ≤ N) {rows cols r q : Nat} (hr : r < rows) (hq : q < rows) (hne : r ≠ q) (hb : rows * cols ≤ 4096) (hc : cols ≤ 64) (c : G) {L : List Int} {A : Mt} (hI : Is rows cols L A) :
    ∃ L', gf_add N (r * cols, cols, (c.n : Int), q * cols, cols, L) = some L' ∧ Is rows cols L' (fun a b => if a = r then A a b + c * A q b else A a b) := by
  by_cases h0 : c = 0
  · subst h0
    refine ⟨L, by simp [gf_add, G.zero_n], hI.congr (fun i hi j hj => ?_)⟩
    rw [G.zero_mul, G.add_zero]; split <;> rfl
  · have hn : ¬ ((c.n : Int) = 0) := fun e => h0 (G.ext' (by rw [G.zero_n]; omega))
    obtain ⟨L', e1, e2⟩ := add_loop (N := N) (by omega) hr hq hne hb hc c cols N 0 L A (by omega) (by omega) hI
    refine ⟨L', ?_, e2.congr (fun i hi j hj => by simp)⟩
    have e0 : ((0 : Nat) : Int) = 0 := rfl
    rw [e0] at e1
    simp only [gf_add, dF hn, cond_false, gf_add_l0, e1, Option.bind_some]

/-- Two rows change places. -/
theorem swap_loop {N : Nat} {rows cols p q : Nat} (hp : p < rows) (hq : q < rows) (hb : rows * cols ≤ 4096) (hc : cols ≤ 64) (a1 a2 a3 a4 a9 a10 : Int) (a11 a12 : Nat) :
    ∀ (d f k : Nat) (L : List Int) (A : Mt), k + d = cols → d < f → Is rows cols L A →
      ∃ L', loopF (gf_clear2_b6_1 N) f (a1, a2, a3, a4, p * cols, cols, q * cols, cols, a9, a10, a11, a12, (cols : Int), (k : Int), L) = some L' ∧
        Is rows cols L' (fun a b => if k ≤ b then (if a = q then A p b else if a = p then A q b else A a b) else A a b) := by
  intro d
  induction d with
  | zero =>
    intro f k L A hk hf hI
    obtain ⟨f, rfl⟩ : ∃ g, f = g + 1 := ⟨f - 1, by omega⟩
    have : k = cols := by omega
    subst this
    refine ⟨L, by simp [loopF, gf_clear2_b6_1], hI.congr (fun i hi j hj => ?_)⟩
    rw [if_neg (by omega)]
  | succ d ih =>
    intro f k L A hk hf hI
    obtain ⟨f, rfl⟩ : ∃ g, f = g + 1 := ⟨f - 1, by omega⟩
    have hkc : k < cols := by omega
    have h1 := cell_lt hp hkc
    have h2 := cell_lt hq hkc
    obtain ⟨L', e1, e2⟩ := ih f (k + 1) _ _ (by omega) (by omega) ((hI.set hp hkc (A q k)).set hq hkc (A p k))
    refine ⟨L', ?_, e2.congr (fun i hi j hj => ?_)⟩
    · rw [← e1]
      have hl := hI.len
      have b3 : k ≤ 1000000 := by omega
      have z1 : (0 : Int) ≤ (k : Int) := by omega
      have z2 : (k : Int) < (cols : Int) := by omega
      have z3 : k + q * cols < L.length := by omega
      have z4 : k + p * cols < L.length := by omega
      simp only [loopF, gf_clear2_b6_1, dT z1, dT z2, dT z3, dT z4, Bool.and_self, cond_true, Int.toNat_natCast, EK.dflt, hI.get q hq k hkc, hI.get p hp k hkc, wrap_succ b3, List.length_set]
    · by_cases h3 : i = q
      · subst h3
        by_cases h4 : j = k
        · subst h4; simp [Nat.not_le.2 (Nat.lt_succ_self j)]
        · by_cases h5 : k + 1 ≤ j
          · have : k ≤ j := by omega
            simp [h5, this, h4]
          · have : ¬ k ≤ j := by omega
            simp [h5, this, h4]
      · by_cases h4 : j = k
        · subst h4; simp [Nat.not_le.2 (Nat.lt_succ_self j), h3]
        · by_cases h5 : k + 1 ≤ j
          · have : k ≤ j := by omega
            simp [h5, this, h4]
          · have : ¬ k ≤ j := by omega
            simp [h5, this, h4]

/-- A row, as a matrix of one. -/
theorem Is.row {rows cols r : Nat} {L : List Int} {A : Mt} (h : Is rows cols L A) (hr : r < rows) : Is 1 cols (List.take cols (List.drop (r * cols) L)) (fun _ j => A r j) := by
  have hlen := h.len
  have hin : (r + 1) * cols ≤ rows * cols := Nat.mul_le_mul_right _ hr
  rw [Nat.add_mul, Nat.one_mul] at hin
  refine ⟨by simp; omega, fun i hi j hj => ?_⟩
  have : i = 0 := by omega
  subst this
  rw [← h.get r hr j hj, List.getD_eq_getElem?_getD, List.getD_eq_getElem?_getD, Nat.zero_mul, Nat.add_zero, List.getElem?_take_of_lt hj, List.getElem?_drop, Nat.add_comm]

theorem scale_loop {N : Nat} (hN : 20 ≤ N) {n : Nat} (hn : n ≤ 4096) (c : G) {V : List Int} {v : Mt} (hV : Is 1 n V v) :
    ∀ (d f k : Nat) (L : List Int) (A : Mt), k + d = n → d < f → Is 1 n L A →
      ∃ L', loopF (gf_Scale_v1_b0 N) f ((c.n : Int), V, (n : Int), (k : Int), L) = some L' ∧ Is 1 n L' (fun a b => if k ≤ b then c * v a b else A a b) := by
  intro d
  induction d with
  | zero =>
    intro f k L A hk hf hI
    obtain ⟨f, rfl⟩ : ∃ g, f = g + 1 := ⟨f - 1, by omega⟩
    have : k = n := by omega
    subst this
    refine ⟨L, by simp [loopF, gf_Scale_v1_b0], hI.congr (fun i hi j hj => ?_)⟩
    rw [if_neg (by omega)]
  | succ d ih =>
    intro f k L A hk hf hI
    obtain ⟨f, rfl⟩ : ∃ g, f = g + 1 := ⟨f - 1, by omega⟩
    have hkc : k < n := by omega
    have h0 : 0 < 1 := by omega
    have hs := hI.set h0 hkc (c * v 0 k)
    have hg := hV.get 0 h0 k hkc
    rw [Nat.zero_mul, Nat.add_zero] at hs hg
    obtain ⟨L', e1, e2⟩ := ih f (k + 1) _ _ (by omega) (by omega) hs
    refine ⟨L', ?_, e2.congr (fun i hi j hj => ?_)⟩
    · rw [← e1]
      have hl := hI.len
      have hl2 := hV.len
      have b3 : k ≤ 1000000 := by omega
      have z1 : (0 : Int) ≤ (k : Int) := by omega
      have z2 : (k : Int) < (n : Int) := by omega
      have z3 : (k : Int) < ((V.length : Nat) : Int) := by omega
      have z4 : (k : Int) < ((L.length : Nat) : Int) := by omega
      have z5 : k < L.length := by omega
      simp only [loopF, gf_Scale_v1_b0, dT z1, dT z2, dT z3, dT z4, dT z5, Bool.and_self, cond_true, Int.toNat_natCast, EK.dflt, hg, mulG hN, Option.bind_some, wrap_succ b3]
    · have : i = 0 := by omega
      subst this
      by_cases h4 : j = k
      · subst h4; simp [Nat.not_le.2 (Nat.lt_succ_self j)]
      · by_cases h5 : k + 1 ≤ j
        · have : k ≤ j := by omega
          simp [h5, this, h4]
        · have : ¬ k ≤ j := by omega
          simp [h5, this, h4]

theorem Is.zeros (rows cols : Nat) : Is rows cols (List.replicate (rows * cols) 0) (fun _ _ => 0) :=
  ⟨by simp, fun i hi j hj => by rw [List.getD_eq_getElem?_getD, List.getElem?_replicate, if_pos (cell_lt hi hj)]; rfl⟩

theorem scale_ok {N : Nat} {n : Nat} (hN : 100 ≤ N) (hn : n ≤ 64) (c : G) {V : List Int} {v : Mt} (hV : Is 1 n V v) :
    ∃ L', gf_Scale_v1 N ((c.n : Int), V) = some L' ∧ Is 1 n L' (fun a b => c * v a b) := by
  have hl := hV.len
  rw [Nat.one_mul] at hl
  have hz := Is.zeros 1 n
  rw [Nat.one_mul] at hz
  obtain ⟨L', e1, e2⟩ := scale_loop (N := N) (by omega) (by omega) c hV n N 0 _ _ (by omega) (by omega) hz
  refine ⟨L', ?_, e2.congr (fun i hi j hj => by simp)⟩
  have e0 : ((0 : Nat) : Int) = 0 := rfl
  rw [e0] at e1
  have z1 : (0 : Int) ≤ ((n : Nat) : Int) := by omega
  have z2 : fits 1 n = true := by simp [fits]; omega
  simp only [gf_Scale_v1, hl, dT z1, Int.toNat_natCast, z2, Bool.and_self, cond_true, EK.dflt, gf_Scale_v1_l0, e1, Option.bind_some]

/-- A row is laid anew. -/
theorem Is.put {rows cols q : Nat} {L V : List Int} {A v : Mt} (h : Is rows cols L A) (hq : q < rows) (hV : Is 1 cols V v) :
    Is rows cols (List.take (q * cols) L ++ List.take (min (List.length V) cols) V ++ List.drop (q * cols + min (List.length V) cols) L) (fun a b => if a = q then v 0 b else A a b) := by
  have hl := h.len
  have hl2 := hV.len
  rw [Nat.one_mul] at hl2
  have hin : (q + 1) * cols ≤ rows * cols := Nat.mul_le_mul_right _ hq
  rw [Nat.add_mul, Nat.one_mul] at hin
  rw [hl2, Nat.min_self]
  rw [show List.take cols V = V from by rw [List.take_of_length_le (by omega)]]
  refine ⟨by simp; omega, fun i hi j hj => ?_⟩
  have hlt := cell_lt hi hj
  have ht : (List.take (q * cols) L).length = q * cols := by simp; omega
  rw [List.getD_eq_getElem?_getD, List.append_assoc, List.getElem?_append, ht]
  by_cases h1 : i < q
  · have h2 : (i + 1) * cols ≤ q * cols := Nat.mul_le_mul_right _ h1
    rw [Nat.add_mul, Nat.one_mul] at h2
    rw [if_pos (by omega), List.getElem?_take_of_lt (by omega), ← List.getD_eq_getElem?_getD, h.get i hi j hj, if_neg (by omega)]
  · have h2 : q * cols ≤ i * cols := Nat.mul_le_mul_right _ (by omega)
    rw [if_neg (by omega), List.getElem?_append]
    by_cases h3 : i = q
    · subst h3
      rw [if_pos (by omega), if_pos rfl, show j + i * cols - i * cols = j from by omega]
      have := hV.get 0 (by omega) j hj
      rw [Nat.zero_mul, Nat.add_zero, List.getD_eq_getElem?_getD] at this
      exact this
    · have h4 : (q + 1) * cols ≤ i * cols := Nat.mul_le_mul_right _ (by omega)
      rw [Nat.add_mul, Nat.one_mul] at h4
      rw [if_neg (by omega), if_neg h3, List.getElem?_drop, show q * cols + cols + (j + i * cols - q * cols - V.length) = j + i * cols from by omega, ← List.getD_eq_getElem?_getD, h.get i hi j hj]

end Go.Rf.W

namespace Go.Rf.W
open Go Go.Rf Go.Rf.Lin

/-- The next row that has something in a column. -/
theorem pivot_loop {N : Nat} {rows cols c : Nat} (hr : rows ≤ 64) (hcc : cols ≤ 64) (hc : c < cols) {L : List Int} {A : Mt} (hI : Is rows cols L A) (a1 a4 a5 : Int) :
    ∀ (d f p : Nat), p + d = rows → d < f →
      ∃ p', p ≤ p' ∧ p' ≤ rows ∧ (∀ i, p ≤ i → i < p' → A i c = 0) ∧ (p' < rows → A p' c ≠ 0) ∧
        loopF (gf_clear2_b2 N) f (a1, (c : Int), (p : Int), a4, a5, L, (rows : Int), (cols : Int)) = some ((p' : Int), L, (rows : Int), (cols : Int)) := by
  have hb : rows * cols ≤ 4096 := mul_bd hr hcc
  intro d
  induction d with
  | zero =>
    intro f p hp hf
    obtain ⟨f, rfl⟩ : ∃ g, f = g + 1 := ⟨f - 1, by omega⟩
    have : p = rows := by omega
    subst this
    exact ⟨p, Nat.le_refl _, Nat.le_refl _, fun i h1 h2 => absurd h1 (by omega), fun h => absurd h (by omega), by simp [loopF, gf_clear2_b2]⟩
  | succ d ih =>
    intro f p hp hf
    obtain ⟨f, rfl⟩ : ∃ g, f = g + 1 := ⟨f - 1, by omega⟩
    have hlt : p < rows := by omega
    have h1 := cell_lt hlt hc
    have hl := hI.len
    have z0 : (p : Int) < (rows : Int) := by omega
    have z1 : (0 : Int) ≤ (c : Int) := by omega
    have z2 : (c : Int) < (cols : Int) := by omega
    have z3 : c + p * cols < L.length := by omega
    have b3 : p ≤ 1000000 := by omega
    by_cases h0 : A p c = 0
    · obtain ⟨p', q1, q2, q3, q4, q5⟩ := ih f (p + 1) (by omega) (by omega)
      refine ⟨p', by omega, q2, fun i h1 h2 => ?_, q4, ?_⟩
      · rcases Nat.lt_or_ge p i with h | h
        · exact q3 i (by omega) h2
        · rw [show i = p by omega]; exact h0
      · rw [← q5]
        have z4 : (((A p c).n : Nat) : Int) = 0 := by rw [h0]; rfl
        simp only [loopF, gf_clear2_b2, dT z0, dT z1, dT z2, dT z3, cond_true, gf_row_eq (r := p) hlt hl (by omega) (by omega), Option.bind_some, Bool.and_self, Int.toNat_natCast, EK.dflt, hI.get p hlt c hc, dT z4, wrap_succ b3]
    · refine ⟨p, Nat.le_refl _, Nat.le_of_lt hlt, fun i h1 h2 => absurd h1 (by omega), fun _ => h0, ?_⟩
      have z4 : ¬ ((((A p c).n : Nat) : Int) = 0) := fun e => h0 (G.ext' (by rw [G.zero_n]; omega))
      simp only [loopF, gf_clear2_b2, dT z0, dT z1, dT z2, dT z3, cond_true, gf_row_eq (r := p) hlt hl (by omega) (by omega), Option.bind_some, Bool.and_self, Int.toNat_natCast, EK.dflt, hI.get p hlt c hc, dF z4, cond_false]

/-- Row p, times i, comes to q; row q to p. -/
theorem lead {N : Nat} (hN : 100 ≤ N) {rows cols p q : Nat} (hr : rows ≤ 64) (hcc : cols ≤ 64) (hp : p < rows) (hq : q < rows) (i : G) {L : List Int} {A : Mt} (hI : Is rows cols L A) (a1 a2 a3 a4 a9 a10 : Int) (a11 a12 : Nat) :
    ∃ L1 L2, gf_clear2_l6_1 N (a1, a2, a3, a4, p * cols, cols, q * cols, cols, a9, a10, a11, a12, (cols : Int), (0 : Int), L) = some L1 ∧ q * cols + cols ≤ L1.length ∧
      gf_Scale_v1 N ((i.n : Int), List.take cols (List.drop (q * cols) L1)) = some L2 ∧
      Is rows cols (List.take (q * cols) L1 ++ List.take (min (List.length L2) cols) L2 ++ List.drop (q * cols + min (List.length L2) cols) L1) (swapT p q i A) := by
  have hb : rows * cols ≤ 4096 := mul_bd hr hcc
  obtain ⟨L1, e1, i1⟩ := swap_loop (N := N) hp hq hb hcc a1 a2 a3 a4 a9 a10 a11 a12 cols N 0 L A (by omega) (by omega) hI
  have e0 : ((0 : Nat) : Int) = 0 := rfl
  rw [e0] at e1
  obtain ⟨L2, e2, i2⟩ := scale_ok (N := N) hN hcc i (i1.row hq)
  have hin : (q + 1) * cols ≤ rows * cols := Nat.mul_le_mul_right _ hq
  rw [Nat.add_mul, Nat.one_mul] at hin
  refine ⟨L1, L2, e1, by rw [i1.len]; exact hin, e2, (i1.put hq i2).congr (fun a ha b hb => ?_)⟩
  simp only [swapT]
  split
  · simp
  · simp

theorem invG {N : Nat} (hN : 20 ≤ N) {g : G} (h : g ≠ 0) : gf_Inv N (g.n : Int) = some ((((G.inv g).n : Nat) : Int), (0 : Int)) := by
  have h0 : ¬ g.n = 0 := fun e => h (G.ext' e)
  rw [gf_Inv_eq (by omega) g.lt, if_neg h0]; rfl

theorem b8_step {N : Nat} {rows cols colsB q c r : Nat} {L M L1 M1 : List Int} {a3 a4 : Int} {g : Nat} (next : _ → Option (List Int × List Int × Int × Int × Int × Int))
    (z0 : (r : Int) < (rows : Int)) (z1 : ¬ ((r : Int) = (q : Int))) (z2 : (0 : Int) ≤ (c : Int)) (z3 : (c : Int) < (cols : Int)) (z4 : c + r * cols < L.length) (z5 : (0 : Int) < (rows : Int)) (b3 : r ≤ 1000000)
    (h1 : gf_row ((rows : Int), (cols : Int), (r : Int), L) = some (r * cols, cols, L)) (h2 : gf_row ((rows : Int), (cols : Int), (q : Int), L) = some (q * cols, cols, L))
    (h3 : gf_row ((rows : Int), (colsB : Int), (r : Int), M) = some (r * colsB, colsB, M)) (h4 : gf_row ((rows : Int), (colsB : Int), (q : Int), M) = some (q * colsB, colsB, M))
    (h5 : L.getD (c + r * cols) 0 = (g : Int)) (p1 : gf_add N (r * cols, cols, (g : Int), q * cols, cols, L) = some L1) (p3 : gf_add N (r * colsB, colsB, (g : Int), q * colsB, colsB, M) = some M1) :
    gf_clear2_b8 N next ((q : Int), (c : Int), a3, a4, (rows : Int), (r : Int), L, M, (rows : Int), (cols : Int), (rows : Int), (colsB : Int)) =
      next ((q : Int), (c : Int), a3, a4, (rows : Int), ((r + 1 : Nat) : Int), L1, M1, (rows : Int), (cols : Int), (rows : Int), (colsB : Int)) := by
  have h5' : List.getD L (c + r * cols) (EK.dflt (.int .u8)) = (g : Int) := h5
  unfold gf_clear2_b8
  dsimp only
  rw [dT z0, cond_true, dF z1, Bool.not_false, cond_true, h1, Option.bind_some]
  dsimp only
  rw [dT z2, dT z3, Bool.and_self, cond_true, Int.toNat_natCast, dT z4, cond_true, h1, Option.bind_some]
  dsimp only
  rw [h2, Option.bind_some]
  dsimp only
  rw [h5', p1, Option.bind_some, dT z5, cond_true, h3, Option.bind_some]
  dsimp only
  rw [h4, Option.bind_some]
  dsimp only
  rw [p3, Option.bind_some, Option.bind_some, Option.bind_some]
  dsimp only
  rw [wrap_succ b3]

theorem b0_step {N : Nat} {rows cols colsB q c n : Nat} {L M L1 L2 L' L3 M1 M2 M' M3 : List Int} {g i : Nat} (next : _ → Option (Int × List Int × List Int × Int × Int × Int × Int))
    (z0 : (c : Int) < (cols : Int)) (y1 : ¬ ((q : Int) = (rows : Int))) (y2 : (0 : Int) ≤ (c : Int)) (y3 : c + q * cols < L.length) (y4 : ¬ ((rows : Int) = 0)) (b3 : c ≤ 1000000) (b4 : n ≤ 1000000)
    (hp : gf_clear2_l2 N ((n : Int), (c : Int), (n : Int), (cols : Int), (c : Int), L, (rows : Int), (cols : Int)) = some ((q : Int), L, (rows : Int), (cols : Int)))
    (h1 : gf_row ((rows : Int), (cols : Int), (q : Int), L) = some (q * cols, cols, L)) (h2 : gf_row ((rows : Int), (cols : Int), (n : Int), L) = some (n * cols, cols, L))
    (h3 : gf_row ((rows : Int), (colsB : Int), (q : Int), M) = some (q * colsB, colsB, M)) (h4 : gf_row ((rows : Int), (colsB : Int), (n : Int), M) = some (n * colsB, colsB, M))
    (h5 : L.getD (c + q * cols) 0 = (g : Int)) (hi : gf_Inv N (g : Int) = some ((i : Int), (0 : Int)))
    (s1 : gf_clear2_l6_1 N ((n : Int), (c : Int), (q : Int), (i : Int), q * cols, cols, n * cols, cols, (cols : Int), (c : Int), 0, 2, (cols : Int), (0 : Int), L) = some L1) (s2 : n * cols + cols ≤ L1.length)
    (s3 : gf_Scale_v1 N ((i : Int), List.take cols (List.drop (n * cols) L1)) = some L2) (s4 : L' = List.take (n * cols) L1 ++ List.take (min (List.length L2) cols) L2 ++ List.drop (n * cols + min (List.length L2) cols) L1)
    (t1 : gf_clear2_l6_2 N ((n : Int), (c : Int), (q : Int), (i : Int), q * colsB, colsB, n * colsB, colsB, (cols : Int), (c : Int), 0, 2, (colsB : Int), (0 : Int), M) = some M1) (t2 : n * colsB + colsB ≤ M1.length)
    (t3 : gf_Scale_v1 N ((i : Int), List.take colsB (List.drop (n * colsB) M1)) = some M2) (t4 : M' = List.take (n * colsB) M1 ++ List.take (min (List.length M2) colsB) M2 ++ List.drop (n * colsB + min (List.length M2) colsB) M1)
    (u1 : gf_clear2_l8 N ((n : Int), (c : Int), (cols : Int), (c : Int), (rows : Int), (0 : Int), L', M', (rows : Int), (cols : Int), (rows : Int), (colsB : Int)) = some (L3, M3, (rows : Int), (cols : Int), (rows : Int), (colsB : Int))) :
    gf_clear2_b0 N next ((n : Int), (cols : Int), (c : Int), L, M, (rows : Int), (cols : Int), (rows : Int), (colsB : Int)) =
      next (((n + 1 : Nat) : Int), (cols : Int), ((c + 1 : Nat) : Int), L3, M3, (rows : Int), (cols : Int), (rows : Int), (colsB : Int)) := by
  have h5' : List.getD L (c + q * cols) (EK.dflt (.int .u8)) = (g : Int) := h5
  unfold gf_clear2_b0
  dsimp only
  rw [dT z0, cond_true, hp, Option.bind_some]
  dsimp only
  rw [dF y1, cond_false, h1, Option.bind_some]
  dsimp only
  rw [dT y2, dT z0, Bool.and_self, cond_true, Int.toNat_natCast, dT y3, cond_true, h5', hi, Option.bind_some]
  dsimp only
  rw [dF y4, cond_false, h1, Option.bind_some]
  dsimp only
  rw [h2, Option.bind_some]
  dsimp only
  rw [s1, Option.bind_some, dT s2, cond_true, cond_true, s3, Option.bind_some, cond_true, Option.bind_some, cond_false, h3, Option.bind_some]
  dsimp only
  rw [h4, Option.bind_some]
  dsimp only
  rw [t1, Option.bind_some, dT t2, cond_true, cond_true, t3, Option.bind_some, cond_true, Option.bind_some, ← s4, ← t4, u1, Option.bind_some]
  dsimp only
  rw [Option.bind_some]
  dsimp only
  rw [wrap_succ b3, wrap_succ b4]

/-- Row q is added to all others, here and there. -/
theorem addrows_loop {N : Nat} (hN : 100 ≤ N) {rows cols colsB q c : Nat} (hr : rows ≤ 64) (hcc : cols ≤ 64) (hcb : colsB ≤ 64) (hq : q < rows) (hc : c < cols) (a3 a4 : Int) :
    ∀ (d f r : Nat) (L M : List Int) (A B : Mt), r + d = rows → d < f → Is rows cols L A → Is rows colsB M B →
      ∃ L' M', loopF (gf_clear2_b8 N) f ((q : Int), (c : Int), a3, a4, (rows : Int), (r : Int), L, M, (rows : Int), (cols : Int), (rows : Int), (colsB : Int)) = some (L', M', (rows : Int), (cols : Int), (rows : Int), (colsB : Int)) ∧
        Is rows cols L' (fun a b => if r ≤ a ∧ a ≠ q then A a b + A a c * A q b else A a b) ∧ Is rows colsB M' (fun a b => if r ≤ a ∧ a ≠ q then B a b + A a c * B q b else B a b) := by
  have hb : rows * cols ≤ 4096 := mul_bd hr hcc
  have hbb : rows * colsB ≤ 4096 := mul_bd hr hcb
  intro d
  induction d with
  | zero =>
    intro f r L M A B hk hf hI hJ
    obtain ⟨f, rfl⟩ : ∃ g, f = g + 1 := ⟨f - 1, by omega⟩
    have : r = rows := by omega
    subst this
    exact ⟨L, M, by simp [loopF, gf_clear2_b8], hI.congr (fun i hi j hj => by rw [if_neg (by omega)]), hJ.congr (fun i hi j hj => by rw [if_neg (by omega)])⟩
  | succ d ih =>
    intro f r L M A B hk hf hI hJ
    obtain ⟨f, rfl⟩ : ∃ g, f = g + 1 := ⟨f - 1, by omega⟩
    have hlt : r < rows := by omega
    have z0 : (r : Int) < (rows : Int) := by omega
    have b3 : r ≤ 1000000 := by omega
    by_cases hrq : r = q
    · obtain ⟨L', M', e1, e2, e3⟩ := ih f (r + 1) L M A B (by omega) (by omega) hI hJ
      refine ⟨L', M', ?_, e2.congr (fun i hi j hj => ?_), e3.congr (fun i hi j hj => ?_)⟩
      · rw [← e1]
        have z1 : (r : Int) = (q : Int) := by omega
        simp only [loopF, gf_clear2_b8, dT z0, cond_true, dT z1, Bool.not_true, cond_false, Option.bind_some, wrap_succ b3]
      · by_cases h1 : i = q
        · simp [h1]
        · have : (r + 1 ≤ i) = (r ≤ i) := propext (by omega)
          simp [this, h1]
      · by_cases h1 : i = q
        · simp [h1]
        · have : (r + 1 ≤ i) = (r ≤ i) := propext (by omega)
          simp [this, h1]
    · have h1 := cell_lt hlt hc
      have hl := hI.len
      have hl2 := hJ.len
      obtain ⟨L1, p1, p2⟩ := add_ok (N := N) hN hlt hq hrq hb hcc (A r c) hI
      obtain ⟨M1, p3, p4⟩ := add_ok (N := N) hN hlt hq hrq hbb hcb (A r c) hJ
      obtain ⟨L', M', e1, e2, e3⟩ := ih f (r + 1) L1 M1 _ _ (by omega) (by omega) p2 p4
      refine ⟨L', M', ?_, e2.congr (fun i hi j hj => ?_), e3.congr (fun i hi j hj => ?_)⟩
      · rw [← e1]
        have z1 : ¬ ((r : Int) = (q : Int)) := by omega
        have z2 : (0 : Int) ≤ (c : Int) := by omega
        have z3 : (c : Int) < (cols : Int) := by omega
        have z4 : c + r * cols < L.length := by omega
        have z5 : (0 : Int) < (rows : Int) := by omega
        exact b8_step _ z0 z1 z2 z3 z4 z5 b3 (gf_row_eq (r := r) hlt hl (by omega) (by omega)) (gf_row_eq (r := q) hq hl (by omega) (by omega)) (gf_row_eq (r := r) hlt hl2 (by omega) (by omega)) (gf_row_eq (r := q) hq hl2 (by omega) (by omega)) (hI.get r hlt c hc) p1 p3
      · by_cases h1 : i = r
        · subst h1; simp [hrq, Nat.not_le.2 (Nat.lt_succ_self i)]
        · have : (r + 1 ≤ i) = (r ≤ i) := propext (by omega)
          simp [this, h1, Ne.symm hrq]
      · by_cases h1 : i = r
        · subst h1; simp [hrq, Nat.not_le.2 (Nat.lt_succ_self i)]
        · have : (r + 1 ≤ i) = (r ≤ i) := propext (by omega)
          simp [this, h1, Ne.symm hrq]

/-- The columns from c on. -/
theorem clear_loop {N : Nat} (hN : 100 ≤ N) {rows cols colsB : Nat} (hr : rows ≤ 64) (hcc : cols ≤ 64) (hcb : colsB ≤ 64) (A0 B0 : Mt) :
    ∀ (d f c n : Nat) (L M : List Int) (A B : Mt) (T T' : Mt → Mt) (p : Nat → Nat), c + d = cols → d < f → Is rows cols L A → Is rows colsB M B →
      Acts rows T T' → Lin.Same rows cols A (T A0) → Lin.Same rows colsB B (T B0) → Lin.Stepped rows c n p A →
      ∃ (n' : Nat) (L' M' : List Int) (A' B' : Mt) (T T' : Mt → Mt) (p : Nat → Nat), loopF (gf_clear2_b0 N) f ((n : Int), (cols : Int), (c : Int), L, M, (rows : Int), (cols : Int), (rows : Int), (colsB : Int)) = some ((n' : Int), L', M', (rows : Int), (cols : Int), (rows : Int), (colsB : Int)) ∧
        Is rows cols L' A' ∧ Is rows colsB M' B' ∧ Acts rows T T' ∧ Lin.Same rows cols A' (T A0) ∧ Lin.Same rows colsB B' (T B0) ∧ Lin.Stepped rows cols n' p A' := by
  have hb : rows * cols ≤ 4096 := mul_bd hr hcc
  have hbb : rows * colsB ≤ 4096 := mul_bd hr hcb
  intro d
  induction d with
  | zero =>
    intro f c n L M A B T T' p hc hf hI hJ hT hA hB hS
    obtain ⟨f, rfl⟩ : ∃ g, f = g + 1 := ⟨f - 1, by omega⟩
    have : c = cols := by omega
    subst this
    exact ⟨n, L, M, A, B, T, T', p, by simp [loopF, gf_clear2_b0], hI, hJ, hT, hA, hB, hS⟩
  | succ d ih =>
    intro f c n L M A B T T' p hc hf hI hJ hT hA hB hS
    obtain ⟨f, rfl⟩ : ∃ g, f = g + 1 := ⟨f - 1, by omega⟩
    have hclt : c < cols := by omega
    have z0 : (c : Int) < (cols : Int) := by omega
    have b3 : c ≤ 1000000 := by omega
    have hn := hS.le
    obtain ⟨q, q1, q2, q3, q4, q5⟩ := pivot_loop (N := N) hr hcc hclt hI (n : Int) (cols : Int) (c : Int) (rows - n) N n (by omega) (by omega)
    by_cases hqr : q = rows
    · subst hqr
      obtain ⟨n', L', M', A', B', T1, T1', p1, e1, e2⟩ := ih f (c + 1) n L M A B T T' p (by omega) (by omega) hI hJ hT hA hB (hS.skip (fun i h1 h2 => q3 i h1 h2))
      refine ⟨n', L', M', A', B', T1, T1', p1, ?_, e2⟩
      rw [← e1]
      simp only [loopF, gf_clear2_b0, dT z0, cond_true, gf_clear2_l2, q5, Option.bind_some, decide_true, wrap_succ b3]
    · have hq : q < rows := by omega
      have hne := q4 hq
      have hnr : n < rows := by omega
      have h1 := cell_lt hq hclt
      have hl := hI.len
      have hl2 := hJ.len
      have hi : G.inv (A q c) * A q c = 1 := by rw [G.mul_comm, G.mul_inv hne]
      obtain ⟨L1, L2, s1, s2, s3, s4⟩ := lead (N := N) hN hr hcc hq hnr (G.inv (A q c)) hI (n : Int) (c : Int) (q : Int) (((G.inv (A q c)).n : Nat) : Int) (cols : Int) (c : Int) 0 2
      obtain ⟨M1, M2, t1, t2, t3, t4⟩ := lead (N := N) hN hr hcb hq hnr (G.inv (A q c)) hJ (n : Int) (c : Int) (q : Int) (((G.inv (A q c)).n : Nat) : Int) (cols : Int) (c : Int) 0 2
      obtain ⟨L3, M3, u1, u2, u3⟩ := addrows_loop (N := N) hN hr hcc hcb hnr hclt (cols : Int) (c : Int) rows N 0 _ _ _ _ (by omega) (by omega) s4 t4
      have e0 : ((0 : Nat) : Int) = 0 := rfl
      rw [e0] at u1
      have t1' : gf_clear2_l6_2 N ((n : Int), (c : Int), (q : Int), (((G.inv (A q c)).n : Nat) : Int), q * colsB, colsB, n * colsB, colsB, (cols : Int), (c : Int), 0, 2, (colsB : Int), (0 : Int), M) = some M1 := t1
      have g1 : Lin.Same rows cols (fun a b => if 0 ≤ a ∧ a ≠ n then swapT q n (G.inv (A q c)) A a b + swapT q n (G.inv (A q c)) A a c * swapT q n (G.inv (A q c)) A n b else swapT q n (G.inv (A q c)) A a b)
          (addT n (fun r => swapT q n (G.inv (A q c)) A r c) (swapT q n (G.inv (A q c)) A)) := by
        intro i hi j hj
        simp only [addT]
        by_cases h : i = n <;> simp [h]
      have g2 : Lin.Same rows colsB (fun a b => if 0 ≤ a ∧ a ≠ n then swapT q n (G.inv (A q c)) B a b + swapT q n (G.inv (A q c)) A a c * swapT q n (G.inv (A q c)) B n b else swapT q n (G.inv (A q c)) B a b)
          (addT n (fun r => swapT q n (G.inv (A q c)) A r c) (swapT q n (G.inv (A q c)) B)) := by
        intro i hi j hj
        simp only [addT]
        by_cases h : i = n <;> simp [h]
      have hX : Acts rows (fun X => addT n (fun r => swapT q n (G.inv (A q c)) A r c) (swapT q n (G.inv (A q c)) X)) _ := (Acts.swap hq hnr (show A q c * G.inv (A q c) = 1 from G.mul_inv hne)).comp (Acts.add hnr (fun r => swapT q n (G.inv (A q c)) A r c))
      obtain ⟨n', L', M', A', B', T1, T1', p1, e1, e2⟩ := ih f (c + 1) (n + 1) L3 M3 _ _ _ _ _ (by omega) (by omega) (u2.congr g1) (u3.congr g2) (hT.comp hX) (hX.cong _ _ _ hA) (hX.cong _ _ _ hB) (hS.step q1 hq hi)
      refine ⟨n', L', M', A', B', T1, T1', p1, ?_, e2⟩
      rw [← e1]
      have y1 : ¬ ((q : Int) = (rows : Int)) := by omega
      have y2 : (0 : Int) ≤ (c : Int) := by omega
      have y3 : c + q * cols < L.length := by omega
      have y4 : ¬ ((rows : Int) = 0) := by omega
      have b4 : n ≤ 1000000 := by omega
      exact b0_step _ z0 y1 y2 y3 y4 b3 b4 q5 (gf_row_eq (r := q) hq hl (by omega) (by omega)) (gf_row_eq (r := n) hnr hl (by omega) (by omega)) (gf_row_eq (r := q) hq hl2 (by omega) (by omega)) (gf_row_eq (r := n) hnr hl2 (by omega) (by omega)) (hI.get q hq c hclt) (invG (by omega : 20 ≤ N) hne) s1 s2 s3 rfl t1' t2 t3 rfl u1

end Go.Rf.W

namespace Go.Rf.W
open Go Go.Rf Go.Rf.Lin
theorem check_ok {rows cols : Nat} {L : List Int} (h1 : 1 ≤ rows) (h2 : rows ≤ 64) (h3 : 1 ≤ cols) (h4 : cols ≤ 64) (hl : L.length = rows * cols) : gf_Check ((rows : Int), (cols : Int), L) = some 0 := by
  have hb : rows * cols ≤ 4096 := mul_bd h2 h4
  have e1 : wrapF .i64 ((rows : Int) * (cols : Int)) = ((rows * cols : Nat) : Int) := wrap_mul (by omega)
  have d1 : decide ((1 : Int) ≤ (rows : Int) ∧ (rows : Int) ≤ 64) = true := by rw [decide_eq_true_eq]; omega
  have d2 : decide ((1 : Int) ≤ (cols : Int) ∧ (cols : Int) ≤ 64) = true := by rw [decide_eq_true_eq]; omega
  simp [gf_Check, side_eq, d1, d2, e1, hl]

theorem clone_ok {L : List Int} (h1 : 1 ≤ L.length) (h2 : L.length ≤ 4096) : slices_Clone_byte_byte L = some L := by
  have e2 : fits 1 L.length = true := by simp [fits]; omega
  have d1 : ¬ (L.length = 0) := by omega
  simp only [slices_Clone_byte_byte, dF d1, e2, cond_true]
  rfl

theorem own_ok {rows cols : Nat} {L : List Int} (h1 : 1 ≤ rows) (h2 : rows ≤ 64) (h3 : 1 ≤ cols) (h4 : cols ≤ 64) (hl : L.length = rows * cols) : gf_own ((rows : Int), (cols : Int), L) = some ((rows : Int), (cols : Int), L) := by
  have hb : rows * cols ≤ 4096 := mul_bd h2 h4
  have hb2 : 1 * 1 ≤ rows * cols := mul_bd h1 h3
  simp only [gf_own, clone_ok (L := L) (by omega) (by omega), Option.bind_some]

theorem id_loop {N n : Nat} (hn : n ≤ 64) : ∀ (d f i : Nat) (L : List Int) (A : Mt), i + d = n → d < f → Is n n L A →
    ∃ L', loopF (gf_Identity_b0 N) f ((n : Int), (i : Int), L, (n : Int), (n : Int)) = some (L', (n : Int), (n : Int)) ∧ Is n n L' (fun a b => if i ≤ a ∧ a = b then 1 else A a b) := by
  intro d
  induction d with
  | zero =>
    intro f i L A hi hf hI
    obtain ⟨f, rfl⟩ : ∃ g, f = g + 1 := ⟨f - 1, by omega⟩
    have : i = n := by omega
    subst this
    exact ⟨L, by simp [loopF, gf_Identity_b0], hI.congr (fun a ha b hb => by rw [if_neg (by omega)])⟩
  | succ d ih =>
    intro f i L A hi hf hI
    obtain ⟨f, rfl⟩ : ∃ g, f = g + 1 := ⟨f - 1, by omega⟩
    have hlt : i < n := by omega
    have hnn : n * n ≤ 4096 := mul_bd hn hn
    have hL := hI.len
    have hc := cell_lt hlt hlt
    have hs : Is n n (L.set (i + i * n) 1) _ := hI.set hlt hlt 1
    obtain ⟨L', e1, e2⟩ := ih f (i + 1) _ _ (by omega) (by omega) hs
    refine ⟨L', ?_, e2.congr (fun a ha b hb => ?_)⟩
    · rw [← e1]
      have d0 : decide ((i : Int) < (n : Int)) = true := by rw [decide_eq_true_eq]; omega
      have d1 : decide ((0 : Int) ≤ (i : Int)) = true := by simp
      have d2 : decide (i + i * n < L.length) = true := by rw [decide_eq_true_eq]; omega
      simp only [loopF, gf_Identity_b0, d0, cond_true, gf_row_eq (r := i) hlt hL (by omega) (by omega), Option.bind_some, d1, Bool.and_self, Int.toNat_natCast, d2, wrap_succ (a := i) (by omega)]
    · by_cases h1 : a = i
      · subst h1
        by_cases h2 : b = a
        · subst h2; simp
        · simp [h2, Ne.symm h2]
      · have : (i + 1 ≤ a) = (i ≤ a) := propext (by omega)
        simp [h1, this]

theorem identity_ok {N n : Nat} (hN : 100 ≤ N) (h1 : 1 ≤ n) (hn : n ≤ 64) : ∃ L, gf_Identity N (n : Int) = some ((n : Int), (n : Int), 0, L) ∧ Is n n L Lin.one := by
  have hnn : n * n ≤ 4096 := mul_bd hn hn
  obtain ⟨L', e1, e2⟩ := id_loop (N := N) hn n N 0 _ _ (by omega) (by omega) (Is.zeros n n)
  have e0 : ((0 : Nat) : Int) = 0 := rfl
  rw [e0] at e1
  have d1 : decide ((1 : Int) ≤ (n : Int) ∧ (n : Int) ≤ 64) = true := by rw [decide_eq_true_eq]; omega
  refine ⟨L', ?_, e2.congr (fun a ha b hb => by simp [Lin.one])⟩
  simp only [gf_Identity, side_eq, Option.bind_some, d1, Bool.not_true, cond_false, zeros_eq hnn, gf_Identity_l0, e1]

/-- gf.Inverse: the inverse, if the rank is full. -/
theorem inverse_ok {N : Nat} (hN : 100 ≤ N) {n : Nat} {L : List Int} {A : Mt} (h1 : 1 ≤ n) (h2 : n ≤ 64) (hI : Is n n L A) :
    ∃ r : Nat, IsRank n n A r ∧ ((r < n ∧ gf_Inverse N ((n : Int), (n : Int), L) = some (0, 0, 22, [])) ∨
      (r = n ∧ ∃ L' I, gf_Inverse N ((n : Int), (n : Int), L) = some ((n : Int), (n : Int), 0, L') ∧ Is n n L' I ∧ IsInv n A I)) := by
  obtain ⟨M, m1, m2⟩ := identity_ok (N := N) hN h1 h2
  obtain ⟨r, L', M', A', B', T, T', p, e1, e2, e3, e4, e5, e6, e7⟩ := clear_loop (N := N) hN h2 h2 h2 A Lin.one n N 0 0 L M A Lin.one _ _ _ (by omega) (by omega) hI m2 (Acts.id n) (Lin.Same.refl _ _ _) (Lin.Same.refl _ _ _) (Lin.Stepped.zero n A)
  have e0 : ((0 : Nat) : Int) = 0 := rfl
  rw [e0] at e1
  have hown := own_ok h1 h2 h1 h2 hI.len
  refine ⟨r, e7.rank e4 e5, ?_⟩
  have hle := e7.le
  rcases Nat.lt_or_ge r n with h | h
  · refine .inl ⟨h, ?_⟩
    have z : (r : Int) < (n : Int) := by omega
    simp only [gf_Inverse, check_ok h1 h2 h1 h2 hI.len, Option.bind_some, decide_true, Bool.not_true, cond_false, m1, hown, gf_clear2, gf_clear2_l0, e1, dT z, cond_true]
  · have hr : r = n := by omega
    subst hr
    refine .inr ⟨rfl, M', B', ?_, e3, e7.inv e4 e5 e6⟩
    have z : ¬ ((r : Int) < (r : Int)) := by omega
    simp only [gf_Inverse, check_ok h1 h2 h1 h2 hI.len, Option.bind_some, decide_true, Bool.not_true, cond_false, m1, hown, gf_clear2, gf_clear2_l0, e1, dF z]

end Go.Rf.W
