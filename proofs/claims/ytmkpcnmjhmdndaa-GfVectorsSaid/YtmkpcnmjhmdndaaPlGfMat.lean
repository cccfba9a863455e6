/-
  Matrices in the printed functions: their cells, and what is done to rows.
-/
import Derived.Test.YtmkpcnmjhmdndaaPlGfRow
import Derived.Test.YtmkpcnmjhmdndaaPlRank
set_option linter.unusedVariables false
set_option linter.unusedSimpArgs false
namespace Go.Rf.W
open Go Go.Rf Go.Rf.Lin

/-- Cells lie as a matrix says. -/
structure Is (rows cols : Nat) (L : List Int) (A : Mt) : Prop where
  len : L.length = rows * cols
  get : ∀ i, i < rows → ∀ j, j < cols → L.getD (j + i * cols) 0 = ((A i j).n : Int)

theorem cell_lt {rows cols i j : Nat} (hi : i < rows) (hj : j < cols) : j + i * cols < rows * cols := by
  have h1 : (i + 1) * cols ≤ rows * cols := Nat.mul_le_mul_right _ hi
  rw [Nat.add_mul, Nat.one_mul] at h1; omega

theorem cell_inj {cols i j a b : Nat} (hj : j < cols) (hb : b < cols) (h : j + i * cols = b + a * cols) : i = a ∧ j = b := by
  have h1 : (j + i * cols) / cols = i := by rw [Nat.add_mul_div_right _ _ (by omega), Nat.div_eq_of_lt hj, Nat.zero_add]
  have h2 : (b + a * cols) / cols = a := by rw [Nat.add_mul_div_right _ _ (by omega), Nat.div_eq_of_lt hb, Nat.zero_add]
  rw [h, h2] at h1
  subst h1
  exact ⟨rfl, by omega⟩

theorem Is.congr {rows cols : Nat} {L : List Int} {A B : Mt} (h : Is rows cols L A) (e : Lin.Same rows cols A B) : Is rows cols L B :=
  ⟨h.len, fun i hi j hj => by rw [h.get i hi j hj, e i hi j hj]⟩

theorem Is.set {rows cols : Nat} {L : List Int} {A : Mt} (h : Is rows cols L A) {i j : Nat} (hi : i < rows) (hj : j < cols) (g : G) :
    Is rows cols (L.set (j + i * cols) (g.n : Int)) (fun a b => if a = i ∧ b = j then g else A a b) := by
  refine ⟨by rw [List.length_set]; exact h.len, fun a ha b hb => ?_⟩
  have hlt := cell_lt hi hj
  have hlt2 := cell_lt ha hb
  rw [List.getD_eq_getElem?_getD, List.getElem?_set]
  by_cases h1 : a = i ∧ b = j
  · obtain ⟨rfl, rfl⟩ := h1
    rw [if_pos rfl, if_pos (by rw [h.len]; exact hlt)]
    simp
  · have h2 : ¬ j + i * cols = b + a * cols := fun e => h1 (by have := cell_inj hj hb e; exact ⟨this.1.symm, this.2.symm⟩)
    rw [if_neg h2, ← List.getD_eq_getElem?_getD, h.get a ha b hb, if_neg h1]

theorem Is.of {rows cols : Nat} {L : List Int} (hl : L.length = rows * cols) (hb : ∀ x, x ∈ L → 0 ≤ x ∧ x < 256) : ∃ A, Is rows cols L A := by
  refine ⟨fun i j => G.of (L.getD (j + i * cols) 0).toNat, hl, fun i hi j hj => ?_⟩
  have hlt := cell_lt hi hj
  have h1 : L.getD (j + i * cols) 0 = L[j + i * cols]'(by omega) := by rw [List.getD_eq_getElem?_getD, List.getElem?_eq_getElem (by omega)]; rfl
  have h2 := hb _ (List.getElem_mem (l := L) (n := j + i * cols) (by omega))
  rw [h1, G.of_n (by omega)]
  omega

theorem Is.ext {rows cols : Nat} {L L' : List Int} {A B : Mt} (h : Is rows cols L A) (h' : Is rows cols L' B) (e : Lin.Same rows cols A B) : L = L' := by
  refine List.ext_getElem? (fun k => ?_)
  rcases Nat.lt_or_ge k (rows * cols) with h1 | h1
  · have hc : 0 < cols := by
      rcases Nat.eq_zero_or_pos cols with h0 | h0
      · rw [h0, Nat.mul_zero] at h1; omega
      · exact h0
    have e1 : k = k % cols + k / cols * cols := by have := Nat.div_add_mod k cols; rw [Nat.mul_comm] at this; omega
    have hi : k / cols < rows := (Nat.div_lt_iff_lt_mul hc).2 h1
    have hj : k % cols < cols := Nat.mod_lt _ hc
    have a1 := h.get _ hi _ hj
    have a2 := h'.get _ hi _ hj
    rw [← e1, List.getD_eq_getElem?_getD] at a1 a2
    rw [e _ hi _ hj, ← a2] at a1
    have l1 := h.len
    have l2 := h'.len
    rw [List.getElem?_eq_getElem (by omega), List.getElem?_eq_getElem (by omega)] at a1 ⊢
    simpa using a1
  · rw [List.getElem?_eq_none (by rw [h.len]; exact h1), List.getElem?_eq_none (by rw [h'.len]; exact h1)]

theorem Is.bytes {rows cols : Nat} {L : List Int} {A : Mt} (h : Is rows cols L A) : ∀ x, x ∈ L → 0 ≤ x ∧ x < 256 := by
  intro x hx
  obtain ⟨k, hk, rfl⟩ := List.getElem_of_mem hx
  have h1 : k < rows * cols := by rw [← h.len]; exact hk
  have hc : 0 < cols := by
    rcases Nat.eq_zero_or_pos cols with h0 | h0
    · rw [h0, Nat.mul_zero] at h1; omega
    · exact h0
  have e1 : k = k % cols + k / cols * cols := by have := Nat.div_add_mod k cols; rw [Nat.mul_comm] at this; omega
  have hi : k / cols < rows := (Nat.div_lt_iff_lt_mul hc).2 h1
  have hj : k % cols < cols := Nat.mod_lt _ hc
  have a1 := h.get _ hi _ hj
  rw [← e1, List.getD_eq_getElem?_getD, List.getElem?_eq_getElem hk] at a1
  have := (A (k / cols) (k % cols)).lt
  have a2 : L[k] = ((A (k / cols) (k % cols)).n : Int) := by simpa using a1
  omega

theorem wrapG (g : G) : wrapF .u8 (g.n : Int) = (g.n : Int) := by have := g.lt; exact wrapF_u8 (by omega) (by omega)

theorem mulG {N : Nat} (hN : 20 ≤ N) (a b : G) : gf_Mul N ((a.n : Int), (b.n : Int)) = some (((a * b).n : Nat) : Int) := by
  rw [gf_Mul_eq (by omega) a.lt b.lt]; rfl

theorem xorG (a b : G) : xorF .u8 (a.n : Int) (b.n : Int) = (((a + b).n : Nat) : Int) := by
  rw [xorF_nat .u8 (by have := a.lt; simpa [topA] using this) (by have := b.lt; simpa [topA] using this)]; rfl

theorem dT {p : Prop} [Decidable p] (h : p) : decide p = true := decide_eq_true h
theorem dF {p : Prop} [Decidable p] (h : ¬ p) : decide p = false := decide_eq_false h

/-- A multiple of row q is added to row r. -/
theorem add_loop {N : Nat} (hN : 20 ≤ N) {rows cols r q : Nat} (hr : r < rows) (hq : q < rows) (hne : r ≠ q) (hb : rows * cols ≤ 4096) (hc : cols ≤ 64) (c : G) :
    ∀ (d f k : Nat) (L : List Int) (A : Mt), k + d = cols → d < f → Is rows cols L A →
      ∃ L', loopF (gf_add_b0 N) f (r * cols, cols, (c.n : Int), q * cols, cols, (cols : Int), (k : Int), L) = some L' ∧
        Is rows cols L' (fun a b => if a = r ∧ k ≤ b then A a b + c * A q b else A a b) := by
  intro d
  induction d with
  | zero =>
    intro f k L A hk hf hI
    obtain ⟨f, rfl⟩ : ∃ g, f = g + 1 := ⟨f - 1, by omega⟩
    have : k = cols := by omega
    subst this
    refine ⟨L, by simp [loopF, gf_add_b0], hI.congr (fun i hi j hj => ?_)⟩
    rw [if_neg (by omega)]
  | succ d ih =>
    intro f k L A hk hf hI
    obtain ⟨f, rfl⟩ : ∃ g, f = g + 1 := ⟨f - 1, by omega⟩
    have hkc : k < cols := by omega
    have h1 := cell_lt hr hkc
    have h2 := cell_lt hq hkc
    obtain ⟨L', e1, e2⟩ := ih f (k + 1) _ _ (by omega) (by omega) (hI.set hr hkc (A r k + c * A q k))
    refine ⟨L', ?_, e2.congr (fun i hi j hj => ?_)⟩
    · rw [← e1]
      have hl := hI.len
      have b3 : k ≤ 1000000 := by omega
      have z1 : (0 : Int) ≤ (k : Int) := by omega
      have z2 : (k : Int) < (cols : Int) := by omega
      have z3 : k + q * cols < L.length := by omega
      have z4 : k + r * cols < L.length := by omega
      simp only [loopF, gf_add_b0, dT z1, dT z2, dT z3, dT z4, Bool.and_self, cond_true, Int.toNat_natCast, EK.dflt, hI.get q hq k hkc, hI.get r hr k hkc, mulG hN, Option.bind_some, xorG, wrap_succ b3]
    · by_cases h3 : i = r
      · subst h3
        by_cases h4 : k = j
        · subst h4
          simp [hne.symm, Nat.not_le.2 (Nat.lt_succ_self k)]
        · by_cases h5 : k + 1 ≤ j
          · have : k ≤ j := by omega
            simp [h5, this, hne.symm, Ne.symm h4]
          · have : ¬ k ≤ j := by omega
            simp [h5, this, Ne.symm h4]
      · simp [h3]

theorem add_ok {N : Nat} (hN : 100 ≤ N) {rows cols r q : Nat} (hr : r < rows) (hq : q < rows) (hne : r ≠ q) (hb : rows * cols ≤ 4096) (hc : cols ≤ 64) (c : G) {L : List Int} {A : Mt} (hI : Is rows cols L A) :
    ∃ L', gf_add N (r * cols, cols, (c.n : Int), q * cols, cols, L) = some L' ∧ Is rows cols L' (fun a b => if a = r then A a b + c * A q b else A a b) := by
  by_cases h0 : c = 0
  · subst h0
    refine ⟨L, by simp [gf_add, G.zero_n], hI.congr (fun i hi j hj => ?_)⟩
    rw [G.zero_mul, G.add_zero]; split <;> rfl
  · have hn : ¬ ((c.n : Int) = 0) := fun e => h0 (G.ext' (by rw [G.zero_n]; omega))
    obtain ⟨L', e1, e2⟩ := add_loop (N := N) (by omega) hr hq hne hb hc c cols N 0 L A (by omega) (by omega) hI
    refine ⟨L', ?_, e2.congr (fun i hi j hj => by simp)⟩
    have e0 : ((0 : Nat) : Int) = 0 := rfl
    rw [e0] at e1
    simp only [gf_add, dF hn, cond_false, gf_add_l0, e1, Option.bind_some]

/-- Two rows change places. -/
theorem swap_loop {N : Nat} {rows cols p q : Nat} (hp : p < rows) (hq : q < rows) (hb : rows * cols ≤ 4096) (hc : cols ≤ 64) (a1 a2 a3 a4 a9 a10 : Int) (a11 a12 : Nat) :
    ∀ (d f k : Nat) (L : List Int) (A : Mt), k + d = cols → d < f → Is rows cols L A →
      ∃ L', loopF (gf_clear2_b6_1 N) f (a1, a2, a3, a4, p * cols, cols, q * cols, cols, a9, a10, a11, a12, (cols : Int), (k : Int), L) = some L' ∧
        Is rows cols L' (fun a b => if k ≤ b then (if a = q then A p b else if a = p then A q b else A a b) else A a b) := by
  intro d
  induction d with
  | zero =>
    intro f k L A hk hf hI
    obtain ⟨f, rfl⟩ : ∃ g, f = g + 1 := ⟨f - 1, by omega⟩
    have : k = cols := by omega
    subst this
    refine ⟨L, by simp [loopF, gf_clear2_b6_1], hI.congr (fun i hi j hj => ?_)⟩
    rw [if_neg (by omega)]
  | succ d ih =>
    intro f k L A hk hf hI
    obtain ⟨f, rfl⟩ : ∃ g, f = g + 1 := ⟨f - 1, by omega⟩
    have hkc : k < cols := by omega
    have h1 := cell_lt hp hkc
    have h2 := cell_lt hq hkc
    obtain ⟨L', e1, e2⟩ := ih f (k + 1) _ _ (by omega) (by omega) ((hI.set hp hkc (A q k)).set hq hkc (A p k))
    refine ⟨L', ?_, e2.congr (fun i hi j hj => ?_)⟩
    · rw [← e1]
      have hl := hI.len
      have b3 : k ≤ 1000000 := by omega
      have z1 : (0 : Int) ≤ (k : Int) := by omega
      have z2 : (k : Int) < (cols : Int) := by omega
      have z3 : k + q * cols < L.length := by omega
      have z4 : k + p * cols < L.length := by omega
      simp only [loopF, gf_clear2_b6_1, dT z1, dT z2, dT z3, dT z4, Bool.and_self, cond_true, Int.toNat_natCast, EK.dflt, hI.get q hq k hkc, hI.get p hp k hkc, wrap_succ b3, List.length_set]
    · by_cases h3 : i = q
      · subst h3
        by_cases h4 : j = k
        · subst h4; simp [Nat.not_le.2 (Nat.lt_succ_self j)]
        · by_cases h5 : k + 1 ≤ j
          · have : k ≤ j := by omega
            simp [h5, this, h4]
          · have : ¬ k ≤ j := by omega
            simp [h5, this, h4]
      · by_cases h4 : j = k
        · subst h4; simp [Nat.not_le.2 (Nat.lt_succ_self j), h3]
        · by_cases h5 : k + 1 ≤ j
          · have : k ≤ j := by omega
            simp [h5, this, h4]
          · have : ¬ k ≤ j := by omega
            simp [h5, this, h4]

/-- A row, as a matrix of one. -/
theorem Is.row {rows cols r : Nat} {L : List Int} {A : Mt} (h : Is rows cols L A) (hr : r < rows) : Is 1 cols (List.take cols (List.drop (r * cols) L)) (fun _ j => A r j) := by
  have hlen := h.len
  have hin : (r + 1) * cols ≤ rows * cols := Nat.mul_le_mul_right _ hr
  rw [Nat.add_mul, Nat.one_mul] at hin
  refine ⟨by simp; omega, fun i hi j hj => ?_⟩
  have : i = 0 := by omega
  subst this
  rw [← h.get r hr j hj, List.getD_eq_getElem?_getD, List.getD_eq_getElem?_getD, Nat.zero_mul, Nat.add_zero, List.getElem?_take_of_lt hj, List.getElem?_drop, Nat.add_comm]

theorem scale_loop {N : Nat} (hN : 20 ≤ N) {n : Nat} (hn : n ≤ 4096) (c : G) {V : List Int} {v : Mt} (hV : Is 1 n V v) :
    ∀ (d f k : Nat) (L : List Int) (A : Mt), k + d = n → d < f → Is 1 n L A →
      ∃ L', loopF (gf_Scale_b0 N) f ((c.n : Int), V, (n : Int), (k : Int), L) = some L' ∧ Is 1 n L' (fun a b => if k ≤ b then c * v a b else A a b) := by
  intro d
  induction d with
  | zero =>
    intro f k L A hk hf hI
    obtain ⟨f, rfl⟩ : ∃ g, f = g + 1 := ⟨f - 1, by omega⟩
    have : k = n := by omega
    subst this
    refine ⟨L, by simp [loopF, gf_Scale_b0], hI.congr (fun i hi j hj => ?_)⟩
    rw [if_neg (by omega)]
  | succ d ih =>
    intro f k L A hk hf hI
    obtain ⟨f, rfl⟩ : ∃ g, f = g + 1 := ⟨f - 1, by omega⟩
    have hkc : k < n := by omega
    have h0 : 0 < 1 := by omega
    have hs := hI.set h0 hkc (c * v 0 k)
    have hg := hV.get 0 h0 k hkc
    rw [Nat.zero_mul, Nat.add_zero] at hs hg
    obtain ⟨L', e1, e2⟩ := ih f (k + 1) _ _ (by omega) (by omega) hs
    refine ⟨L', ?_, e2.congr (fun i hi j hj => ?_)⟩
    · rw [← e1]
      have hl := hI.len
      have hl2 := hV.len
      have b3 : k ≤ 1000000 := by omega
      have z1 : (0 : Int) ≤ (k : Int) := by omega
      have z2 : (k : Int) < (n : Int) := by omega
      have z3 : (k : Int) < ((V.length : Nat) : Int) := by omega
      have z4 : (k : Int) < ((L.length : Nat) : Int) := by omega
      have z5 : k < L.length := by omega
      simp only [loopF, gf_Scale_b0, dT z1, dT z2, dT z3, dT z4, dT z5, Bool.and_self, cond_true, Int.toNat_natCast, EK.dflt, hg, mulG hN, Option.bind_some, wrap_succ b3]
    · have : i = 0 := by omega
      subst this
      by_cases h4 : j = k
      · subst h4; simp [Nat.not_le.2 (Nat.lt_succ_self j)]
      · by_cases h5 : k + 1 ≤ j
        · have : k ≤ j := by omega
          simp [h5, this, h4]
        · have : ¬ k ≤ j := by omega
          simp [h5, this, h4]

theorem Is.zeros (rows cols : Nat) : Is rows cols (List.replicate (rows * cols) 0) (fun _ _ => 0) :=
  ⟨by simp, fun i hi j hj => by rw [List.getD_eq_getElem?_getD, List.getElem?_replicate, if_pos (cell_lt hi hj)]; rfl⟩

theorem scale_ok {N : Nat} {n : Nat} (hN : 100 ≤ N) (hn : n ≤ 64) (c : G) {V : List Int} {v : Mt} (hV : Is 1 n V v) :
    ∃ L', gf_Scale N ((c.n : Int), V) = some L' ∧ Is 1 n L' (fun a b => c * v a b) := by
  have hl := hV.len
  rw [Nat.one_mul] at hl
  have hz := Is.zeros 1 n
  rw [Nat.one_mul] at hz
  obtain ⟨L', e1, e2⟩ := scale_loop (N := N) (by omega) (by omega) c hV n N 0 _ _ (by omega) (by omega) hz
  refine ⟨L', ?_, e2.congr (fun i hi j hj => by simp)⟩
  have e0 : ((0 : Nat) : Int) = 0 := rfl
  rw [e0] at e1
  have z1 : (0 : Int) ≤ ((n : Nat) : Int) := by omega
  have z2 : fits 1 n = true := by simp [fits]; omega
  simp only [gf_Scale, hl, dT z1, Int.toNat_natCast, z2, Bool.and_self, cond_true, EK.dflt, gf_Scale_l0, e1, Option.bind_some]

/-- A row is laid anew. -/
theorem Is.put {rows cols q : Nat} {L V : List Int} {A v : Mt} (h : Is rows cols L A) (hq : q < rows) (hV : Is 1 cols V v) :
    Is rows cols (List.take (q * cols) L ++ List.take (min (List.length V) cols) V ++ List.drop (q * cols + min (List.length V) cols) L) (fun a b => if a = q then v 0 b else A a b) := by
  have hl := h.len
  have hl2 := hV.len
  rw [Nat.one_mul] at hl2
  have hin : (q + 1) * cols ≤ rows * cols := Nat.mul_le_mul_right _ hq
  rw [Nat.add_mul, Nat.one_mul] at hin
  rw [hl2, Nat.min_self]
  rw [show List.take cols V = V from by rw [List.take_of_length_le (by omega)]]
  refine ⟨by simp; omega, fun i hi j hj => ?_⟩
  have hlt := cell_lt hi hj
  have ht : (List.take (q * cols) L).length = q * cols := by simp; omega
  rw [List.getD_eq_getElem?_getD, List.append_assoc, List.getElem?_append, ht]
  by_cases h1 : i < q
  · have h2 : (i + 1) * cols ≤ q * cols := Nat.mul_le_mul_right _ h1
    rw [Nat.add_mul, Nat.one_mul] at h2
    rw [if_pos (by omega), List.getElem?_take_of_lt (by omega), ← List.getD_eq_getElem?_getD, h.get i hi j hj, if_neg (by omega)]
  · have h2 : q * cols ≤ i * cols := Nat.mul_le_mul_right _ (by omega)
    rw [if_neg (by omega), List.getElem?_append]
    by_cases h3 : i = q
    · subst h3
      rw [if_pos (by omega), if_pos rfl, show j + i * cols - i * cols = j from by omega]
      have := hV.get 0 (by omega) j hj
      rw [Nat.zero_mul, Nat.add_zero, List.getD_eq_getElem?_getD] at this
      exact this
    · have h4 : (q + 1) * cols ≤ i * cols := Nat.mul_le_mul_right _ (by omega)
      rw [Nat.add_mul, Nat.one_mul] at h4
      rw [if_neg (by omega), if_neg h3, List.getElem?_drop, show q * cols + cols + (j + i * cols - q * cols - V.length) = j + i * cols from by omega, ← List.getD_eq_getElem?_getD, h.get i hi j hj]

end Go.Rf.W
