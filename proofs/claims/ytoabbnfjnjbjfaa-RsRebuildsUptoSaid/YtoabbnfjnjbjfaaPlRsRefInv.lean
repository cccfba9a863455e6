/-
  The document's inverse (package rs's forms; out of the gf texts).
-/
import Derived.Test.YtoabbnfjnjbjfaaPlRsMat
import Derived.Test.YtoabbnfjnjbjfaaPlHalf
set_option linter.unusedVariables false
set_option linter.unusedSimpArgs false
namespace Go.Rf.W
open Go Go.Rf Go.Rf.Lin

theorem rmulG {N : Nat} (hN : 20 ≤ N) (a b : G) : granaryref02_Mul N ((a.n : Int), (b.n : Int)) = some (((a * b).n : Nat) : Int) := by
  rw [refMul_eq (by omega) a.lt b.lt]; rfl
theorem rinvG {N : Nat} (hN : 300 ≤ N) {a : G} (h : a ≠ 0) : granaryref02_Inv N (a.n : Int) = some ((((G.inv a).n : Nat) : Int), (0 : Int)) := by
  have : a.n ≠ 0 := fun e => h (G.ext' (by rw [G.zero_n]; omega))
  rw [refInv_eq (by omega) a.lt, if_neg this]; rfl

theorem cidx {rows cols i j : Nat} (hi : i < rows) (hj : j < cols) (hb : rows * cols ≤ 1000000) : wrapF .i64 ((wrapF .i64 ((i : Int) * (cols : Int))) + (j : Int)) = ((j + i * cols : Nat) : Int) := by
  have h1 := cell_lt hi hj
  have e1 : wrapF .i64 ((i : Int) * (cols : Int)) = ((i * cols : Nat) : Int) := wrap_mul (by omega)
  rw [e1, show ((i * cols : Nat) : Int) + (j : Int) = ((j + i * cols : Nat) : Int) by omega]
  exact wrapF_i64 (by omega) (by omega)

theorem at_eq {rows cols i j : Nat} {L : List Int} {A : Mt} (hI : Is rows cols L A) (hi : i < rows) (hj : j < cols) (hb : rows * cols ≤ 1000000) :
    granaryref02_At_v1 ((rows : Int), (cols : Int), L, (i : Int), (j : Int)) = some ((A i j).n : Int) := by
  have h1 := cell_lt hi hj
  have hl := hI.len
  have z1 : (0 : Int) ≤ ((j + i * cols : Nat) : Int) := by omega
  have z2 : ((j + i * cols : Nat) : Int) < ((L.length : Nat) : Int) := by omega
  simp only [granaryref02_At_v1, cidx hi hj hb, dT z1, dT z2, Bool.and_self, cond_true, Int.toNat_natCast, EK.dflt, hI.get i hi j hj]

theorem at_v : granaryref02_At = granaryref02_At_v1 := rfl

/-- The row to lead is sought. -/
theorem rpivot {N : Nat} {rows cols c : Nat} (hb : rows * cols ≤ 1000000) (hr : rows ≤ 1000) (hc : c < cols) {L : List Int} {A : Mt} (hI : Is rows cols L A) (a1 a2 : Int) :
    ∀ (d f r : Nat), r + d = rows → d < f → ∃ q, r ≤ q ∧ q ≤ rows ∧ (∀ i, r ≤ i → i < q → A i c = 0) ∧ (q < rows → A q c ≠ 0) ∧
      loopF (granaryref02_cleared_b2 N) f (a1, a2, (c : Int), (r : Int), L, (rows : Int), (cols : Int)) = some ((q : Int), L, (rows : Int), (cols : Int)) := by
  intro d
  induction d with
  | zero =>
    intro f r hk hf
    obtain ⟨f, rfl⟩ : ∃ g, f = g + 1 := ⟨f - 1, by omega⟩
    have : r = rows := by omega
    subst this
    exact ⟨r, Nat.le_refl _, Nat.le_refl _, fun i h1 h2 => absurd h1 (by omega), fun h => absurd h (by omega), by simp [loopF, granaryref02_cleared_b2]⟩
  | succ d ih =>
    intro f r hk hf
    obtain ⟨f, rfl⟩ : ∃ g, f = g + 1 := ⟨f - 1, by omega⟩
    have hlt : r < rows := by omega
    have z0 : (r : Int) < (rows : Int) := by omega
    have b3 : r ≤ 1000000 := by omega
    by_cases h0 : A r c = 0
    · obtain ⟨q, q1, q2, q3, q4, q5⟩ := ih f (r + 1) (by omega) (by omega)
      refine ⟨q, by omega, q2, fun i h1 h2 => ?_, q4, ?_⟩
      · by_cases h3 : i = r
        · subst h3; exact h0
        · exact q3 i (by omega) h2
      · rw [← q5]
        have z1 : ((A r c).n : Int) = 0 := by rw [h0]; rfl
        simp only [loopF, granaryref02_cleared_b2, dT z0, cond_true, at_eq hI hlt hc hb, Option.bind_some, dT z1, wrap_succ b3]
    · refine ⟨r, Nat.le_refl _, by omega, fun i h1 h2 => absurd h1 (by omega), fun _ => h0, ?_⟩
      have z1 : ¬ ((A r c).n : Int) = 0 := fun e => h0 (G.ext' (by rw [G.zero_n]; omega))
      simp only [loopF, granaryref02_cleared_b2, dT z0, cond_true, at_eq hI hlt hc hb, Option.bind_some, dF z1, cond_false]

/-- Two rows change places, cell by cell. -/
theorem rswap {N : Nat} {rows cols n r : Nat} (hb : rows * cols ≤ 1000000) (hcc : cols ≤ 1000) (hn : n < rows) (hr : r < rows) (a1 a3 : Int) :
    ∀ (d f k : Nat) (L : List Int) (A : Mt), k + d = cols → d < f → Is rows cols L A →
      ∃ L', loopF (granaryref02_cleared_b4 N) f (a1, (n : Int), a3, (r : Int), (k : Int), L, (rows : Int), (cols : Int)) = some (L', (rows : Int), (cols : Int)) ∧
        Is rows cols L' (fun a b => if k ≤ b then (if a = r then A n b else if a = n then A r b else A a b) else A a b) := by
  intro d
  induction d with
  | zero =>
    intro f k L A hk hf hI
    obtain ⟨f, rfl⟩ : ∃ g, f = g + 1 := ⟨f - 1, by omega⟩
    have : k = cols := by omega
    subst this
    refine ⟨L, by simp [loopF, granaryref02_cleared_b4], hI.congr (fun i hi j hj => ?_)⟩
    rw [if_neg (by omega)]
  | succ d ih =>
    intro f k L A hk hf hI
    obtain ⟨f, rfl⟩ : ∃ g, f = g + 1 := ⟨f - 1, by omega⟩
    have hkc : k < cols := by omega
    have h1 := cell_lt hn hkc
    have h2 := cell_lt hr hkc
    obtain ⟨L', e1, e2⟩ := ih f (k + 1) _ _ (by omega) (by omega) ((hI.set hn hkc (A r k)).set hr hkc (A n k))
    refine ⟨L', ?_, e2.congr (fun i hi j hj => ?_)⟩
    · rw [← e1]
      have hl := hI.len
      have b3 : k ≤ 1000000 := by omega
      have z2 : (k : Int) < (cols : Int) := by omega
      have z3 : k + n * cols < L.length := by omega
      have z4 : k + r * cols < L.length := by omega
      have y1 : (0 : Int) ≤ ((k + n * cols : Nat) : Int) := by omega
      have y2 : (0 : Int) ≤ ((k + r * cols : Nat) : Int) := by omega
      have y3 : ((k + n * cols : Nat) : Int) < ((L.length : Nat) : Int) := by omega
      have y4 : ((k + r * cols : Nat) : Int) < ((L.length : Nat) : Int) := by omega
      simp only [loopF, granaryref02_cleared_b4, cidx hn hkc hb, cidx hr hkc hb, dT z2, dT z3, dT z4, dT y1, dT y2, dT y3, dT y4, Bool.and_self, cond_true, Int.toNat_natCast, EK.dflt, hI.get r hr k hkc, hI.get n hn k hkc, wrap_succ b3, List.length_set]
    · by_cases h4 : j = k
      · subst h4
        by_cases h3 : i = r
        · subst h3; simp [Nat.not_le.2 (Nat.lt_succ_self j)]
        · by_cases h5 : i = n
          · subst h5; simp [Nat.not_le.2 (Nat.lt_succ_self j), h3]
          · simp [Nat.not_le.2 (Nat.lt_succ_self j), h3, h5]
      · have : (k + 1 ≤ j) = (k ≤ j) := propext (by omega)
        simp [this, h4]

/-- A row times an element. -/
theorem rscale {N : Nat} (hN : 20 ≤ N) {rows cols n : Nat} (hb : rows * cols ≤ 1000000) (hcc : cols ≤ 1000) (hn : n < rows) (g : G) (a1 a3 : Int) :
    ∀ (d f k : Nat) (L : List Int) (A : Mt), k + d = cols → d < f → Is rows cols L A →
      ∃ L', loopF (granaryref02_cleared_b6 N) f (a1, (n : Int), a3, (g.n : Int), (k : Int), L, (rows : Int), (cols : Int)) = some (L', (rows : Int), (cols : Int)) ∧
        Is rows cols L' (fun a b => if a = n ∧ k ≤ b then g * A n b else A a b) := by
  intro d
  induction d with
  | zero =>
    intro f k L A hk hf hI
    obtain ⟨f, rfl⟩ : ∃ g, f = g + 1 := ⟨f - 1, by omega⟩
    have : k = cols := by omega
    subst this
    refine ⟨L, by simp [loopF, granaryref02_cleared_b6], hI.congr (fun i hi j hj => ?_)⟩
    rw [if_neg (by omega)]
  | succ d ih =>
    intro f k L A hk hf hI
    obtain ⟨f, rfl⟩ : ∃ g, f = g + 1 := ⟨f - 1, by omega⟩
    have hkc : k < cols := by omega
    have h1 := cell_lt hn hkc
    obtain ⟨L', e1, e2⟩ := ih f (k + 1) _ _ (by omega) (by omega) (hI.set hn hkc (g * A n k))
    refine ⟨L', ?_, e2.congr (fun i hi j hj => ?_)⟩
    · rw [← e1]
      have hl := hI.len
      have b3 : k ≤ 1000000 := by omega
      have z2 : (k : Int) < (cols : Int) := by omega
      have z3 : k + n * cols < L.length := by omega
      have y1 : (0 : Int) ≤ ((k + n * cols : Nat) : Int) := by omega
      have y3 : ((k + n * cols : Nat) : Int) < ((L.length : Nat) : Int) := by omega
      simp only [loopF, granaryref02_cleared_b6, cidx hn hkc hb, at_eq hI hn hkc hb, Option.bind_some, rmulG hN, dT z2, dT z3, dT y1, dT y3, Bool.and_self, cond_true, Int.toNat_natCast, wrap_succ b3]
    · by_cases h4 : j = k
      · subst h4
        by_cases h5 : i = n
        · subst h5; simp [Nat.not_le.2 (Nat.lt_succ_self j)]
        · simp [h5]
      · have : (k + 1 ≤ j) = (k ≤ j) := propext (by omega)
        by_cases h5 : i = n
        · subst h5; simp [this, h4]
        · simp [h5]

/-- A multiple of row n is added to row q, if it is another one. -/
theorem radd1 {N : Nat} (hN : 20 ≤ N) {rows cols n q : Nat} (hb : rows * cols ≤ 1000000) (hcc : cols ≤ 1000) (hn : n < rows) (hq : q < rows) (hne : q ≠ n) (g : G) (hg : g ≠ 0) (a1 a3 : Int) :
    ∀ (d f k : Nat) (L : List Int) (A : Mt), k + d = cols → d < f → Is rows cols L A →
      ∃ L', loopF (granaryref02_cleared_b10 N) f (a1, (n : Int), a3, (q : Int), (g.n : Int), (k : Int), L, (rows : Int), (cols : Int)) = some (L', (rows : Int), (cols : Int)) ∧
        Is rows cols L' (fun a b => if a = q ∧ k ≤ b then A a b + g * A n b else A a b) := by
  intro d
  induction d with
  | zero =>
    intro f k L A hk hf hI
    obtain ⟨f, rfl⟩ : ∃ g, f = g + 1 := ⟨f - 1, by omega⟩
    have : k = cols := by omega
    subst this
    refine ⟨L, by simp [loopF, granaryref02_cleared_b10], hI.congr (fun i hi j hj => ?_)⟩
    rw [if_neg (by omega)]
  | succ d ih =>
    intro f k L A hk hf hI
    obtain ⟨f, rfl⟩ : ∃ g, f = g + 1 := ⟨f - 1, by omega⟩
    have hkc : k < cols := by omega
    have h1 := cell_lt hq hkc
    obtain ⟨L', e1, e2⟩ := ih f (k + 1) _ _ (by omega) (by omega) (hI.set hq hkc (A q k + g * A n k))
    refine ⟨L', ?_, e2.congr (fun i hi j hj => ?_)⟩
    · rw [← e1]
      have hl := hI.len
      have b3 : k ≤ 1000000 := by omega
      have z2 : (k : Int) < (cols : Int) := by omega
      have z3 : k + q * cols < L.length := by omega
      have y1 : (0 : Int) ≤ ((k + q * cols : Nat) : Int) := by omega
      have y3 : ((k + q * cols : Nat) : Int) < ((L.length : Nat) : Int) := by omega
      have y5 : ¬ ((q : Int) = (n : Int)) := by omega
      have y6 : ¬ ((g.n : Int) = 0) := fun e => hg (G.ext' (by rw [G.zero_n]; omega))
      simp only [loopF, granaryref02_cleared_b10, cidx hq hkc hb, at_eq hI hn hkc hb, at_eq hI hq hkc hb, Option.bind_some, rmulG hN, xorG, dT z2, dT z3, dT y1, dT y3, dF y5, dF y6, Bool.not_false, Bool.and_self, cond_true, Int.toNat_natCast, wrap_succ b3]
    · by_cases h4 : j = k
      · subst h4
        by_cases h5 : i = q
        · subst h5; simp [Nat.not_le.2 (Nat.lt_succ_self j)]
        · simp [h5]
      · have : (k + 1 ≤ j) = (k ≤ j) := propext (by omega)
        by_cases h5 : i = q
        · subst h5; simp [this, h4, Ne.symm hne]
        · simp [h5]

theorem radd {N : Nat} (hN : 20 ≤ N) {rows cols n q : Nat} (hb : rows * cols ≤ 1000000) (hcc : cols ≤ 1000) (hn : n < rows) (hq : q < rows) (g : G) (a1 a3 : Int) {f : Nat} (hf : cols < f) {L : List Int} {A : Mt} (hI : Is rows cols L A) :
      ∃ L', loopF (granaryref02_cleared_b10 N) f (a1, (n : Int), a3, (q : Int), (g.n : Int), (0 : Int), L, (rows : Int), (cols : Int)) = some (L', (rows : Int), (cols : Int)) ∧
        Is rows cols L' (fun a b => if a = q ∧ q ≠ n then A a b + g * A n b else A a b) := by
  have e0 : ((0 : Nat) : Int) = 0 := rfl
  by_cases h : q = n ∨ g = 0
  · refine ⟨L, ?_, hI.congr (fun i hi j hj => ?_)⟩
    · obtain ⟨f, rfl⟩ : ∃ g, f = g + 1 := ⟨f - 1, by omega⟩
      rcases h with h | h
      · subst h; simp [loopF, granaryref02_cleared_b10]
      · subst h; simp [loopF, granaryref02_cleared_b10, G.zero_n]
    · rcases h with h | h
      · subst h; simp
      · subst h; rw [G.zero_mul, G.add_zero]; split <;> rfl
  · have h1 : q ≠ n := fun e => h (.inl e)
    have h2 : g ≠ 0 := fun e => h (.inr e)
    obtain ⟨L', e1, e2⟩ := radd1 (N := N) hN hb hcc hn hq h1 g h2 a1 a3 cols f 0 L A (by omega) hf hI
    rw [e0] at e1
    exact ⟨L', e1, e2.congr (fun i hi j hj => by simp [h1])⟩

/-- All other rows. -/
theorem raddAll {N : Nat} (hN : 300 ≤ N) {rows cols n c : Nat} (hb : rows * cols ≤ 1000000) (hr : rows ≤ 64) (hcc : cols ≤ 128) (hn : n < rows) (hc : c < cols) (a1 : Int) :
    ∀ (d f q : Nat) (L : List Int) (A : Mt), q + d = rows → d < f → Is rows cols L A →
      ∃ L', loopF (granaryref02_cleared_b8 N) f (a1, (n : Int), (c : Int), (q : Int), L, (rows : Int), (cols : Int)) = some (L', (rows : Int), (cols : Int)) ∧
        Is rows cols L' (fun a b => if q ≤ a ∧ a ≠ n then A a b + A a c * A n b else A a b) := by
  intro d
  induction d with
  | zero =>
    intro f q L A hk hf hI
    obtain ⟨f, rfl⟩ : ∃ g, f = g + 1 := ⟨f - 1, by omega⟩
    have : q = rows := by omega
    subst this
    exact ⟨L, by simp [loopF, granaryref02_cleared_b8], hI.congr (fun i hi j hj => by rw [if_neg (by omega)])⟩
  | succ d ih =>
    intro f q L A hk hf hI
    obtain ⟨f, rfl⟩ : ∃ g, f = g + 1 := ⟨f - 1, by omega⟩
    have hlt : q < rows := by omega
    have z0 : (q : Int) < (rows : Int) := by omega
    have b3 : q ≤ 1000000 := by omega
    obtain ⟨L1, p1, p2⟩ := radd (N := N) (by omega) hb (by omega) hn hlt (A q c) a1 (c : Int) (f := N) (by omega) hI
    obtain ⟨L', e1, e2⟩ := ih f (q + 1) L1 _ (by omega) (by omega) p2
    refine ⟨L', ?_, e2.congr (fun i hi j hj => ?_)⟩
    · rw [← e1]
      simp only [loopF, granaryref02_cleared_b8, granaryref02_cleared_l10, dT z0, cond_true, at_eq hI hlt hc hb, p1, Option.bind_some, wrap_succ b3]
    · by_cases h1 : i = q
      · subst h1
        by_cases h2 : i = n
        · subst h2; simp
        · simp [Nat.not_le.2 (Nat.lt_succ_self i), h2]
      · have : (q + 1 ≤ i) = (q ≤ i) := propext (by omega)
        by_cases h2 : q = n
        · subst h2; simp [this, h1]
        · simp [this, h1, Ne.symm h2]

theorem cleared_loop {N : Nat} (hN : 300 ≤ N) {rows cols lead : Nat} (hr : rows ≤ 64) (hcc : cols ≤ 128) (hlc : lead ≤ cols) (A0 : Mt) :
    ∀ (d f c n : Nat) (L : List Int) (A : Mt) (T T' : Mt → Mt) (p : Nat → Nat), c + d = lead → d < f → Is rows cols L A →
      Acts rows T T' → Lin.Same rows cols A (T A0) → Lin.Stepped rows c n p A →
      ∃ (n' : Nat) (L' : List Int) (A' : Mt) (T T' : Mt → Mt) (p : Nat → Nat), loopF (granaryref02_cleared_b0 N) f ((lead : Int), (n : Int), (c : Int), L, (rows : Int), (cols : Int)) = some ((n' : Int), L', (rows : Int), (cols : Int)) ∧
        Is rows cols L' A' ∧ Acts rows T T' ∧ Lin.Same rows cols A' (T A0) ∧ Lin.Stepped rows lead n' p A' := by
  have hb : rows * cols ≤ 1000000 := Nat.le_trans (Nat.mul_le_mul hr hcc) (by omega)
  intro d
  induction d with
  | zero =>
    intro f c n L A T T' p hc hf hI hT hA hS
    obtain ⟨f, rfl⟩ : ∃ g, f = g + 1 := ⟨f - 1, by omega⟩
    have : c = lead := by omega
    subst this
    exact ⟨n, L, A, T, T', p, by simp [loopF, granaryref02_cleared_b0], hI, hT, hA, hS⟩
  | succ d ih =>
    intro f c n L A T T' p hc hf hI hT hA hS
    obtain ⟨f, rfl⟩ : ∃ g, f = g + 1 := ⟨f - 1, by omega⟩
    have hclt : c < lead := by omega
    have hcc2 : c < cols := by omega
    have z0 : (c : Int) < (lead : Int) := by omega
    have b3 : c ≤ 1000000 := by omega
    have hn := hS.le
    have b4 : n ≤ 1000000 := by omega
    by_cases hnr : n < rows
    · have z1 : (n : Int) < (rows : Int) := by omega
      obtain ⟨q, q1, q2, q3, q4, q5⟩ := rpivot (N := N) hb (by omega) hcc2 hI (lead : Int) (n : Int) (rows - n) N n (by omega) (by omega)
      by_cases hqr : q = rows
      · subst hqr
        obtain ⟨n', L', A', T1, T1', p1, e1, e2⟩ := ih f (c + 1) n L A T T' p (by omega) (by omega) hI hT hA (hS.skip (fun i h1 h2 => q3 i h1 h2))
        refine ⟨n', L', A', T1, T1', p1, ?_, e2⟩
        rw [← e1]
        simp only [loopF, granaryref02_cleared_b0, granaryref02_cleared_l2, dT z0, dT z1, cond_true, q5, Option.bind_some, decide_true, wrap_succ b3]
      · have hq : q < rows := by omega
        have hne := q4 hq
        have hi : G.inv (A q c) * A q c = 1 := by rw [G.mul_comm, G.mul_inv hne]
        have e0 : ((0 : Nat) : Int) = 0 := rfl
        obtain ⟨L1, s1, s2⟩ := rswap (N := N) hb (by omega) hnr hq (lead : Int) (c : Int) cols N 0 L A (by omega) (by omega) hI
        have hat := at_eq s2 hnr hcc2 hb
        have hav : (if 0 ≤ c then (if n = q then A n c else if n = n then A q c else A n c) else A n c) = A q c := by
          by_cases h : n = q
          · subst h; simp
          · simp [h]
        rw [hav] at hat
        obtain ⟨L2, t1, t2⟩ := rscale (N := N) (by omega) hb (by omega) hnr (G.inv (A q c)) (lead : Int) (c : Int) cols N 0 L1 _ (by omega) (by omega) s2
        have t3 : Is rows cols L2 (swapT q n (G.inv (A q c)) A) := t2.congr (fun i hi j hj => by
          simp only [swapT]
          by_cases h1 : i = n
          · subst h1
            by_cases h2 : i = q
            · subst h2; simp
            · simp [h2]
          · simp [h1])
        obtain ⟨L3, u1, u2⟩ := raddAll (N := N) hN hb hr hcc hnr hcc2 (lead : Int) rows N 0 _ _ (by omega) (by omega) t3
        rw [e0] at s1 t1 u1
        have g1 : Lin.Same rows cols (fun a b => if 0 ≤ a ∧ a ≠ n then swapT q n (G.inv (A q c)) A a b + swapT q n (G.inv (A q c)) A a c * swapT q n (G.inv (A q c)) A n b else swapT q n (G.inv (A q c)) A a b)
            (addT n (fun r => swapT q n (G.inv (A q c)) A r c) (swapT q n (G.inv (A q c)) A)) := by
          intro i hi j hj
          simp only [addT]
          by_cases h : i = n <;> simp [h]
        have hX : Acts rows (fun X => addT n (fun r => swapT q n (G.inv (A q c)) A r c) (swapT q n (G.inv (A q c)) X)) _ := (Acts.swap hq hnr (show A q c * G.inv (A q c) = 1 from G.mul_inv hne)).comp (Acts.add hnr (fun r => swapT q n (G.inv (A q c)) A r c))
        obtain ⟨n', L', A', T1, T1', p1, e1, e2⟩ := ih f (c + 1) (n + 1) L3 _ _ _ _ (by omega) (by omega) (u2.congr g1) (hT.comp hX) (hX.cong _ _ _ hA) (hS.step q1 hq hi)
        refine ⟨n', L', A', T1, T1', p1, ?_, e2⟩
        rw [← e1]
        have y1 : ¬ ((q : Int) = (rows : Int)) := by omega
        show granaryref02_cleared_b0 N (loopF (granaryref02_cleared_b0 N) f) _ = _
        unfold granaryref02_cleared_b0
        dsimp only
        rw [dT z0, cond_true, dT z1, Option.bind_some, cond_true]
        rw [granaryref02_cleared_l2, q5, Option.bind_some]
        dsimp only
        rw [dF y1, cond_false, granaryref02_cleared_l4, s1, Option.bind_some]
        dsimp only
        rw [hat, Option.bind_some, rinvG hN hne, Option.bind_some]
        dsimp only
        rw [granaryref02_cleared_l6, t1, Option.bind_some]
        dsimp only
        rw [granaryref02_cleared_l8, u1, Option.bind_some]
        dsimp only
        rw [Option.bind_some]
        dsimp only
        rw [wrap_succ b3, wrap_succ b4]
    · have hnn : n = rows := by omega
      subst hnn
      refine ⟨n, L, A, T, T', p, ?_, hI, hT, hA, hS.wide (by omega)⟩
      have z1 : ¬ ((n : Int) < (n : Int)) := by omega
      simp only [loopF, granaryref02_cleared_b0, dT z0, dF z1, cond_true, cond_false, Option.bind_some]

theorem cleared_ok {N : Nat} (hN : 300 ≤ N) {rows cols lead : Nat} (hr : rows ≤ 64) (hcc : cols ≤ 128) (hlc : lead ≤ cols) {L : List Int} {A : Mt} (hI : Is rows cols L A) :
    ∃ (n' : Nat) (L' : List Int) (A' : Mt) (T T' : Mt → Mt) (p : Nat → Nat), granaryref02_cleared N ((rows : Int), (cols : Int), L, (lead : Int)) = some ((rows : Int), (cols : Int), (n' : Int), L') ∧
        Is rows cols L' A' ∧ Acts rows T T' ∧ Lin.Same rows cols A' (T A) ∧ Lin.Stepped rows lead n' p A' := by
  obtain ⟨n', L', A', T, T', p, e1, e2⟩ := cleared_loop (N := N) hN hr hcc hlc A lead N 0 0 L A _ _ _ (by omega) (by omega) hI (Acts.id rows) (Lin.Same.refl _ _ _) (Lin.Stepped.zero rows A)
  have e0 : ((0 : Nat) : Int) = 0 := rfl
  rw [e0] at e1
  refine ⟨n', L', A', T, T', p, ?_, e2⟩
  have hb : rows * cols ≤ 64 * 128 := Nat.mul_le_mul hr hcc
  have hf : fits 1 L.length = true := by have := hI.len; simp [fits]; omega
  simp only [granaryref02_cleared, hf, cond_true, granaryref02_cleared_l0, e1, Option.bind_some]


theorem refCheck_ok {rows cols : Nat} {L : List Int} (h1 : 1 ≤ rows) (h2 : rows ≤ 64) (h3 : 1 ≤ cols) (h4 : cols ≤ 64) (hl : L.length = rows * cols) : granaryref02_Check ((rows : Int), (cols : Int), L) = some 0 := by
  have hb : rows * cols ≤ 4096 := mul_bd h2 h4
  have e1 : wrapF .i64 ((rows : Int) * (cols : Int)) = ((rows * cols : Nat) : Int) := wrap_mul (by omega)
  have c1 : ¬ ((rows : Int) < 1) := by omega
  have c2 : ¬ ((64 : Int) < (rows : Int)) := by omega
  have c3 : ¬ ((cols : Int) < 1) := by omega
  have c4 : ¬ ((64 : Int) < (cols : Int)) := by omega
  simp [granaryref02_Check, c1, c2, c3, c4, e1, hl]


end Go.Rf.W
namespace Go.Rf.W
open Go Go.Rf Go.Rf.Lin

theorem cidx' {rows cols i j : Nat} (hi : i < rows) (hj : j < cols) (hb : rows * cols ≤ 1000000) : wrapF .i64 ((wrapF .i64 ((cols : Int) * (i : Int))) + (j : Int)) = ((j + i * cols : Nat) : Int) := by
  rw [Int.mul_comm]; exact cidx hi hj hb

theorem refNew_eq {a b : Nat} (h : a * b ≤ 4096) : granaryref02_New ((a : Int), (b : Int)) = some ((a : Int), (b : Int), List.replicate (a * b) 0) := by
  have e1 : wrapF .i64 ((a : Int) * (b : Int)) = ((a * b : Nat) : Int) := wrap_mul (by omega)
  have e2 : fits 1 (a * b) = true := by simp [fits]; omega
  have d1 : decide ((0 : Int) ≤ ((a * b : Nat) : Int)) = true := by rw [decide_eq_true_eq]; omega
  simp only [granaryref02_New, e1, Int.toNat_natCast, e2, d1, Bool.and_self, cond_true, EK.dflt]

theorem two_n {n : Nat} (h : n ≤ 64) : wrapF .i64 ((2 : Int) * (n : Int)) = ((n + n : Nat) : Int) := by
  rw [show (2 : Int) * (n : Int) = ((n + n : Nat) : Int) by omega]; exact wrap_nat (by omega)

theorem nn_le {n : Nat} (h : n ≤ 64) : n * (n + n) ≤ 1000000 := Nat.le_trans (Nat.mul_le_mul h (show n + n ≤ 128 by omega)) (by omega)

theorem rinv2 {N n r : Nat} (hn : n ≤ 64) (hr : r < n) {J : List Int} {A : Mt} (hJ : Is n n J A) :
    ∀ (d f c : Nat) (L : List Int) (M : Mt), c + d = n → d < f → Is n (n + n) L M →
      ∃ L', loopF (granaryref02_Inverse_b2 N) f ((n : Int), (r : Int), (c : Int), (n : Int), (n : Int), J, L, (n : Int), ((n + n : Nat) : Int)) = some ((n : Int), (n : Int), J, L', (n : Int), ((n + n : Nat) : Int)) ∧
        Is n (n + n) L' (fun a b => if a = r ∧ c ≤ b ∧ b < n then A a b else M a b) := by
  intro d
  induction d with
  | zero =>
    intro f c L M hk hf hI
    obtain ⟨f, rfl⟩ : ∃ g, f = g + 1 := ⟨f - 1, by omega⟩
    have : c = n := by omega
    subst this
    exact ⟨L, by simp [loopF, granaryref02_Inverse_b2], hI.congr (fun a ha b hb => by rw [if_neg (by omega)])⟩
  | succ d ih =>
    intro f c L M hk hf hI
    obtain ⟨f, rfl⟩ : ∃ g, f = g + 1 := ⟨f - 1, by omega⟩
    have hlt : c < n := by omega
    have hlt2 : c < n + n := by omega
    obtain ⟨L', e1, e2⟩ := ih f (c + 1) _ _ (by omega) (by omega) (hI.set hr hlt2 (A r c))
    refine ⟨L', ?_, e2.congr (fun a ha b hb => ?_)⟩
    · rw [← e1]
      have hl := hI.len
      have h1 := cell_lt hr hlt2
      have b3 : c ≤ 1000000 := by omega
      have z2 : (c : Int) < (n : Int) := by omega
      have z3 : c + r * (n + n) < L.length := by omega
      have y1 : (0 : Int) ≤ ((c + r * (n + n) : Nat) : Int) := by omega
      have y3 : ((c + r * (n + n) : Nat) : Int) < ((L.length : Nat) : Int) := by omega
      have w1 := at_eq hJ hr hlt (Nat.le_trans (Nat.mul_le_mul hn hn) (by omega))
      rw [← at_v] at w1
      show granaryref02_Inverse_b2 N (loopF (granaryref02_Inverse_b2 N) f) _ = _
      unfold granaryref02_Inverse_b2
      dsimp only
      rw [dT z2, cond_true, w1, Option.bind_some, two_n hn, cidx' hr hlt2 (nn_le hn), dT y1, dT y3, Bool.and_self, cond_true, Int.toNat_natCast, dT z3, cond_true, wrap_succ b3]
    · by_cases h1 : b = c
      · subst h1
        by_cases h : a = r
        · subst h; simp [Nat.not_le.2 (Nat.lt_succ_self b), hlt]
        · simp [h]
      · have : (c + 1 ≤ b) = (c ≤ b) := propext (by omega)
        simp [h1, this]

theorem rinv0 {N n : Nat} (hN : 100 ≤ N) (hn : n ≤ 64) {J : List Int} {A : Mt} (hJ : Is n n J A) :
    ∀ (d f r : Nat) (L : List Int) (M : Mt), r + d = n → d < f → Is n (n + n) L M →
      ∃ L', loopF (granaryref02_Inverse_b0 N) f ((n : Int), (r : Int), (n : Int), (n : Int), J, L, (n : Int), ((n + n : Nat) : Int)) = some ((n : Int), (n : Int), J, L', (n : Int), ((n + n : Nat) : Int)) ∧
        Is n (n + n) L' (fun a b => if r ≤ a then (if b < n then A a b else if b = n + a then 1 else M a b) else M a b) := by
  intro d
  induction d with
  | zero =>
    intro f r L M hk hf hI
    obtain ⟨f, rfl⟩ : ∃ g, f = g + 1 := ⟨f - 1, by omega⟩
    have : r = n := by omega
    subst this
    exact ⟨L, by simp [loopF, granaryref02_Inverse_b0], hI.congr (fun a ha b hb => by rw [if_neg (by omega)])⟩
  | succ d ih =>
    intro f r L M hk hf hI
    obtain ⟨f, rfl⟩ : ∃ g, f = g + 1 := ⟨f - 1, by omega⟩
    have hlt : r < n := by omega
    have z0 : (r : Int) < (n : Int) := by omega
    have b3 : r ≤ 1000000 := by omega
    obtain ⟨L1, p1, p2⟩ := rinv2 (N := N) hn hlt hJ n N 0 L M (by omega) (by omega) hI
    have e0 : ((0 : Nat) : Int) = 0 := rfl
    rw [e0] at p1
    have hlt2 : n + r < n + n := by omega
    obtain ⟨L', e1, e2⟩ := ih f (r + 1) _ _ (by omega) (by omega) (p2.set hlt hlt2 1)
    refine ⟨L', ?_, e2.congr (fun a ha b hb => ?_)⟩
    · rw [← e1]
      have hl := p2.len
      have h1 := cell_lt hlt hlt2
      have hnn := nn_le hn
      have z3 : (n + r) + r * (n + n) < L1.length := by omega
      have y1 : (0 : Int) ≤ (((n + r) + r * (n + n) : Nat) : Int) := by omega
      have y3 : (((n + r) + r * (n + n) : Nat) : Int) < ((L1.length : Nat) : Int) := by omega
      have w1 := cidx' hlt (show n < n + n by omega) hnn
      have w2 : wrapF .i64 (((n + r * (n + n) : Nat) : Int) + (r : Int)) = (((n + r) + r * (n + n) : Nat) : Int) := by
        rw [show ((n + r * (n + n) : Nat) : Int) + (r : Int) = (((n + r) + r * (n + n) : Nat) : Int) by omega]; exact wrap_nat (by omega)
      have g1 : ((G.n 1 : Nat) : Int) = 1 := rfl
      rw [g1]
      show granaryref02_Inverse_b0 N (loopF (granaryref02_Inverse_b0 N) f) _ = _
      unfold granaryref02_Inverse_b0
      dsimp only
      rw [dT z0, cond_true, granaryref02_Inverse_l2, p1, Option.bind_some]
      dsimp only
      rw [two_n hn, w1, w2, dT y1, dT y3, Bool.and_self, cond_true, Int.toNat_natCast, dT z3, cond_true, wrap_succ b3]
    · by_cases h1 : a = r
      · subst h1
        by_cases h2 : b < n
        · have : ¬ b = n + a := by omega
          simp [h2, this, Nat.not_le.2 (Nat.lt_succ_self a)]
        · by_cases h3 : b = n + a
          · have : ¬ (n + a < n) := by omega
            simp [h3, Nat.not_le.2 (Nat.lt_succ_self a), this]
          · simp [h2, h3, Nat.not_le.2 (Nat.lt_succ_self a)]
      · have : (r + 1 ≤ a) = (r ≤ a) := propext (by omega)
        simp [h1, this]

theorem rinv6 {N n r : Nat} (hn : n ≤ 64) (hr : r < n) {K : List Int} {W : Mt} (hK : Is n (n + n) K W) :
    ∀ (d f c : Nat) (L : List Int) (M : Mt), c + d = n → d < f → Is n n L M →
      ∃ L', loopF (granaryref02_Inverse_b6 N) f ((n : Int), (r : Int), (c : Int), (n : Int), ((n + n : Nat) : Int), K, L, (n : Int), (n : Int)) = some ((n : Int), ((n + n : Nat) : Int), K, L', (n : Int), (n : Int)) ∧
        Is n n L' (fun a b => if a = r ∧ c ≤ b then W a (b + n) else M a b) := by
  have hb : n * n ≤ 4096 := mul_bd hn hn
  intro d
  induction d with
  | zero =>
    intro f c L M hk hf hI
    obtain ⟨f, rfl⟩ : ∃ g, f = g + 1 := ⟨f - 1, by omega⟩
    have : c = n := by omega
    subst this
    exact ⟨L, by simp [loopF, granaryref02_Inverse_b6], hI.congr (fun a ha b hb => by rw [if_neg (by omega)])⟩
  | succ d ih =>
    intro f c L M hk hf hI
    obtain ⟨f, rfl⟩ : ∃ g, f = g + 1 := ⟨f - 1, by omega⟩
    have hlt : c < n := by omega
    have hlt2 : c + n < n + n := by omega
    obtain ⟨L', e1, e2⟩ := ih f (c + 1) _ _ (by omega) (by omega) (hI.set hr hlt (W r (c + n)))
    refine ⟨L', ?_, e2.congr (fun a ha b hb => ?_)⟩
    · rw [← e1]
      have hl := hI.len
      have h1 := cell_lt hr hlt
      have b3 : c ≤ 1000000 := by omega
      have z2 : (c : Int) < (n : Int) := by omega
      have z3 : c + r * n < L.length := by omega
      have y1 : (0 : Int) ≤ ((c + r * n : Nat) : Int) := by omega
      have y3 : ((c + r * n : Nat) : Int) < ((L.length : Nat) : Int) := by omega
      have w1 := at_eq hK hr hlt2 (nn_le hn)
      show granaryref02_Inverse_b6 N (loopF (granaryref02_Inverse_b6 N) f) _ = _
      unfold granaryref02_Inverse_b6
      dsimp only
      rw [dT z2, cond_true, wrap_add2 (p := n) (k := c) (by omega), w1, Option.bind_some, cidx' hr hlt (show n * n ≤ 1000000 by omega), dT y1, dT y3, Bool.and_self, cond_true, Int.toNat_natCast, dT z3, cond_true, wrap_succ b3]
    · by_cases h1 : b = c
      · subst h1
        by_cases h : a = r
        · subst h; simp [Nat.not_le.2 (Nat.lt_succ_self b)]
        · simp [h]
      · have : (c + 1 ≤ b) = (c ≤ b) := propext (by omega)
        simp [h1, this]

theorem rinv4 {N n : Nat} (hN : 100 ≤ N) (hn : n ≤ 64) {K : List Int} {W : Mt} (hK : Is n (n + n) K W) :
    ∀ (d f r : Nat) (L : List Int) (M : Mt), r + d = n → d < f → Is n n L M →
      ∃ L', loopF (granaryref02_Inverse_b4 N) f ((n : Int), (r : Int), (n : Int), ((n + n : Nat) : Int), K, L, (n : Int), (n : Int)) = some ((n : Int), ((n + n : Nat) : Int), K, L', (n : Int), (n : Int)) ∧
        Is n n L' (fun a b => if r ≤ a then W a (b + n) else M a b) := by
  intro d
  induction d with
  | zero =>
    intro f r L M hk hf hI
    obtain ⟨f, rfl⟩ : ∃ g, f = g + 1 := ⟨f - 1, by omega⟩
    have : r = n := by omega
    subst this
    exact ⟨L, by simp [loopF, granaryref02_Inverse_b4], hI.congr (fun a ha b hb => by rw [if_neg (by omega)])⟩
  | succ d ih =>
    intro f r L M hk hf hI
    obtain ⟨f, rfl⟩ : ∃ g, f = g + 1 := ⟨f - 1, by omega⟩
    have hlt : r < n := by omega
    have z0 : (r : Int) < (n : Int) := by omega
    have b3 : r ≤ 1000000 := by omega
    obtain ⟨L1, p1, p2⟩ := rinv6 (N := N) hn hlt hK n N 0 L M (by omega) (by omega) hI
    have e0 : ((0 : Nat) : Int) = 0 := rfl
    rw [e0] at p1
    obtain ⟨L', e1, e2⟩ := ih f (r + 1) L1 _ (by omega) (by omega) p2
    refine ⟨L', ?_, e2.congr (fun a ha b hb => ?_)⟩
    · rw [← e1]
      show granaryref02_Inverse_b4 N (loopF (granaryref02_Inverse_b4 N) f) _ = _
      unfold granaryref02_Inverse_b4
      dsimp only
      rw [dT z0, cond_true, granaryref02_Inverse_l6, p1, Option.bind_some, wrap_succ b3]
    · by_cases h1 : a = r
      · subst h1; simp [Nat.not_le.2 (Nat.lt_succ_self a)]
      · have : (r + 1 ≤ a) = (r ≤ a) := propext (by omega)
        simp [h1, this]

/-- The document's inverse. -/
theorem refInverse_ok {N : Nat} (hN : 300 ≤ N) {n : Nat} {L : List Int} {A : Mt} (h1 : 1 ≤ n) (h2 : n ≤ 64) (hI : Is n n L A) :
    ∃ r : Nat, IsRank n n A r ∧ ((r < n ∧ granaryref02_Inverse N ((n : Int), (n : Int), L) = some (0, 0, 22, [])) ∨
      (r = n ∧ ∃ L' I, granaryref02_Inverse N ((n : Int), (n : Int), L) = some ((n : Int), (n : Int), 0, L') ∧ Is n n L' I ∧ IsInv n A I)) := by
  have e0 : ((0 : Nat) : Int) = 0 := rfl
  have hnn := nn_le h2
  have hsz : n * (n + n) ≤ 64 * 128 := Nat.mul_le_mul h2 (by omega)
  have hb : n * n ≤ 4096 := mul_bd h2 h2
  obtain ⟨W, p1, p2⟩ := rinv0 (N := N) (by omega) h2 hI n N 0 _ _ (by omega) (by omega) (Is.zeros n (n + n))
  obtain ⟨r, L', A', T, T', p, q1, q2, q3, q4, q5⟩ := cleared_ok (N := N) hN (lead := n) h2 (show n + n ≤ 128 by omega) (by omega) p2
  have hl : Lin.Same n n (fun i j => (fun a b => if 0 ≤ a then (if b < n then A a b else if b = n + a then 1 else (0 : G)) else 0) i (j + 0)) A := by
    intro i hi j hj
    simp [hj]
  have hr : Lin.Same n n (fun i j => (fun a b => if 0 ≤ a then (if b < n then A a b else if b = n + a then 1 else (0 : G)) else 0) i (j + n)) Lin.one := by
    intro i hi j hj
    have h3 : ¬ (j + n < n) := by omega
    have h4 : (j + n = n + i) = (i = j) := propext (by omega)
    simp [h3, h4, Lin.one]
  obtain ⟨V, v1, v2⟩ := rinv4 (N := N) (by omega) h2 q2 n N 0 _ _ (by omega) (by omega) (Is.zeros n n)
  rw [e0] at p1 v1
  have w0 : wrapF .i64 (((n + n : Nat) : Int) * (n : Int)) = ((n * (n + n) : Nat) : Int) := by
    rw [Int.mul_comm]; exact wrap_mul hnn
  have y1 : (0 : Int) ≤ ((n * (n + n) : Nat) : Int) := by omega
  have y2 : fits 1 (n * (n + n)) = true := by simp [fits]; omega
  refine ⟨r, q5.rankW q3 (by omega) q4 hl, ?_⟩
  have hle := q5.le
  rcases Nat.lt_or_ge r n with h | h
  · refine .inl ⟨h, ?_⟩
    have z : (r : Int) < (n : Int) := by omega
    unfold granaryref02_Inverse
    dsimp only
    rw [refCheck_ok h1 h2 h1 h2 hI.len, Option.bind_some, dT rfl, Bool.not_true, cond_false, dT rfl, Bool.not_true, cond_false, two_n h2, w0, dT y1, Int.toNat_natCast, y2, Bool.and_self, cond_true, granaryref02_Inverse_l0]
    rw [show (EK.dflt (.int .u8) : Int) = 0 from rfl, p1, Option.bind_some]
    dsimp only
    rw [q1, Option.bind_some]
    dsimp only
    rw [dT z, cond_true]
  · have hrn : r = n := by omega
    subst hrn
    refine .inr ⟨rfl, V, (fun i j => A' i (j + r)), ?_, v2.congr (fun a ha b hb => by simp), q5.invW q3 (by omega) q4 hl hr⟩
    have z : ¬ ((r : Int) < (r : Int)) := by omega
    unfold granaryref02_Inverse
    dsimp only
    rw [refCheck_ok h1 h2 h1 h2 hI.len, Option.bind_some, dT rfl, Bool.not_true, cond_false, dT rfl, Bool.not_true, cond_false, two_n h2, w0, dT y1, Int.toNat_natCast, y2, Bool.and_self, cond_true, granaryref02_Inverse_l0]
    rw [show (EK.dflt (.int .u8) : Int) = 0 from rfl, p1, Option.bind_some]
    dsimp only
    rw [q1, Option.bind_some]
    dsimp only
    rw [dF z, cond_false, refNew_eq hb, Option.bind_some]
    dsimp only
    rw [granaryref02_Inverse_l4, v1, Option.bind_some]

theorem inverse_same {N : Nat} (hN : 300 ≤ N) {n : Nat} {L : List Int} {A : Mt} (h1 : 1 ≤ n) (h2 : n ≤ 64) (hI : Is n n L A) :
    ∃ x, gf_Inverse N ((n : Int), (n : Int), L) = some x ∧ granaryref02_Inverse N ((n : Int), (n : Int), L) = some x := by
  obtain ⟨r, a1, a2⟩ := inverse_ok (N := N) (by omega) h1 h2 hI
  obtain ⟨s, b1, b2⟩ := refInverse_ok (N := N) hN h1 h2 hI
  obtain rfl := a1.unique b1
  rcases a2 with ⟨a3, a4⟩ | ⟨a3, X, I, a4, a5, a6⟩
  · rcases b2 with ⟨b3, b4⟩ | ⟨b3, _⟩
    · exact ⟨_, a4, b4⟩
    · omega
  · rcases b2 with ⟨b3, _⟩ | ⟨b3, Y, K, b4, b5, b6⟩
    · omega
    · obtain rfl : X = Y := Is.ext a5 b5 (a6.unique b6)
      exact ⟨_, a4, b4⟩

end Go.Rf.W
