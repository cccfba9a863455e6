/-
  gf.clear2: a matrix is brought into steps, and another one with it.
-/
import Derived.Test.YtmkpcnmjhmdndaaPlGfMat
set_option linter.unusedVariables false
set_option linter.unusedSimpArgs false
namespace Go.Rf.W
open Go Go.Rf Go.Rf.Lin

/-- The next row that has something in a column. -/
theorem pivot_loop {N : Nat} {rows cols c : Nat} (hr : rows ≤ 64) (hcc : cols ≤ 64) (hc : c < cols) {L : List Int} {A : Mt} (hI : Is rows cols L A) (a1 a4 a5 : Int) :
    ∀ (d f p : Nat), p + d = rows → d < f →
      ∃ p', p ≤ p' ∧ p' ≤ rows ∧ (∀ i, p ≤ i → i < p' → A i c = 0) ∧ (p' < rows → A p' c ≠ 0) ∧
        loopF (gf_clear2_b2 N) f (a1, (c : Int), (p : Int), a4, a5, L, (rows : Int), (cols : Int)) = some ((p' : Int), L, (rows : Int), (cols : Int)) := by
  have hb : rows * cols ≤ 4096 := mul_bd hr hcc
  intro d
  induction d with
  | zero =>
    intro f p hp hf
    obtain ⟨f, rfl⟩ : ∃ g, f = g + 1 := ⟨f - 1, by omega⟩
    have : p = rows := by omega
    subst this
    exact ⟨p, Nat.le_refl _, Nat.le_refl _, fun i h1 h2 => absurd h1 (by omega), fun h => absurd h (by omega), by simp [loopF, gf_clear2_b2]⟩
  | succ d ih =>
    intro f p hp hf
    obtain ⟨f, rfl⟩ : ∃ g, f = g + 1 := ⟨f - 1, by omega⟩
    have hlt : p < rows := by omega
    have h1 := cell_lt hlt hc
    have hl := hI.len
    have z0 : (p : Int) < (rows : Int) := by omega
    have z1 : (0 : Int) ≤ (c : Int) := by omega
    have z2 : (c : Int) < (cols : Int) := by omega
    have z3 : c + p * cols < L.length := by omega
    have b3 : p ≤ 1000000 := by omega
    by_cases h0 : A p c = 0
    · obtain ⟨p', q1, q2, q3, q4, q5⟩ := ih f (p + 1) (by omega) (by omega)
      refine ⟨p', by omega, q2, fun i h1 h2 => ?_, q4, ?_⟩
      · rcases Nat.lt_or_ge p i with h | h
        · exact q3 i (by omega) h2
        · rw [show i = p by omega]; exact h0
      · rw [← q5]
        have z4 : (((A p c).n : Nat) : Int) = 0 := by rw [h0]; rfl
        simp only [loopF, gf_clear2_b2, dT z0, dT z1, dT z2, dT z3, cond_true, gf_row_eq (r := p) hlt hl (by omega) (by omega), Option.bind_some, Bool.and_self, Int.toNat_natCast, EK.dflt, hI.get p hlt c hc, dT z4, wrap_succ b3]
    · refine ⟨p, Nat.le_refl _, Nat.le_of_lt hlt, fun i h1 h2 => absurd h1 (by omega), fun _ => h0, ?_⟩
      have z4 : ¬ ((((A p c).n : Nat) : Int) = 0) := fun e => h0 (G.ext' (by rw [G.zero_n]; omega))
      simp only [loopF, gf_clear2_b2, dT z0, dT z1, dT z2, dT z3, cond_true, gf_row_eq (r := p) hlt hl (by omega) (by omega), Option.bind_some, Bool.and_self, Int.toNat_natCast, EK.dflt, hI.get p hlt c hc, dF z4, cond_false]

/-- Row p, times i, comes to q; row q to p. -/
theorem lead {N : Nat} (hN : 100 ≤ N) {rows cols p q : Nat} (hr : rows ≤ 64) (hcc : cols ≤ 64) (hp : p < rows) (hq : q < rows) (i : G) {L : List Int} {A : Mt} (hI : Is rows cols L A) (a1 a2 a3 a4 a9 a10 : Int) (a11 a12 : Nat) :
    ∃ L1 L2, gf_clear2_l6_1 N (a1, a2, a3, a4, p * cols, cols, q * cols, cols, a9, a10, a11, a12, (cols : Int), (0 : Int), L) = some L1 ∧ q * cols + cols ≤ L1.length ∧
      gf_Scale N ((i.n : Int), List.take cols (List.drop (q * cols) L1)) = some L2 ∧
      Is rows cols (List.take (q * cols) L1 ++ List.take (min (List.length L2) cols) L2 ++ List.drop (q * cols + min (List.length L2) cols) L1) (swapT p q i A) := by
  have hb : rows * cols ≤ 4096 := mul_bd hr hcc
  obtain ⟨L1, e1, i1⟩ := swap_loop (N := N) hp hq hb hcc a1 a2 a3 a4 a9 a10 a11 a12 cols N 0 L A (by omega) (by omega) hI
  have e0 : ((0 : Nat) : Int) = 0 := rfl
  rw [e0] at e1
  obtain ⟨L2, e2, i2⟩ := scale_ok (N := N) hN hcc i (i1.row hq)
  have hin : (q + 1) * cols ≤ rows * cols := Nat.mul_le_mul_right _ hq
  rw [Nat.add_mul, Nat.one_mul] at hin
  refine ⟨L1, L2, e1, by rw [i1.len]; exact hin, e2, (i1.put hq i2).congr (fun a ha b hb => ?_)⟩
  simp only [swapT]
  split
  · simp
  · simp

theorem invG {N : Nat} (hN : 20 ≤ N) {g : G} (h : g ≠ 0) : gf_Inv N (g.n : Int) = some ((((G.inv g).n : Nat) : Int), (0 : Int)) := by
  have h0 : ¬ g.n = 0 := fun e => h (G.ext' e)
  rw [gf_Inv_eq (by omega) g.lt, if_neg h0]; rfl

theorem b8_step {N : Nat} {rows cols colsB q c r : Nat} {L M L1 M1 : List Int} {a3 a4 : Int} {g : Nat} (next : _ → Option (List Int × List Int × Int × Int × Int × Int))
    (z0 : (r : Int) < (rows : Int)) (z1 : ¬ ((r : Int) = (q : Int))) (z2 : (0 : Int) ≤ (c : Int)) (z3 : (c : Int) < (cols : Int)) (z4 : c + r * cols < L.length) (z5 : (0 : Int) < (rows : Int)) (b3 : r ≤ 1000000)
    (h1 : gf_row ((rows : Int), (cols : Int), (r : Int), L) = some (r * cols, cols, L)) (h2 : gf_row ((rows : Int), (cols : Int), (q : Int), L) = some (q * cols, cols, L))
    (h3 : gf_row ((rows : Int), (colsB : Int), (r : Int), M) = some (r * colsB, colsB, M)) (h4 : gf_row ((rows : Int), (colsB : Int), (q : Int), M) = some (q * colsB, colsB, M))
    (h5 : L.getD (c + r * cols) 0 = (g : Int)) (p1 : gf_add N (r * cols, cols, (g : Int), q * cols, cols, L) = some L1) (p3 : gf_add N (r * colsB, colsB, (g : Int), q * colsB, colsB, M) = some M1) :
    gf_clear2_b8 N next ((q : Int), (c : Int), a3, a4, (rows : Int), (r : Int), L, M, (rows : Int), (cols : Int), (rows : Int), (colsB : Int)) =
      next ((q : Int), (c : Int), a3, a4, (rows : Int), ((r + 1 : Nat) : Int), L1, M1, (rows : Int), (cols : Int), (rows : Int), (colsB : Int)) := by
  have h5' : List.getD L (c + r * cols) (EK.dflt (.int .u8)) = (g : Int) := h5
  unfold gf_clear2_b8
  dsimp only
  rw [dT z0, cond_true, dF z1, Bool.not_false, cond_true, h1, Option.bind_some]
  dsimp only
  rw [dT z2, dT z3, Bool.and_self, cond_true, Int.toNat_natCast, dT z4, cond_true, h1, Option.bind_some]
  dsimp only
  rw [h2, Option.bind_some]
  dsimp only
  rw [h5', p1, Option.bind_some, dT z5, cond_true, h3, Option.bind_some]
  dsimp only
  rw [h4, Option.bind_some]
  dsimp only
  rw [p3, Option.bind_some, Option.bind_some, Option.bind_some]
  dsimp only
  rw [wrap_succ b3]

theorem b0_step {N : Nat} {rows cols colsB q c n : Nat} {L M L1 L2 L' L3 M1 M2 M' M3 : List Int} {g i : Nat} (next : _ → Option (Int × List Int × List Int × Int × Int × Int × Int))
    (z0 : (c : Int) < (cols : Int)) (y1 : ¬ ((q : Int) = (rows : Int))) (y2 : (0 : Int) ≤ (c : Int)) (y3 : c + q * cols < L.length) (y4 : ¬ ((rows : Int) = 0)) (b3 : c ≤ 1000000) (b4 : n ≤ 1000000)
    (hp : gf_clear2_l2 N ((n : Int), (c : Int), (n : Int), (cols : Int), (c : Int), L, (rows : Int), (cols : Int)) = some ((q : Int), L, (rows : Int), (cols : Int)))
    (h1 : gf_row ((rows : Int), (cols : Int), (q : Int), L) = some (q * cols, cols, L)) (h2 : gf_row ((rows : Int), (cols : Int), (n : Int), L) = some (n * cols, cols, L))
    (h3 : gf_row ((rows : Int), (colsB : Int), (q : Int), M) = some (q * colsB, colsB, M)) (h4 : gf_row ((rows : Int), (colsB : Int), (n : Int), M) = some (n * colsB, colsB, M))
    (h5 : L.getD (c + q * cols) 0 = (g : Int)) (hi : gf_Inv N (g : Int) = some ((i : Int), (0 : Int)))
    (s1 : gf_clear2_l6_1 N ((n : Int), (c : Int), (q : Int), (i : Int), q * cols, cols, n * cols, cols, (cols : Int), (c : Int), 0, 2, (cols : Int), (0 : Int), L) = some L1) (s2 : n * cols + cols ≤ L1.length)
    (s3 : gf_Scale N ((i : Int), List.take cols (List.drop (n * cols) L1)) = some L2) (s4 : L' = List.take (n * cols) L1 ++ List.take (min (List.length L2) cols) L2 ++ List.drop (n * cols + min (List.length L2) cols) L1)
    (t1 : gf_clear2_l6_2 N ((n : Int), (c : Int), (q : Int), (i : Int), q * colsB, colsB, n * colsB, colsB, (cols : Int), (c : Int), 0, 2, (colsB : Int), (0 : Int), M) = some M1) (t2 : n * colsB + colsB ≤ M1.length)
    (t3 : gf_Scale N ((i : Int), List.take colsB (List.drop (n * colsB) M1)) = some M2) (t4 : M' = List.take (n * colsB) M1 ++ List.take (min (List.length M2) colsB) M2 ++ List.drop (n * colsB + min (List.length M2) colsB) M1)
    (u1 : gf_clear2_l8 N ((n : Int), (c : Int), (cols : Int), (c : Int), (rows : Int), (0 : Int), L', M', (rows : Int), (cols : Int), (rows : Int), (colsB : Int)) = some (L3, M3, (rows : Int), (cols : Int), (rows : Int), (colsB : Int))) :
    gf_clear2_b0 N next ((n : Int), (cols : Int), (c : Int), L, M, (rows : Int), (cols : Int), (rows : Int), (colsB : Int)) =
      next (((n + 1 : Nat) : Int), (cols : Int), ((c + 1 : Nat) : Int), L3, M3, (rows : Int), (cols : Int), (rows : Int), (colsB : Int)) := by
  have h5' : List.getD L (c + q * cols) (EK.dflt (.int .u8)) = (g : Int) := h5
  unfold gf_clear2_b0
  dsimp only
  rw [dT z0, cond_true, hp, Option.bind_some]
  dsimp only
  rw [dF y1, cond_false, h1, Option.bind_some]
  dsimp only
  rw [dT y2, dT z0, Bool.and_self, cond_true, Int.toNat_natCast, dT y3, cond_true, h5', hi, Option.bind_some]
  dsimp only
  rw [dF y4, cond_false, h1, Option.bind_some]
  dsimp only
  rw [h2, Option.bind_some]
  dsimp only
  rw [s1, Option.bind_some, dT s2, cond_true, cond_true, s3, Option.bind_some, cond_true, Option.bind_some, cond_false, h3, Option.bind_some]
  dsimp only
  rw [h4, Option.bind_some]
  dsimp only
  rw [t1, Option.bind_some, dT t2, cond_true, cond_true, t3, Option.bind_some, cond_true, Option.bind_some, ← s4, ← t4, u1, Option.bind_some]
  dsimp only
  rw [Option.bind_some]
  dsimp only
  rw [wrap_succ b3, wrap_succ b4]

/-- Row q is added to all others, here and there. -/
theorem addrows_loop {N : Nat} (hN : 100 ≤ N) {rows cols colsB q c : Nat} (hr : rows ≤ 64) (hcc : cols ≤ 64) (hcb : colsB ≤ 64) (hq : q < rows) (hc : c < cols) (a3 a4 : Int) :
    ∀ (d f r : Nat) (L M : List Int) (A B : Mt), r + d = rows → d < f → Is rows cols L A → Is rows colsB M B →
      ∃ L' M', loopF (gf_clear2_b8 N) f ((q : Int), (c : Int), a3, a4, (rows : Int), (r : Int), L, M, (rows : Int), (cols : Int), (rows : Int), (colsB : Int)) = some (L', M', (rows : Int), (cols : Int), (rows : Int), (colsB : Int)) ∧
        Is rows cols L' (fun a b => if r ≤ a ∧ a ≠ q then A a b + A a c * A q b else A a b) ∧ Is rows colsB M' (fun a b => if r ≤ a ∧ a ≠ q then B a b + A a c * B q b else B a b) := by
  have hb : rows * cols ≤ 4096 := mul_bd hr hcc
  have hbb : rows * colsB ≤ 4096 := mul_bd hr hcb
  intro d
  induction d with
  | zero =>
    intro f r L M A B hk hf hI hJ
    obtain ⟨f, rfl⟩ : ∃ g, f = g + 1 := ⟨f - 1, by omega⟩
    have : r = rows := by omega
    subst this
    exact ⟨L, M, by simp [loopF, gf_clear2_b8], hI.congr (fun i hi j hj => by rw [if_neg (by omega)]), hJ.congr (fun i hi j hj => by rw [if_neg (by omega)])⟩
  | succ d ih =>
    intro f r L M A B hk hf hI hJ
    obtain ⟨f, rfl⟩ : ∃ g, f = g + 1 := ⟨f - 1, by omega⟩
    have hlt : r < rows := by omega
    have z0 : (r : Int) < (rows : Int) := by omega
    have b3 : r ≤ 1000000 := by omega
    by_cases hrq : r = q
    · obtain ⟨L', M', e1, e2, e3⟩ := ih f (r + 1) L M A B (by omega) (by omega) hI hJ
      refine ⟨L', M', ?_, e2.congr (fun i hi j hj => ?_), e3.congr (fun i hi j hj => ?_)⟩
      · rw [← e1]
        have z1 : (r : Int) = (q : Int) := by omega
        simp only [loopF, gf_clear2_b8, dT z0, cond_true, dT z1, Bool.not_true, cond_false, Option.bind_some, wrap_succ b3]
      · by_cases h1 : i = q
        · simp [h1]
        · have : (r + 1 ≤ i) = (r ≤ i) := propext (by omega)
          simp [this, h1]
      · by_cases h1 : i = q
        · simp [h1]
        · have : (r + 1 ≤ i) = (r ≤ i) := propext (by omega)
          simp [this, h1]
    · have h1 := cell_lt hlt hc
      have hl := hI.len
      have hl2 := hJ.len
      obtain ⟨L1, p1, p2⟩ := add_ok (N := N) hN hlt hq hrq hb hcc (A r c) hI
      obtain ⟨M1, p3, p4⟩ := add_ok (N := N) hN hlt hq hrq hbb hcb (A r c) hJ
      obtain ⟨L', M', e1, e2, e3⟩ := ih f (r + 1) L1 M1 _ _ (by omega) (by omega) p2 p4
      refine ⟨L', M', ?_, e2.congr (fun i hi j hj => ?_), e3.congr (fun i hi j hj => ?_)⟩
      · rw [← e1]
        have z1 : ¬ ((r : Int) = (q : Int)) := by omega
        have z2 : (0 : Int) ≤ (c : Int) := by omega
        have z3 : (c : Int) < (cols : Int) := by omega
        have z4 : c + r * cols < L.length := by omega
        have z5 : (0 : Int) < (rows : Int) := by omega
        exact b8_step _ z0 z1 z2 z3 z4 z5 b3 (gf_row_eq (r := r) hlt hl (by omega) (by omega)) (gf_row_eq (r := q) hq hl (by omega) (by omega)) (gf_row_eq (r := r) hlt hl2 (by omega) (by omega)) (gf_row_eq (r := q) hq hl2 (by omega) (by omega)) (hI.get r hlt c hc) p1 p3
      · by_cases h1 : i = r
        · subst h1; simp [hrq, Nat.not_le.2 (Nat.lt_succ_self i)]
        · have : (r + 1 ≤ i) = (r ≤ i) := propext (by omega)
          simp [this, h1, Ne.symm hrq]
      · by_cases h1 : i = r
        · subst h1; simp [hrq, Nat.not_le.2 (Nat.lt_succ_self i)]
        · have : (r + 1 ≤ i) = (r ≤ i) := propext (by omega)
          simp [this, h1, Ne.symm hrq]

/-- The columns from c on. -/
theorem clear_loop {N : Nat} (hN : 100 ≤ N) {rows cols colsB : Nat} (hr : rows ≤ 64) (hcc : cols ≤ 64) (hcb : colsB ≤ 64) (A0 B0 : Mt) :
    ∀ (d f c n : Nat) (L M : List Int) (A B : Mt) (T T' : Mt → Mt) (p : Nat → Nat), c + d = cols → d < f → Is rows cols L A → Is rows colsB M B →
      Acts rows T T' → Lin.Same rows cols A (T A0) → Lin.Same rows colsB B (T B0) → Lin.Stepped rows c n p A →
      ∃ (n' : Nat) (L' M' : List Int) (A' B' : Mt) (T T' : Mt → Mt) (p : Nat → Nat), loopF (gf_clear2_b0 N) f ((n : Int), (cols : Int), (c : Int), L, M, (rows : Int), (cols : Int), (rows : Int), (colsB : Int)) = some ((n' : Int), L', M', (rows : Int), (cols : Int), (rows : Int), (colsB : Int)) ∧
        Is rows cols L' A' ∧ Is rows colsB M' B' ∧ Acts rows T T' ∧ Lin.Same rows cols A' (T A0) ∧ Lin.Same rows colsB B' (T B0) ∧ Lin.Stepped rows cols n' p A' := by
  have hb : rows * cols ≤ 4096 := mul_bd hr hcc
  have hbb : rows * colsB ≤ 4096 := mul_bd hr hcb
  intro d
  induction d with
  | zero =>
    intro f c n L M A B T T' p hc hf hI hJ hT hA hB hS
    obtain ⟨f, rfl⟩ : ∃ g, f = g + 1 := ⟨f - 1, by omega⟩
    have : c = cols := by omega
    subst this
    exact ⟨n, L, M, A, B, T, T', p, by simp [loopF, gf_clear2_b0], hI, hJ, hT, hA, hB, hS⟩
  | succ d ih =>
    intro f c n L M A B T T' p hc hf hI hJ hT hA hB hS
    obtain ⟨f, rfl⟩ : ∃ g, f = g + 1 := ⟨f - 1, by omega⟩
    have hclt : c < cols := by omega
    have z0 : (c : Int) < (cols : Int) := by omega
    have b3 : c ≤ 1000000 := by omega
    have hn := hS.le
    obtain ⟨q, q1, q2, q3, q4, q5⟩ := pivot_loop (N := N) hr hcc hclt hI (n : Int) (cols : Int) (c : Int) (rows - n) N n (by omega) (by omega)
    by_cases hqr : q = rows
    · subst hqr
      obtain ⟨n', L', M', A', B', T1, T1', p1, e1, e2⟩ := ih f (c + 1) n L M A B T T' p (by omega) (by omega) hI hJ hT hA hB (hS.skip (fun i h1 h2 => q3 i h1 h2))
      refine ⟨n', L', M', A', B', T1, T1', p1, ?_, e2⟩
      rw [← e1]
      simp only [loopF, gf_clear2_b0, dT z0, cond_true, gf_clear2_l2, q5, Option.bind_some, decide_true, wrap_succ b3]
    · have hq : q < rows := by omega
      have hne := q4 hq
      have hnr : n < rows := by omega
      have h1 := cell_lt hq hclt
      have hl := hI.len
      have hl2 := hJ.len
      have hi : G.inv (A q c) * A q c = 1 := by rw [G.mul_comm, G.mul_inv hne]
      obtain ⟨L1, L2, s1, s2, s3, s4⟩ := lead (N := N) hN hr hcc hq hnr (G.inv (A q c)) hI (n : Int) (c : Int) (q : Int) (((G.inv (A q c)).n : Nat) : Int) (cols : Int) (c : Int) 0 2
      obtain ⟨M1, M2, t1, t2, t3, t4⟩ := lead (N := N) hN hr hcb hq hnr (G.inv (A q c)) hJ (n : Int) (c : Int) (q : Int) (((G.inv (A q c)).n : Nat) : Int) (cols : Int) (c : Int) 0 2
      obtain ⟨L3, M3, u1, u2, u3⟩ := addrows_loop (N := N) hN hr hcc hcb hnr hclt (cols : Int) (c : Int) rows N 0 _ _ _ _ (by omega) (by omega) s4 t4
      have e0 : ((0 : Nat) : Int) = 0 := rfl
      rw [e0] at u1
      have t1' : gf_clear2_l6_2 N ((n : Int), (c : Int), (q : Int), (((G.inv (A q c)).n : Nat) : Int), q * colsB, colsB, n * colsB, colsB, (cols : Int), (c : Int), 0, 2, (colsB : Int), (0 : Int), M) = some M1 := t1
      have g1 : Lin.Same rows cols (fun a b => if 0 ≤ a ∧ a ≠ n then swapT q n (G.inv (A q c)) A a b + swapT q n (G.inv (A q c)) A a c * swapT q n (G.inv (A q c)) A n b else swapT q n (G.inv (A q c)) A a b)
          (addT n (fun r => swapT q n (G.inv (A q c)) A r c) (swapT q n (G.inv (A q c)) A)) := by
        intro i hi j hj
        simp only [addT]
        by_cases h : i = n <;> simp [h]
      have g2 : Lin.Same rows colsB (fun a b => if 0 ≤ a ∧ a ≠ n then swapT q n (G.inv (A q c)) B a b + swapT q n (G.inv (A q c)) A a c * swapT q n (G.inv (A q c)) B n b else swapT q n (G.inv (A q c)) B a b)
          (addT n (fun r => swapT q n (G.inv (A q c)) A r c) (swapT q n (G.inv (A q c)) B)) := by
        intro i hi j hj
        simp only [addT]
        by_cases h : i = n <;> simp [h]
      have hX : Acts rows (fun X => addT n (fun r => swapT q n (G.inv (A q c)) A r c) (swapT q n (G.inv (A q c)) X)) _ := (Acts.swap hq hnr (show A q c * G.inv (A q c) = 1 from G.mul_inv hne)).comp (Acts.add hnr (fun r => swapT q n (G.inv (A q c)) A r c))
      obtain ⟨n', L', M', A', B', T1, T1', p1, e1, e2⟩ := ih f (c + 1) (n + 1) L3 M3 _ _ _ _ _ (by omega) (by omega) (u2.congr g1) (u3.congr g2) (hT.comp hX) (hX.cong _ _ _ hA) (hX.cong _ _ _ hB) (hS.step q1 hq hi)
      refine ⟨n', L', M', A', B', T1, T1', p1, ?_, e2⟩
      rw [← e1]
      have y1 : ¬ ((q : Int) = (rows : Int)) := by omega
      have y2 : (0 : Int) ≤ (c : Int) := by omega
      have y3 : c + q * cols < L.length := by omega
      have y4 : ¬ ((rows : Int) = 0) := by omega
      have b4 : n ≤ 1000000 := by omega
      exact b0_step _ z0 y1 y2 y3 y4 b3 b4 q5 (gf_row_eq (r := q) hq hl (by omega) (by omega)) (gf_row_eq (r := n) hnr hl (by omega) (by omega)) (gf_row_eq (r := q) hq hl2 (by omega) (by omega)) (gf_row_eq (r := n) hnr hl2 (by omega) (by omega)) (hI.get q hq c hclt) (invG (by omega : 20 ≤ N) hne) s1 s2 s3 rfl t1' t2 t3 rfl u1

end Go.Rf.W
