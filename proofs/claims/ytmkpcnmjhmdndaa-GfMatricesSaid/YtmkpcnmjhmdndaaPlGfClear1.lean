/-
  gf.clear2 of one matrix alone.
-/
import Derived.Test.YtmkpcnmjhmdndaaPlGfClear
set_option linter.unusedVariables false
set_option linter.unusedSimpArgs false
namespace Go.Rf.W
open Go Go.Rf Go.Rf.Lin

theorem b8v_step {N : Nat} {rows cols q c r : Nat} {L L1 : List Int} {a3 a4 : Int} {g : Nat} (next : _ → Option (List Int × Int × Int))
    (z0 : (r : Int) < (rows : Int)) (z1 : ¬ ((r : Int) = (q : Int))) (z2 : (0 : Int) ≤ (c : Int)) (z3 : (c : Int) < (cols : Int)) (z4 : c + r * cols < L.length) (b3 : r ≤ 1000000)
    (h1 : gf_row ((rows : Int), (cols : Int), (r : Int), L) = some (r * cols, cols, L)) (h2 : gf_row ((rows : Int), (cols : Int), (q : Int), L) = some (q * cols, cols, L))
    (h5 : L.getD (c + r * cols) 0 = (g : Int)) (p1 : gf_add N (r * cols, cols, (g : Int), q * cols, cols, L) = some L1) :
    gf_clear2_v1_b8 N next ((q : Int), (c : Int), a3, a4, (rows : Int), (r : Int), L, (rows : Int), (cols : Int)) =
      next ((q : Int), (c : Int), a3, a4, (rows : Int), ((r + 1 : Nat) : Int), L1, (rows : Int), (cols : Int)) := by
  have h5' : List.getD L (c + r * cols) (EK.dflt (.int .u8)) = (g : Int) := h5
  unfold gf_clear2_v1_b8
  dsimp only
  rw [dT z0, cond_true, dF z1, Bool.not_false, cond_true, h1, Option.bind_some]
  dsimp only
  rw [dT z2, dT z3, Bool.and_self, cond_true, Int.toNat_natCast, dT z4, cond_true, h1, Option.bind_some]
  dsimp only
  rw [h2, Option.bind_some]
  dsimp only
  rw [h5', p1, Option.bind_some, Option.bind_some, wrap_succ b3]

theorem b0v_step {N : Nat} {rows cols q c n : Nat} {L L1 L2 L' L3 : List Int} {g i : Nat} {a7 : Int} {a8 : List Int} (next : _ → Option (Int × List Int × Int × Int × Int × List Int))
    (z0 : (c : Int) < (cols : Int)) (y1 : ¬ ((q : Int) = (rows : Int))) (y2 : (0 : Int) ≤ (c : Int)) (y3 : c + q * cols < L.length) (y4 : ¬ ((rows : Int) = 0)) (b3 : c ≤ 1000000) (b4 : n ≤ 1000000)
    (hp : gf_clear2_v1_l2 N ((n : Int), (c : Int), (n : Int), (cols : Int), (c : Int), L, (rows : Int), (cols : Int)) = some ((q : Int), L, (rows : Int), (cols : Int)))
    (h1 : gf_row ((rows : Int), (cols : Int), (q : Int), L) = some (q * cols, cols, L)) (h2 : gf_row ((rows : Int), (cols : Int), (n : Int), L) = some (n * cols, cols, L))
    (h5 : L.getD (c + q * cols) 0 = (g : Int)) (hi : gf_Inv N (g : Int) = some ((i : Int), (0 : Int)))
    (s1 : gf_clear2_v1_l6_1 N ((n : Int), (c : Int), (q : Int), (i : Int), q * cols, cols, n * cols, cols, (cols : Int), (c : Int), 0, 2, (cols : Int), (0 : Int), L) = some L1) (s2 : n * cols + cols ≤ L1.length)
    (s3 : gf_Scale N ((i : Int), List.take cols (List.drop (n * cols) L1)) = some L2) (s4 : L' = List.take (n * cols) L1 ++ List.take (min (List.length L2) cols) L2 ++ List.drop (n * cols + min (List.length L2) cols) L1)
    (u1 : gf_clear2_v1_l8 N ((n : Int), (c : Int), (cols : Int), (c : Int), (rows : Int), (0 : Int), L', (rows : Int), (cols : Int)) = some (L3, (rows : Int), (cols : Int))) :
    gf_clear2_v1_b0 N next ((n : Int), (cols : Int), (c : Int), L, (rows : Int), (cols : Int), a7, a8) =
      next (((n + 1 : Nat) : Int), (cols : Int), ((c + 1 : Nat) : Int), L3, (rows : Int), (cols : Int), a7, a8) := by
  have h5' : List.getD L (c + q * cols) (EK.dflt (.int .u8)) = (g : Int) := h5
  unfold gf_clear2_v1_b0
  dsimp only
  rw [dT z0, cond_true, hp, Option.bind_some]
  dsimp only
  rw [dF y1, cond_false, h1, Option.bind_some]
  dsimp only
  rw [dT y2, dT z0, Bool.and_self, cond_true, Int.toNat_natCast, dT y3, cond_true, h5', hi, Option.bind_some]
  dsimp only
  rw [dF y4, cond_false, h1, Option.bind_some]
  dsimp only
  rw [h2, Option.bind_some]
  dsimp only
  rw [s1, Option.bind_some, dT s2, cond_true, cond_true, s3, Option.bind_some, cond_true, Option.bind_some, ← s4, u1, Option.bind_some]
  dsimp only
  rw [Option.bind_some]
  dsimp only
  rw [wrap_succ b3, wrap_succ b4]

theorem addrows1_loop {N : Nat} (hN : 100 ≤ N) {rows cols q c : Nat} (hr : rows ≤ 64) (hcc : cols ≤ 64) (hq : q < rows) (hc : c < cols) (a3 a4 : Int) :
    ∀ (d f r : Nat) (L : List Int) (A : Mt), r + d = rows → d < f → Is rows cols L A →
      ∃ L', loopF (gf_clear2_v1_b8 N) f ((q : Int), (c : Int), a3, a4, (rows : Int), (r : Int), L, (rows : Int), (cols : Int)) = some (L', (rows : Int), (cols : Int)) ∧
        Is rows cols L' (fun a b => if r ≤ a ∧ a ≠ q then A a b + A a c * A q b else A a b) := by
  have hb : rows * cols ≤ 4096 := mul_bd hr hcc
  intro d
  induction d with
  | zero =>
    intro f r L A hk hf hI
    obtain ⟨f, rfl⟩ : ∃ g, f = g + 1 := ⟨f - 1, by omega⟩
    have : r = rows := by omega
    subst this
    exact ⟨L, by simp [loopF, gf_clear2_v1_b8], hI.congr (fun i hi j hj => by rw [if_neg (by omega)])⟩
  | succ d ih =>
    intro f r L A hk hf hI
    obtain ⟨f, rfl⟩ : ∃ g, f = g + 1 := ⟨f - 1, by omega⟩
    have hlt : r < rows := by omega
    have z0 : (r : Int) < (rows : Int) := by omega
    have b3 : r ≤ 1000000 := by omega
    by_cases hrq : r = q
    · obtain ⟨L', e1, e2⟩ := ih f (r + 1) L A (by omega) (by omega) hI
      refine ⟨L', ?_, e2.congr (fun i hi j hj => ?_)⟩
      · rw [← e1]
        have z1 : (r : Int) = (q : Int) := by omega
        simp only [loopF, gf_clear2_v1_b8, dT z0, cond_true, dT z1, Bool.not_true, cond_false, Option.bind_some, wrap_succ b3]
      · by_cases h1 : i = q
        · simp [h1]
        · have : (r + 1 ≤ i) = (r ≤ i) := propext (by omega)
          simp [this, h1]
    · have h1 := cell_lt hlt hc
      have hl := hI.len
      obtain ⟨L1, p1, p2⟩ := add_ok (N := N) hN hlt hq hrq hb hcc (A r c) hI
      obtain ⟨L', e1, e2⟩ := ih f (r + 1) L1 _ (by omega) (by omega) p2
      refine ⟨L', ?_, e2.congr (fun i hi j hj => ?_)⟩
      · rw [← e1]
        have z1 : ¬ ((r : Int) = (q : Int)) := by omega
        have z2 : (0 : Int) ≤ (c : Int) := by omega
        have z3 : (c : Int) < (cols : Int) := by omega
        have z4 : c + r * cols < L.length := by omega
        exact b8v_step _ z0 z1 z2 z3 z4 b3 (gf_row_eq (r := r) hlt hl (by omega) (by omega)) (gf_row_eq (r := q) hq hl (by omega) (by omega)) (hI.get r hlt c hc) p1
      · by_cases h1 : i = r
        · subst h1; simp [hrq, Nat.not_le.2 (Nat.lt_succ_self i)]
        · have : (r + 1 ≤ i) = (r ≤ i) := propext (by omega)
          simp [this, h1, Ne.symm hrq]

theorem clear1_loop {N : Nat} (hN : 100 ≤ N) {rows cols : Nat} (hr : rows ≤ 64) (hcc : cols ≤ 64) (A0 : Mt) (a7 : Int) (a8 : List Int) :
    ∀ (d f c n : Nat) (L : List Int) (A : Mt) (T T' : Mt → Mt) (p : Nat → Nat), c + d = cols → d < f → Is rows cols L A →
      Acts rows T T' → Lin.Same rows cols A (T A0) → Lin.Stepped rows c n p A →
      ∃ (n' : Nat) (L' : List Int) (A' : Mt) (T T' : Mt → Mt) (p : Nat → Nat), loopF (gf_clear2_v1_b0 N) f ((n : Int), (cols : Int), (c : Int), L, (rows : Int), (cols : Int), a7, a8) = some ((n' : Int), L', (rows : Int), (cols : Int), a7, a8) ∧
        Is rows cols L' A' ∧ Acts rows T T' ∧ Lin.Same rows cols A' (T A0) ∧ Lin.Stepped rows cols n' p A' := by
  have hb : rows * cols ≤ 4096 := mul_bd hr hcc
  intro d
  induction d with
  | zero =>
    intro f c n L A T T' p hc hf hI hT hA hS
    obtain ⟨f, rfl⟩ : ∃ g, f = g + 1 := ⟨f - 1, by omega⟩
    have : c = cols := by omega
    subst this
    exact ⟨n, L, A, T, T', p, by simp [loopF, gf_clear2_v1_b0], hI, hT, hA, hS⟩
  | succ d ih =>
    intro f c n L A T T' p hc hf hI hT hA hS
    obtain ⟨f, rfl⟩ : ∃ g, f = g + 1 := ⟨f - 1, by omega⟩
    have hclt : c < cols := by omega
    have z0 : (c : Int) < (cols : Int) := by omega
    have b3 : c ≤ 1000000 := by omega
    have hn := hS.le
    obtain ⟨q, q1, q2, q3, q4, q5⟩ := pivot_loop (N := N) hr hcc hclt hI (n : Int) (cols : Int) (c : Int) (rows - n) N n (by omega) (by omega)
    have q5' : gf_clear2_v1_l2 N ((n : Int), (c : Int), (n : Int), (cols : Int), (c : Int), L, (rows : Int), (cols : Int)) = some ((q : Int), L, (rows : Int), (cols : Int)) := q5
    by_cases hqr : q = rows
    · subst hqr
      obtain ⟨n', L', A', T1, T1', p1, e1, e2⟩ := ih f (c + 1) n L A T T' p (by omega) (by omega) hI hT hA (hS.skip (fun i h1 h2 => q3 i h1 h2))
      refine ⟨n', L', A', T1, T1', p1, ?_, e2⟩
      rw [← e1]
      simp only [loopF, gf_clear2_v1_b0, dT z0, cond_true, q5', Option.bind_some, decide_true, wrap_succ b3]
    · have hq : q < rows := by omega
      have hne := q4 hq
      have hnr : n < rows := by omega
      have h1 := cell_lt hq hclt
      have hl := hI.len
      have hi : G.inv (A q c) * A q c = 1 := by rw [G.mul_comm, G.mul_inv hne]
      obtain ⟨L1, L2, s1, s2, s3, s4⟩ := lead (N := N) hN hr hcc hq hnr (G.inv (A q c)) hI (n : Int) (c : Int) (q : Int) (((G.inv (A q c)).n : Nat) : Int) (cols : Int) (c : Int) 0 2
      obtain ⟨L3, u1, u2⟩ := addrows1_loop (N := N) hN hr hcc hnr hclt (cols : Int) (c : Int) rows N 0 _ _ (by omega) (by omega) s4
      have e0 : ((0 : Nat) : Int) = 0 := rfl
      rw [e0] at u1
      have s1' : gf_clear2_v1_l6_1 N ((n : Int), (c : Int), (q : Int), (((G.inv (A q c)).n : Nat) : Int), q * cols, cols, n * cols, cols, (cols : Int), (c : Int), 0, 2, (cols : Int), (0 : Int), L) = some L1 := s1
      have g1 : Lin.Same rows cols (fun a b => if 0 ≤ a ∧ a ≠ n then swapT q n (G.inv (A q c)) A a b + swapT q n (G.inv (A q c)) A a c * swapT q n (G.inv (A q c)) A n b else swapT q n (G.inv (A q c)) A a b)
          (addT n (fun r => swapT q n (G.inv (A q c)) A r c) (swapT q n (G.inv (A q c)) A)) := by
        intro i hi j hj
        simp only [addT]
        by_cases h : i = n <;> simp [h]
      have hX : Acts rows (fun X => addT n (fun r => swapT q n (G.inv (A q c)) A r c) (swapT q n (G.inv (A q c)) X)) _ := (Acts.swap hq hnr (show A q c * G.inv (A q c) = 1 from G.mul_inv hne)).comp (Acts.add hnr (fun r => swapT q n (G.inv (A q c)) A r c))
      obtain ⟨n', L', A', T1, T1', p1, e1, e2⟩ := ih f (c + 1) (n + 1) L3 _ _ _ _ (by omega) (by omega) (u2.congr g1) (hT.comp hX) (hX.cong _ _ _ hA) (hS.step q1 hq hi)
      refine ⟨n', L', A', T1, T1', p1, ?_, e2⟩
      rw [← e1]
      have y1 : ¬ ((q : Int) = (rows : Int)) := by omega
      have y2 : (0 : Int) ≤ (c : Int) := by omega
      have y3 : c + q * cols < L.length := by omega
      have y4 : ¬ ((rows : Int) = 0) := by omega
      have b4 : n ≤ 1000000 := by omega
      exact b0v_step _ z0 y1 y2 y3 y4 b3 b4 q5' (gf_row_eq (r := q) hq hl (by omega) (by omega)) (gf_row_eq (r := n) hnr hl (by omega) (by omega)) (hI.get q hq c hclt) (invG (by omega : 20 ≤ N) hne) s1' s2 s3 rfl u1

theorem check_ok {rows cols : Nat} {L : List Int} (h1 : 1 ≤ rows) (h2 : rows ≤ 64) (h3 : 1 ≤ cols) (h4 : cols ≤ 64) (hl : L.length = rows * cols) : gf_Check ((rows : Int), (cols : Int), L) = some 0 := by
  have hb : rows * cols ≤ 4096 := mul_bd h2 h4
  have e1 : wrapF .i64 ((rows : Int) * (cols : Int)) = ((rows * cols : Nat) : Int) := wrap_mul (by omega)
  have d1 : decide ((1 : Int) ≤ (rows : Int) ∧ (rows : Int) ≤ 64) = true := by rw [decide_eq_true_eq]; omega
  have d2 : decide ((1 : Int) ≤ (cols : Int) ∧ (cols : Int) ≤ 64) = true := by rw [decide_eq_true_eq]; omega
  simp [gf_Check, side_eq, d1, d2, e1, hl]

theorem clone_ok {L : List Int} (h1 : 1 ≤ L.length) (h2 : L.length ≤ 4096) : slices_Clone_byte_byte L = some L := by
  have e2 : fits 1 L.length = true := by simp [fits]; omega
  have d1 : ¬ (L.length = 0) := by omega
  simp only [slices_Clone_byte_byte, dF d1, e2, cond_true]
  rfl

theorem own_ok {rows cols : Nat} {L : List Int} (h1 : 1 ≤ rows) (h2 : rows ≤ 64) (h3 : 1 ≤ cols) (h4 : cols ≤ 64) (hl : L.length = rows * cols) : gf_own ((rows : Int), (cols : Int), L) = some ((rows : Int), (cols : Int), L) := by
  have hb : rows * cols ≤ 4096 := mul_bd h2 h4
  have hb2 : 1 * 1 ≤ rows * cols := mul_bd h1 h3
  simp only [gf_own, clone_ok (L := L) (by omega) (by omega), Option.bind_some]

/-- gf.Rank is the rank. -/
theorem rank_ok {N : Nat} (hN : 100 ≤ N) {rows cols : Nat} {L : List Int} {A : Mt} (h1 : 1 ≤ rows) (h2 : rows ≤ 64) (h3 : 1 ≤ cols) (h4 : cols ≤ 64) (hI : Is rows cols L A) :
    ∃ r : Nat, gf_Rank N ((rows : Int), (cols : Int), L) = some (((r : Nat) : Int), (0 : Int)) ∧ IsRank rows cols A r := by
  obtain ⟨n', L', A', T, T', p, e1, e2, e3, e4, e5⟩ := clear1_loop (N := N) hN h2 h4 A 0 [] cols N 0 0 L A _ _ _ (by omega) (by omega) hI (Acts.id rows) (Lin.Same.refl _ _ _) (Lin.Stepped.zero rows A)
  refine ⟨n', ?_, e5.rank e3 e4⟩
  have e0 : ((0 : Nat) : Int) = 0 := rfl
  rw [e0] at e1
  have hown := own_ok h1 h2 h3 h4 hI.len
  simp only [gf_Rank, check_ok h1 h2 h3 h4 hI.len, Option.bind_some, decide_true, Bool.not_true, cond_false, hown, gf_clear2_v1, gf_clear2_v1_l0, e1]

end Go.Rf.W
