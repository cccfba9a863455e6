/-
  The document's inverse and solution; the program's solution.
-/
import Derived.Test.YtmkpcnmjhmdndaaPlGfRef2
set_option linter.unusedVariables false
set_option linter.unusedSimpArgs false
namespace Go.Rf.W
open Go Go.Rf Go.Rf.Lin

theorem two_n {n : Nat} (h : n ≤ 64) : wrapF .i64 ((2 : Int) * (n : Int)) = ((n + n : Nat) : Int) := by
  rw [show (2 : Int) * (n : Int) = ((n + n : Nat) : Int) by omega]; exact wrap_nat (by omega)

theorem nn_le {n : Nat} (h : n ≤ 64) : n * (n + n) ≤ 1000000 := Nat.le_trans (Nat.mul_le_mul h (show n + n ≤ 128 by omega)) (by omega)

theorem rinv2 {N n r : Nat} (hn : n ≤ 64) (hr : r < n) {J : List Int} {A : Mt} (hJ : Is n n J A) :
    ∀ (d f c : Nat) (L : List Int) (M : Mt), c + d = n → d < f → Is n (n + n) L M →
      ∃ L', loopF (granaryref02_Inverse_b2 N) f ((n : Int), (r : Int), (c : Int), (n : Int), (n : Int), J, L, (n : Int), ((n + n : Nat) : Int)) = some ((n : Int), (n : Int), J, L', (n : Int), ((n + n : Nat) : Int)) ∧
        Is n (n + n) L' (fun a b => if a = r ∧ c ≤ b ∧ b < n then A a b else M a b) := by
  intro d
  induction d with
  | zero =>
    intro f c L M hk hf hI
    obtain ⟨f, rfl⟩ : ∃ g, f = g + 1 := ⟨f - 1, by omega⟩
    have : c = n := by omega
    subst this
    exact ⟨L, by simp [loopF, granaryref02_Inverse_b2], hI.congr (fun a ha b hb => by rw [if_neg (by omega)])⟩
  | succ d ih =>
    intro f c L M hk hf hI
    obtain ⟨f, rfl⟩ : ∃ g, f = g + 1 := ⟨f - 1, by omega⟩
    have hlt : c < n := by omega
    have hlt2 : c < n + n := by omega
    obtain ⟨L', e1, e2⟩ := ih f (c + 1) _ _ (by omega) (by omega) (hI.set hr hlt2 (A r c))
    refine ⟨L', ?_, e2.congr (fun a ha b hb => ?_)⟩
    · rw [← e1]
      have hl := hI.len
      have h1 := cell_lt hr hlt2
      have b3 : c ≤ 1000000 := by omega
      have z2 : (c : Int) < (n : Int) := by omega
      have z3 : c + r * (n + n) < L.length := by omega
      have y1 : (0 : Int) ≤ ((c + r * (n + n) : Nat) : Int) := by omega
      have y3 : ((c + r * (n + n) : Nat) : Int) < ((L.length : Nat) : Int) := by omega
      have w1 := at_eq hJ hr hlt (Nat.le_trans (Nat.mul_le_mul hn hn) (by omega))
      rw [← at_v] at w1
      show granaryref02_Inverse_b2 N (loopF (granaryref02_Inverse_b2 N) f) _ = _
      unfold granaryref02_Inverse_b2
      dsimp only
      rw [dT z2, cond_true, w1, Option.bind_some, two_n hn, cidx' hr hlt2 (nn_le hn), dT y1, dT y3, Bool.and_self, cond_true, Int.toNat_natCast, dT z3, cond_true, wrap_succ b3]
    · by_cases h1 : b = c
      · subst h1
        by_cases h : a = r
        · subst h; simp [Nat.not_le.2 (Nat.lt_succ_self b), hlt]
        · simp [h]
      · have : (c + 1 ≤ b) = (c ≤ b) := propext (by omega)
        simp [h1, this]

theorem rinv0 {N n : Nat} (hN : 100 ≤ N) (hn : n ≤ 64) {J : List Int} {A : Mt} (hJ : Is n n J A) :
    ∀ (d f r : Nat) (L : List Int) (M : Mt), r + d = n → d < f → Is n (n + n) L M →
      ∃ L', loopF (granaryref02_Inverse_b0 N) f ((n : Int), (r : Int), (n : Int), (n : Int), J, L, (n : Int), ((n + n : Nat) : Int)) = some ((n : Int), (n : Int), J, L', (n : Int), ((n + n : Nat) : Int)) ∧
        Is n (n + n) L' (fun a b => if r ≤ a then (if b < n then A a b else if b = n + a then 1 else M a b) else M a b) := by
  intro d
  induction d with
  | zero =>
    intro f r L M hk hf hI
    obtain ⟨f, rfl⟩ : ∃ g, f = g + 1 := ⟨f - 1, by omega⟩
    have : r = n := by omega
    subst this
    exact ⟨L, by simp [loopF, granaryref02_Inverse_b0], hI.congr (fun a ha b hb => by rw [if_neg (by omega)])⟩
  | succ d ih =>
    intro f r L M hk hf hI
    obtain ⟨f, rfl⟩ : ∃ g, f = g + 1 := ⟨f - 1, by omega⟩
    have hlt : r < n := by omega
    have z0 : (r : Int) < (n : Int) := by omega
    have b3 : r ≤ 1000000 := by omega
    obtain ⟨L1, p1, p2⟩ := rinv2 (N := N) hn hlt hJ n N 0 L M (by omega) (by omega) hI
    have e0 : ((0 : Nat) : Int) = 0 := rfl
    rw [e0] at p1
    have hlt2 : n + r < n + n := by omega
    obtain ⟨L', e1, e2⟩ := ih f (r + 1) _ _ (by omega) (by omega) (p2.set hlt hlt2 1)
    refine ⟨L', ?_, e2.congr (fun a ha b hb => ?_)⟩
    · rw [← e1]
      have hl := p2.len
      have h1 := cell_lt hlt hlt2
      have hnn := nn_le hn
      have z3 : (n + r) + r * (n + n) < L1.length := by omega
      have y1 : (0 : Int) ≤ (((n + r) + r * (n + n) : Nat) : Int) := by omega
      have y3 : (((n + r) + r * (n + n) : Nat) : Int) < ((L1.length : Nat) : Int) := by omega
      have w1 := cidx' hlt (show n < n + n by omega) hnn
      have w2 : wrapF .i64 (((n + r * (n + n) : Nat) : Int) + (r : Int)) = (((n + r) + r * (n + n) : Nat) : Int) := by
        rw [show ((n + r * (n + n) : Nat) : Int) + (r : Int) = (((n + r) + r * (n + n) : Nat) : Int) by omega]; exact wrap_nat (by omega)
      have g1 : ((G.n 1 : Nat) : Int) = 1 := rfl
      rw [g1]
      show granaryref02_Inverse_b0 N (loopF (granaryref02_Inverse_b0 N) f) _ = _
      unfold granaryref02_Inverse_b0
      dsimp only
      rw [dT z0, cond_true, granaryref02_Inverse_l2, p1, Option.bind_some]
      dsimp only
      rw [two_n hn, w1, w2, dT y1, dT y3, Bool.and_self, cond_true, Int.toNat_natCast, dT z3, cond_true, wrap_succ b3]
    · by_cases h1 : a = r
      · subst h1
        by_cases h2 : b < n
        · have : ¬ b = n + a := by omega
          simp [h2, this, Nat.not_le.2 (Nat.lt_succ_self a)]
        · by_cases h3 : b = n + a
          · have : ¬ (n + a < n) := by omega
            simp [h3, Nat.not_le.2 (Nat.lt_succ_self a), this]
          · simp [h2, h3, Nat.not_le.2 (Nat.lt_succ_self a)]
      · have : (r + 1 ≤ a) = (r ≤ a) := propext (by omega)
        simp [h1, this]

theorem rinv6 {N n r : Nat} (hn : n ≤ 64) (hr : r < n) {K : List Int} {W : Mt} (hK : Is n (n + n) K W) :
    ∀ (d f c : Nat) (L : List Int) (M : Mt), c + d = n → d < f → Is n n L M →
      ∃ L', loopF (granaryref02_Inverse_b6 N) f ((n : Int), (r : Int), (c : Int), (n : Int), ((n + n : Nat) : Int), K, L, (n : Int), (n : Int)) = some ((n : Int), ((n + n : Nat) : Int), K, L', (n : Int), (n : Int)) ∧
        Is n n L' (fun a b => if a = r ∧ c ≤ b then W a (b + n) else M a b) := by
  have hb : n * n ≤ 4096 := mul_bd hn hn
  intro d
  induction d with
  | zero =>
    intro f c L M hk hf hI
    obtain ⟨f, rfl⟩ : ∃ g, f = g + 1 := ⟨f - 1, by omega⟩
    have : c = n := by omega
    subst this
    exact ⟨L, by simp [loopF, granaryref02_Inverse_b6], hI.congr (fun a ha b hb => by rw [if_neg (by omega)])⟩
  | succ d ih =>
    intro f c L M hk hf hI
    obtain ⟨f, rfl⟩ : ∃ g, f = g + 1 := ⟨f - 1, by omega⟩
    have hlt : c < n := by omega
    have hlt2 : c + n < n + n := by omega
    obtain ⟨L', e1, e2⟩ := ih f (c + 1) _ _ (by omega) (by omega) (hI.set hr hlt (W r (c + n)))
    refine ⟨L', ?_, e2.congr (fun a ha b hb => ?_)⟩
    · rw [← e1]
      have hl := hI.len
      have h1 := cell_lt hr hlt
      have b3 : c ≤ 1000000 := by omega
      have z2 : (c : Int) < (n : Int) := by omega
      have z3 : c + r * n < L.length := by omega
      have y1 : (0 : Int) ≤ ((c + r * n : Nat) : Int) := by omega
      have y3 : ((c + r * n : Nat) : Int) < ((L.length : Nat) : Int) := by omega
      have w1 := at_eq hK hr hlt2 (nn_le hn)
      show granaryref02_Inverse_b6 N (loopF (granaryref02_Inverse_b6 N) f) _ = _
      unfold granaryref02_Inverse_b6
      dsimp only
      rw [dT z2, cond_true, wrap_add2 (p := n) (k := c) (by omega), w1, Option.bind_some, cidx' hr hlt (show n * n ≤ 1000000 by omega), dT y1, dT y3, Bool.and_self, cond_true, Int.toNat_natCast, dT z3, cond_true, wrap_succ b3]
    · by_cases h1 : b = c
      · subst h1
        by_cases h : a = r
        · subst h; simp [Nat.not_le.2 (Nat.lt_succ_self b)]
        · simp [h]
      · have : (c + 1 ≤ b) = (c ≤ b) := propext (by omega)
        simp [h1, this]

theorem rinv4 {N n : Nat} (hN : 100 ≤ N) (hn : n ≤ 64) {K : List Int} {W : Mt} (hK : Is n (n + n) K W) :
    ∀ (d f r : Nat) (L : List Int) (M : Mt), r + d = n → d < f → Is n n L M →
      ∃ L', loopF (granaryref02_Inverse_b4 N) f ((n : Int), (r : Int), (n : Int), ((n + n : Nat) : Int), K, L, (n : Int), (n : Int)) = some ((n : Int), ((n + n : Nat) : Int), K, L', (n : Int), (n : Int)) ∧
        Is n n L' (fun a b => if r ≤ a then W a (b + n) else M a b) := by
  intro d
  induction d with
  | zero =>
    intro f r L M hk hf hI
    obtain ⟨f, rfl⟩ : ∃ g, f = g + 1 := ⟨f - 1, by omega⟩
    have : r = n := by omega
    subst this
    exact ⟨L, by simp [loopF, granaryref02_Inverse_b4], hI.congr (fun a ha b hb => by rw [if_neg (by omega)])⟩
  | succ d ih =>
    intro f r L M hk hf hI
    obtain ⟨f, rfl⟩ : ∃ g, f = g + 1 := ⟨f - 1, by omega⟩
    have hlt : r < n := by omega
    have z0 : (r : Int) < (n : Int) := by omega
    have b3 : r ≤ 1000000 := by omega
    obtain ⟨L1, p1, p2⟩ := rinv6 (N := N) hn hlt hK n N 0 L M (by omega) (by omega) hI
    have e0 : ((0 : Nat) : Int) = 0 := rfl
    rw [e0] at p1
    obtain ⟨L', e1, e2⟩ := ih f (r + 1) L1 _ (by omega) (by omega) p2
    refine ⟨L', ?_, e2.congr (fun a ha b hb => ?_)⟩
    · rw [← e1]
      show granaryref02_Inverse_b4 N (loopF (granaryref02_Inverse_b4 N) f) _ = _
      unfold granaryref02_Inverse_b4
      dsimp only
      rw [dT z0, cond_true, granaryref02_Inverse_l6, p1, Option.bind_some, wrap_succ b3]
    · by_cases h1 : a = r
      · subst h1; simp [Nat.not_le.2 (Nat.lt_succ_self a)]
      · have : (r + 1 ≤ a) = (r ≤ a) := propext (by omega)
        simp [h1, this]

/-- The document's inverse. -/
theorem refInverse_ok {N : Nat} (hN : 300 ≤ N) {n : Nat} {L : List Int} {A : Mt} (h1 : 1 ≤ n) (h2 : n ≤ 64) (hI : Is n n L A) :
    ∃ r : Nat, IsRank n n A r ∧ ((r < n ∧ granaryref02_Inverse N ((n : Int), (n : Int), L) = some (0, 0, 22, [])) ∨
      (r = n ∧ ∃ L' I, granaryref02_Inverse N ((n : Int), (n : Int), L) = some ((n : Int), (n : Int), 0, L') ∧ Is n n L' I ∧ IsInv n A I)) := by
  have e0 : ((0 : Nat) : Int) = 0 := rfl
  have hnn := nn_le h2
  have hsz : n * (n + n) ≤ 64 * 128 := Nat.mul_le_mul h2 (by omega)
  have hb : n * n ≤ 4096 := mul_bd h2 h2
  obtain ⟨W, p1, p2⟩ := rinv0 (N := N) (by omega) h2 hI n N 0 _ _ (by omega) (by omega) (Is.zeros n (n + n))
  obtain ⟨r, L', A', T, T', p, q1, q2, q3, q4, q5⟩ := cleared_ok (N := N) hN (lead := n) h2 (show n + n ≤ 128 by omega) (by omega) p2
  have hl : Lin.Same n n (fun i j => (fun a b => if 0 ≤ a then (if b < n then A a b else if b = n + a then 1 else (0 : G)) else 0) i (j + 0)) A := by
    intro i hi j hj
    simp [hj]
  have hr : Lin.Same n n (fun i j => (fun a b => if 0 ≤ a then (if b < n then A a b else if b = n + a then 1 else (0 : G)) else 0) i (j + n)) Lin.one := by
    intro i hi j hj
    have h3 : ¬ (j + n < n) := by omega
    have h4 : (j + n = n + i) = (i = j) := propext (by omega)
    simp [h3, h4, Lin.one]
  obtain ⟨V, v1, v2⟩ := rinv4 (N := N) (by omega) h2 q2 n N 0 _ _ (by omega) (by omega) (Is.zeros n n)
  rw [e0] at p1 v1
  have w0 : wrapF .i64 (((n + n : Nat) : Int) * (n : Int)) = ((n * (n + n) : Nat) : Int) := by
    rw [Int.mul_comm]; exact wrap_mul hnn
  have y1 : (0 : Int) ≤ ((n * (n + n) : Nat) : Int) := by omega
  have y2 : fits 1 (n * (n + n)) = true := by simp [fits]; omega
  refine ⟨r, q5.rankW q3 (by omega) q4 hl, ?_⟩
  have hle := q5.le
  rcases Nat.lt_or_ge r n with h | h
  · refine .inl ⟨h, ?_⟩
    have z : (r : Int) < (n : Int) := by omega
    unfold granaryref02_Inverse
    dsimp only
    rw [refCheck_ok h1 h2 h1 h2 hI.len, Option.bind_some, dT rfl, Bool.not_true, cond_false, dT rfl, Bool.not_true, cond_false, two_n h2, w0, dT y1, Int.toNat_natCast, y2, Bool.and_self, cond_true, granaryref02_Inverse_l0]
    rw [show (EK.dflt (.int .u8) : Int) = 0 from rfl, p1, Option.bind_some]
    dsimp only
    rw [q1, Option.bind_some]
    dsimp only
    rw [dT z, cond_true]
  · have hrn : r = n := by omega
    subst hrn
    refine .inr ⟨rfl, V, (fun i j => A' i (j + r)), ?_, v2.congr (fun a ha b hb => by simp), q5.invW q3 (by omega) q4 hl hr⟩
    have z : ¬ ((r : Int) < (r : Int)) := by omega
    unfold granaryref02_Inverse
    dsimp only
    rw [refCheck_ok h1 h2 h1 h2 hI.len, Option.bind_some, dT rfl, Bool.not_true, cond_false, dT rfl, Bool.not_true, cond_false, two_n h2, w0, dT y1, Int.toNat_natCast, y2, Bool.and_self, cond_true, granaryref02_Inverse_l0]
    rw [show (EK.dflt (.int .u8) : Int) = 0 from rfl, p1, Option.bind_some]
    dsimp only
    rw [q1, Option.bind_some]
    dsimp only
    rw [dF z, cond_false, refNew_eq hb, Option.bind_some]
    dsimp only
    rw [granaryref02_Inverse_l4, v1, Option.bind_some]

theorem inverse_same {N : Nat} (hN : 300 ≤ N) {n : Nat} {L : List Int} {A : Mt} (h1 : 1 ≤ n) (h2 : n ≤ 64) (hI : Is n n L A) :
    ∃ x, gf_Inverse N ((n : Int), (n : Int), L) = some x ∧ granaryref02_Inverse N ((n : Int), (n : Int), L) = some x := by
  obtain ⟨r, a1, a2⟩ := inverse_ok (N := N) (by omega) h1 h2 hI
  obtain ⟨s, b1, b2⟩ := refInverse_ok (N := N) hN h1 h2 hI
  obtain rfl := a1.unique b1
  rcases a2 with ⟨a3, a4⟩ | ⟨a3, X, I, a4, a5, a6⟩
  · rcases b2 with ⟨b3, b4⟩ | ⟨b3, _⟩
    · exact ⟨_, a4, b4⟩
    · omega
  · rcases b2 with ⟨b3, _⟩ | ⟨b3, Y, K, b4, b5, b6⟩
    · omega
    · obtain rfl : X = Y := Is.ext a5 b5 (a6.unique b6)
      exact ⟨_, a4, b4⟩

theorem solve_same {N : Nat} (hN : 300 ≤ N) {n : Nat} {L Y : List Int} {A : Mt} (h1 : 1 ≤ n) (h2 : n ≤ 64) (hI : Is n n L A) (hY : Y.length = n) (hb : ∀ x, x ∈ Y → 0 ≤ x ∧ x < 256) :
    ∃ x, gf_Solve N ((n : Int), (n : Int), L, Y) = some x ∧ granaryref02_Solve N ((n : Int), (n : Int), L, Y) = some x := by
  have e0 : ((0 : Nat) : Int) = 0 := rfl
  have e1 : ((1 : Nat) : Int) = 1 := rfl
  obtain ⟨B, iB⟩ := Is.of (rows := n) (cols := 1) (by omega) hb
  obtain ⟨r, L', M', A', B', T, T', p, c1, c2, c3, c4, c5, c6, c7⟩ := clear_loop (N := N) (by omega) h2 h2 (show 1 ≤ 64 by omega) A B n N 0 0 L Y A B _ _ _ (by omega) (by omega) hI iB (Acts.id n) (Lin.Same.refl _ _ _) (Lin.Same.refl _ _ _) (Lin.Stepped.zero n A)
  rw [e0, e1] at c1
  obtain ⟨s, b1, b2⟩ := refInverse_ok (N := N) hN h1 h2 hI
  obtain rfl := (c7.rank c4 c5).unique b1
  have hck := check_ok h1 h2 h1 h2 hI.len
  have hcr := refCheck_ok h1 h2 h1 h2 hI.len
  have hown := own_ok h1 h2 h1 h2 hI.len
  have hcl : slices_Clone_byte_byte Y = some Y := clone_ok (by omega) (by omega)
  have hYi : ((Y.length : Nat) : Int) = (n : Int) := by omega
  have t1 : decide ((n : Int) = (n : Int)) = true := dT rfl
  have hgf : ∀ z, gf_clear2 N ((n : Int), (n : Int), (n : Int), (1 : Int), L, Y) = some z → gf_Solve N ((n : Int), (n : Int), L, Y) = (cond (decide (z.1 < (n : Int))) (some ((22 : Int), ([] : List Int))) (some ((0 : Int), z.2.2))) := by
    intro z hz
    unfold gf_Solve
    dsimp only
    rw [hck, Option.bind_some, dT rfl, Bool.not_true, cond_false, t1, Bool.not_true, cond_false, hYi, t1, Bool.not_true, Option.bind_some, cond_false, hcl, Option.bind_some, hown, Option.bind_some]
    dsimp only
    rw [hz, Option.bind_some]
  have hcl2 : gf_clear2 N ((n : Int), (n : Int), (n : Int), (1 : Int), L, Y) = some ((r : Int), L', M') := by
    simp only [gf_clear2, gf_clear2_l0, c1, Option.bind_some]
  rw [hgf _ hcl2]
  dsimp only
  rcases b2 with ⟨b3, b4⟩ | ⟨b3, V, I, b4, b5, b6⟩
  · have z : (r : Int) < (n : Int) := by omega
    refine ⟨(22, []), by rw [dT z, cond_true], ?_⟩
    unfold granaryref02_Solve
    dsimp only
    rw [hcr, Option.bind_some, dT rfl, Bool.not_true, cond_false, t1, Bool.not_true, cond_false, hYi, t1, Bool.not_true, Option.bind_some, cond_false, b4, Option.bind_some]
    dsimp only
    rw [dF (show ¬ ((22 : Int) = 0) by omega), Bool.not_false, cond_true]
  · subst b3
    have z : ¬ ((r : Int) < (r : Int)) := by omega
    obtain ⟨Z, d1, d2⟩ := refProduct_ok (N := N) (by omega) h1 h2 (show 1 ≤ 1 by omega) (show 1 ≤ 64 by omega) h1 h2 b5 iB
    rw [e1] at d1
    have hinv : IsInv r A (T Lin.one) := c7.inv c4 c5 (Lin.Same.refl _ _ _)
    have hT : Lin.Same r 1 B' (mm r I B) := by
      refine c6.trans ?_
      refine ((c4.cong 1 _ _ (one_mm B)).symm).trans ?_
      rw [c4.map]
      exact Lin.Same.mm (hinv.unique b6) (Lin.Same.refl _ _ _)
    obtain rfl : M' = Z := Is.ext c3 d2 hT
    refine ⟨(0, M'), by rw [dF z, cond_false], ?_⟩
    unfold granaryref02_Solve
    dsimp only
    rw [hcr, Option.bind_some, dT rfl, Bool.not_true, cond_false, t1, Bool.not_true, cond_false, hYi, t1, Bool.not_true, Option.bind_some, cond_false, b4, Option.bind_some]
    dsimp only
    rw [dT rfl, Bool.not_true, cond_false, product_v, d1, Option.bind_some]

theorem solve_side {N : Nat} {m n : Nat} {L Y : List Int} (h1 : 1 ≤ m) (h2 : m ≤ 64) (h3 : 1 ≤ n) (h4 : n ≤ 64) (hl : L.length = m * n) (h : ¬ (m = n ∧ Y.length = m)) :
    gf_Solve N ((m : Int), (n : Int), L, Y) = some (23, []) ∧ granaryref02_Solve N ((m : Int), (n : Int), L, Y) = some (23, []) := by
  by_cases hmn : m = n
  · have hy : ¬ (((Y.length : Nat) : Int) = (m : Int)) := fun e => h ⟨hmn, by omega⟩
    have t1 : (m : Int) = (n : Int) := by omega
    exact ⟨by simp only [gf_Solve, check_ok h1 h2 h3 h4 hl, Option.bind_some, decide_true, Bool.not_true, cond_false, dT t1, dF hy, Bool.not_false, cond_true],
      by simp only [granaryref02_Solve, refCheck_ok h1 h2 h3 h4 hl, Option.bind_some, decide_true, Bool.not_true, cond_false, dT t1, dF hy, Bool.not_false, cond_true]⟩
  · have t1 : ¬ ((m : Int) = (n : Int)) := by omega
    exact ⟨by simp only [gf_Solve, check_ok h1 h2 h3 h4 hl, Option.bind_some, decide_true, Bool.not_true, cond_false, dF t1, Bool.not_false, cond_true],
      by simp only [granaryref02_Solve, refCheck_ok h1 h2 h3 h4 hl, Option.bind_some, decide_true, Bool.not_true, cond_false, dF t1, Bool.not_false, cond_true]⟩

theorem refInverse_side {N : Nat} {m n : Nat} {L : List Int} (h1 : 1 ≤ m) (h2 : m ≤ 64) (h3 : 1 ≤ n) (h4 : n ≤ 64) (hl : L.length = m * n) (hne : m ≠ n) :
    granaryref02_Inverse N ((m : Int), (n : Int), L) = some (0, 0, 23, []) := by
  have z : ¬ ((m : Int) = (n : Int)) := by omega
  simp only [granaryref02_Inverse, refCheck_ok h1 h2 h3 h4 hl, Option.bind_some, decide_true, Bool.not_true, cond_false, dF z, Bool.not_false, cond_true]

end Go.Rf.W
