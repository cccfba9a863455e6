/-
  The document's product, turned matrix, rows, inverse.
-/
import Derived.Test.YtmkpcnmjhmdndaaPlGfRef
set_option linter.unusedVariables false
set_option linter.unusedSimpArgs false
namespace Go.Rf.W
open Go Go.Rf Go.Rf.Lin

theorem cidx' {rows cols i j : Nat} (hi : i < rows) (hj : j < cols) (hb : rows * cols ≤ 1000000) : wrapF .i64 ((wrapF .i64 ((cols : Int) * (i : Int))) + (j : Int)) = ((j + i * cols : Nat) : Int) := by
  rw [Int.mul_comm]; exact cidx hi hj hb

/-! The product -/

theorem rprod4 {N : Nat} (hN : 20 ≤ N) {rows mid cols r c : Nat} (h2 : rows ≤ 64) (h4 : cols ≤ 64) (h5 : mid ≤ 64) (hr : r < rows) (hc : c < cols) {J K : List Int} {A B : Mt} (hJ : Is rows mid J A) (hK : Is mid cols K B) :
    ∀ (d f k : Nat) (L : List Int) (M : Mt), k + d = mid → d < f → Is rows cols L M → M r c = sum k (fun l => A r l * B l c) →
      ∃ L', loopF (granaryref02_Product_b4 N) f ((r : Int), (c : Int), (k : Int), (rows : Int), (mid : Int), J, (mid : Int), (cols : Int), K, L, (rows : Int), (cols : Int)) = some ((rows : Int), (mid : Int), J, (mid : Int), (cols : Int), K, L', (rows : Int), (cols : Int)) ∧
        Is rows cols L' (fun a b => if a = r ∧ b = c then mm mid A B r c else M a b) := by
  have hb : rows * cols ≤ 4096 := mul_bd h2 h4
  have hb2 : rows * mid ≤ 4096 := mul_bd h2 h5
  have hb3 : mid * cols ≤ 4096 := mul_bd h5 h4
  intro d
  induction d with
  | zero =>
    intro f k L M hk hf hI hM
    obtain ⟨f, rfl⟩ : ∃ g, f = g + 1 := ⟨f - 1, by omega⟩
    have : k = mid := by omega
    subst this
    refine ⟨L, by simp [loopF, granaryref02_Product_b4], hI.congr (fun a ha b hb => ?_)⟩
    split
    · rename_i h; rw [h.1, h.2, hM]; rfl
    · rfl
  | succ d ih =>
    intro f k L M hk hf hI hM
    obtain ⟨f, rfl⟩ : ∃ g, f = g + 1 := ⟨f - 1, by omega⟩
    have hlt : k < mid := by omega
    obtain ⟨L', e1, e2⟩ := ih f (k + 1) _ _ (by omega) (by omega) (hI.set hr hc (M r c + A r k * B k c)) (by simp [sum, hM])
    refine ⟨L', ?_, e2.congr (fun a ha b hb => ?_)⟩
    · rw [← e1]
      have hl := hI.len
      have h1 := cell_lt hr hc
      have b3 : k ≤ 1000000 := by omega
      have z2 : (k : Int) < (mid : Int) := by omega
      have z3 : c + r * cols < L.length := by omega
      have y1 : (0 : Int) ≤ ((c + r * cols : Nat) : Int) := by omega
      have y3 : ((c + r * cols : Nat) : Int) < ((L.length : Nat) : Int) := by omega
      have w1 := at_eq hJ hr hlt (by omega)
      have w2 := at_eq hK hlt hc (by omega)
      rw [← at_v] at w1 w2
      simp only [loopF, granaryref02_Product_b4, cidx hr hc (show rows * cols ≤ 1000000 by omega), w1, w2, Option.bind_some, rmulG hN, EK.dflt, hI.get r hr c hc, xorG, dT z2, dT z3, dT y1, dT y3, Bool.and_self, cond_true, Int.toNat_natCast, wrap_succ b3]
    · by_cases h : a = r ∧ b = c <;> simp [h]

theorem rprod2 {N : Nat} (hN : 100 ≤ N) {rows mid cols r : Nat} (h2 : rows ≤ 64) (h4 : cols ≤ 64) (h5 : mid ≤ 64) (hr : r < rows) {J K : List Int} {A B : Mt} (hJ : Is rows mid J A) (hK : Is mid cols K B) :
    ∀ (d f c : Nat) (L : List Int) (M : Mt), c + d = cols → d < f → Is rows cols L M → (∀ b, c ≤ b → M r b = 0) →
      ∃ L', loopF (granaryref02_Product_b2 N) f ((r : Int), (c : Int), (rows : Int), (mid : Int), J, (mid : Int), (cols : Int), K, L, (rows : Int), (cols : Int)) = some ((rows : Int), (mid : Int), J, (mid : Int), (cols : Int), K, L', (rows : Int), (cols : Int)) ∧
        Is rows cols L' (fun a b => if a = r ∧ c ≤ b then mm mid A B r b else M a b) := by
  intro d
  induction d with
  | zero =>
    intro f c L M hk hf hI hM
    obtain ⟨f, rfl⟩ : ∃ g, f = g + 1 := ⟨f - 1, by omega⟩
    have : c = cols := by omega
    subst this
    exact ⟨L, by simp [loopF, granaryref02_Product_b2], hI.congr (fun a ha b hb => by rw [if_neg (by omega)])⟩
  | succ d ih =>
    intro f c L M hk hf hI hM
    obtain ⟨f, rfl⟩ : ∃ g, f = g + 1 := ⟨f - 1, by omega⟩
    have hlt : c < cols := by omega
    have z0 : (c : Int) < (cols : Int) := by omega
    have b3 : c ≤ 1000000 := by omega
    obtain ⟨L1, p1, p2⟩ := rprod4 (N := N) (by omega) h2 h4 h5 hr hlt hJ hK mid N 0 L M (by omega) (by omega) hI (by rw [hM c (Nat.le_refl _)]; rfl)
    have e0 : ((0 : Nat) : Int) = 0 := rfl
    rw [e0] at p1
    obtain ⟨L', e1, e2⟩ := ih f (c + 1) L1 _ (by omega) (by omega) p2 (fun b hb => by rw [if_neg (by omega)]; exact hM b (by omega))
    refine ⟨L', ?_, e2.congr (fun a ha b hb => ?_)⟩
    · rw [← e1]
      simp only [loopF, granaryref02_Product_b2, granaryref02_Product_l4, dT z0, cond_true, p1, Option.bind_some, wrap_succ b3]
    · by_cases h1 : b = c
      · subst h1
        by_cases h : a = r <;> simp [h]
      · have : (c + 1 ≤ b) = (c ≤ b) := propext (by omega)
        simp [h1, this]

theorem rprod0 {N : Nat} (hN : 100 ≤ N) {rows mid cols : Nat} (h2 : rows ≤ 64) (h4 : cols ≤ 64) (h5 : mid ≤ 64) {J K : List Int} {A B : Mt} (hJ : Is rows mid J A) (hK : Is mid cols K B) :
    ∀ (d f r : Nat) (L : List Int) (M : Mt), r + d = rows → d < f → Is rows cols L M → (∀ a b, r ≤ a → M a b = 0) →
      ∃ L', loopF (granaryref02_Product_b0 N) f ((r : Int), (rows : Int), (mid : Int), J, (mid : Int), (cols : Int), K, L, (rows : Int), (cols : Int)) = some ((rows : Int), (mid : Int), J, (mid : Int), (cols : Int), K, L', (rows : Int), (cols : Int)) ∧
        Is rows cols L' (fun a b => if r ≤ a then mm mid A B a b else M a b) := by
  intro d
  induction d with
  | zero =>
    intro f r L M hk hf hI hM
    obtain ⟨f, rfl⟩ : ∃ g, f = g + 1 := ⟨f - 1, by omega⟩
    have : r = rows := by omega
    subst this
    exact ⟨L, by simp [loopF, granaryref02_Product_b0], hI.congr (fun a ha b hb => by rw [if_neg (by omega)])⟩
  | succ d ih =>
    intro f r L M hk hf hI hM
    obtain ⟨f, rfl⟩ : ∃ g, f = g + 1 := ⟨f - 1, by omega⟩
    have hlt : r < rows := by omega
    have z0 : (r : Int) < (rows : Int) := by omega
    have b3 : r ≤ 1000000 := by omega
    obtain ⟨L1, p1, p2⟩ := rprod2 (N := N) hN h2 h4 h5 hlt hJ hK cols N 0 L M (by omega) (by omega) hI (fun b _ => hM r b (Nat.le_refl _))
    have e0 : ((0 : Nat) : Int) = 0 := rfl
    rw [e0] at p1
    obtain ⟨L', e1, e2⟩ := ih f (r + 1) L1 _ (by omega) (by omega) p2 (fun a b ha => by rw [if_neg (by omega)]; exact hM a b (by omega))
    refine ⟨L', ?_, e2.congr (fun a ha b hb => ?_)⟩
    · rw [← e1]
      simp only [loopF, granaryref02_Product_b0, granaryref02_Product_l2, dT z0, cond_true, p1, Option.bind_some, wrap_succ b3]
    · by_cases h1 : a = r
      · subst h1; simp [Nat.not_le.2 (Nat.lt_succ_self a)]
      · have : (r + 1 ≤ a) = (r ≤ a) := propext (by omega)
        simp [h1, this]

theorem both_ok {r1 c1 r2 c2 : Int} {J K : List Int} (h1 : granaryref02_Check (r1, c1, J) = some 0) (h2 : granaryref02_Check (r2, c2, K) = some 0) : granaryref02_both (r1, c1, J, r2, c2, K) = some 0 := by
  simp [granaryref02_both, h1, h2]

theorem refProduct_ok {N : Nat} (hN : 100 ≤ N) {rows mid cols : Nat} {J K : List Int} {A B : Mt} (h1 : 1 ≤ rows) (h2 : rows ≤ 64) (h3 : 1 ≤ cols) (h4 : cols ≤ 64) (h5 : 1 ≤ mid) (h6 : mid ≤ 64) (hJ : Is rows mid J A) (hK : Is mid cols K B) :
    ∃ L', granaryref02_Product N ((rows : Int), (mid : Int), J, (mid : Int), (cols : Int), K) = some ((rows : Int), (cols : Int), 0, L') ∧ Is rows cols L' (mm mid A B) := by
  have hb : rows * cols ≤ 4096 := mul_bd h2 h4
  obtain ⟨L', e1, e2⟩ := rprod0 (N := N) hN h2 h4 h6 hJ hK rows N 0 _ _ (by omega) (by omega) (Is.zeros rows cols) (fun _ _ _ => rfl)
  have e0 : ((0 : Nat) : Int) = 0 := rfl
  rw [e0] at e1
  refine ⟨L', ?_, e2.congr (fun a ha b hb => by simp)⟩
  simp only [granaryref02_Product, both_ok (refCheck_ok h1 h2 h5 h6 hJ.len) (refCheck_ok h5 h6 h3 h4 hK.len), Option.bind_some, decide_true, Bool.not_true, cond_false, refNew_eq hb, granaryref02_Product_l0, e1]

theorem refProduct_side {N : Nat} {r1 c1 r2 c2 : Nat} {J K : List Int} (h1 : granaryref02_Check ((r1 : Int), (c1 : Int), J) = some 0) (h2 : granaryref02_Check ((r2 : Int), (c2 : Int), K) = some 0) (hne : c1 ≠ r2) :
    granaryref02_Product N ((r1 : Int), (c1 : Int), J, (r2 : Int), (c2 : Int), K) = some (0, 0, 23, []) := by
  have z : ¬ ((c1 : Int) = (r2 : Int)) := by omega
  simp only [granaryref02_Product, both_ok h1 h2, Option.bind_some, decide_true, Bool.not_true, cond_false, dF z, Bool.not_false, cond_true]

theorem product_v : granaryref02_Product_v1 = granaryref02_Product := rfl

/-! Rows and columns exchanged -/

theorem rturn2 {N : Nat} {rows cols r : Nat} (h2 : rows ≤ 64) (h4 : cols ≤ 64) (hr : r < rows) {J : List Int} {A : Mt} (hJ : Is rows cols J A) :
    ∀ (d f c : Nat) (L : List Int) (M : Mt), c + d = cols → d < f → Is cols rows L M →
      ∃ L', loopF (granaryref02_Turn_b2 N) f ((r : Int), (c : Int), (rows : Int), (cols : Int), J, L, (cols : Int), (rows : Int)) = some ((rows : Int), (cols : Int), J, L', (cols : Int), (rows : Int)) ∧
        Is cols rows L' (fun a b => if b = r ∧ c ≤ a then A b a else M a b) := by
  have hb : rows * cols ≤ 4096 := mul_bd h2 h4
  have hb2 : cols * rows ≤ 4096 := mul_bd h4 h2
  intro d
  induction d with
  | zero =>
    intro f c L M hk hf hI
    obtain ⟨f, rfl⟩ : ∃ g, f = g + 1 := ⟨f - 1, by omega⟩
    have : c = cols := by omega
    subst this
    exact ⟨L, by simp [loopF, granaryref02_Turn_b2], hI.congr (fun a ha b hb => by rw [if_neg (by omega)])⟩
  | succ d ih =>
    intro f c L M hk hf hI
    obtain ⟨f, rfl⟩ : ∃ g, f = g + 1 := ⟨f - 1, by omega⟩
    have hlt : c < cols := by omega
    obtain ⟨L', e1, e2⟩ := ih f (c + 1) _ _ (by omega) (by omega) (hI.set hlt hr (A r c))
    refine ⟨L', ?_, e2.congr (fun a ha b hb => ?_)⟩
    · rw [← e1]
      have hl := hI.len
      have h1 := cell_lt hlt hr
      have b3 : c ≤ 1000000 := by omega
      have z2 : (c : Int) < (cols : Int) := by omega
      have z3 : r + c * rows < L.length := by omega
      have y1 : (0 : Int) ≤ ((r + c * rows : Nat) : Int) := by omega
      have y3 : ((r + c * rows : Nat) : Int) < ((L.length : Nat) : Int) := by omega
      have w1 := at_eq hJ hr hlt (by omega)
      rw [← at_v] at w1
      simp only [loopF, granaryref02_Turn_b2, cidx hlt hr (show cols * rows ≤ 1000000 by omega), w1, Option.bind_some, dT z2, dT z3, dT y1, dT y3, Bool.and_self, cond_true, Int.toNat_natCast, wrap_succ b3]
    · by_cases h1 : a = c
      · subst h1
        by_cases h : b = r
        · subst h; simp [Nat.not_le.2 (Nat.lt_succ_self a)]
        · simp [h]
      · have : (c + 1 ≤ a) = (c ≤ a) := propext (by omega)
        simp [h1, this]

theorem rturn0 {N : Nat} (hN : 100 ≤ N) {rows cols : Nat} (h2 : rows ≤ 64) (h4 : cols ≤ 64) {J : List Int} {A : Mt} (hJ : Is rows cols J A) :
    ∀ (d f r : Nat) (L : List Int) (M : Mt), r + d = rows → d < f → Is cols rows L M →
      ∃ L', loopF (granaryref02_Turn_b0 N) f ((r : Int), (rows : Int), (cols : Int), J, L, (cols : Int), (rows : Int)) = some ((rows : Int), (cols : Int), J, L', (cols : Int), (rows : Int)) ∧
        Is cols rows L' (fun a b => if r ≤ b then A b a else M a b) := by
  intro d
  induction d with
  | zero =>
    intro f r L M hk hf hI
    obtain ⟨f, rfl⟩ : ∃ g, f = g + 1 := ⟨f - 1, by omega⟩
    have : r = rows := by omega
    subst this
    exact ⟨L, by simp [loopF, granaryref02_Turn_b0], hI.congr (fun a ha b hb => by rw [if_neg (by omega)])⟩
  | succ d ih =>
    intro f r L M hk hf hI
    obtain ⟨f, rfl⟩ : ∃ g, f = g + 1 := ⟨f - 1, by omega⟩
    have hlt : r < rows := by omega
    have z0 : (r : Int) < (rows : Int) := by omega
    have b3 : r ≤ 1000000 := by omega
    obtain ⟨L1, p1, p2⟩ := rturn2 (N := N) h2 h4 hlt hJ cols N 0 L M (by omega) (by omega) hI
    have e0 : ((0 : Nat) : Int) = 0 := rfl
    rw [e0] at p1
    obtain ⟨L', e1, e2⟩ := ih f (r + 1) L1 _ (by omega) (by omega) p2
    refine ⟨L', ?_, e2.congr (fun a ha b hb => ?_)⟩
    · rw [← e1]
      simp only [loopF, granaryref02_Turn_b0, granaryref02_Turn_l2, dT z0, cond_true, p1, Option.bind_some, wrap_succ b3]
    · by_cases h1 : b = r
      · subst h1; simp [Nat.not_le.2 (Nat.lt_succ_self b)]
      · have : (r + 1 ≤ b) = (r ≤ b) := propext (by omega)
        simp [h1, this]

theorem refTurn_ok {N : Nat} (hN : 100 ≤ N) {rows cols : Nat} {L : List Int} {A : Mt} (h1 : 1 ≤ rows) (h2 : rows ≤ 64) (h3 : 1 ≤ cols) (h4 : cols ≤ 64) (hI : Is rows cols L A) :
    ∃ L', granaryref02_Turn N ((rows : Int), (cols : Int), L) = some ((cols : Int), (rows : Int), 0, L') ∧ Is cols rows L' (tr A) := by
  have hb : cols * rows ≤ 4096 := mul_bd h4 h2
  obtain ⟨L', e1, e2⟩ := rturn0 (N := N) hN h2 h4 hI rows N 0 _ _ (by omega) (by omega) (Is.zeros cols rows)
  have e0 : ((0 : Nat) : Int) = 0 := rfl
  rw [e0] at e1
  refine ⟨L', ?_, e2.congr (fun a ha b hb => by simp [tr])⟩
  simp only [granaryref02_Turn, refCheck_ok h1 h2 h3 h4 hI.len, Option.bind_some, decide_true, Bool.not_true, cond_false, refNew_eq hb, granaryref02_Turn_l0, e1]

/-! Some rows -/

theorem Is.append {k cols : Nat} {L V : List Int} {A v : Mt} (h : Is k cols L A) (hV : Is 1 cols V v) : Is (k + 1) cols (L ++ V) (fun a b => if a = k then v 0 b else A a b) := by
  have hl := h.len
  have hl2 := hV.len
  rw [Nat.one_mul] at hl2
  refine ⟨by rw [List.length_append, hl, hl2, Nat.add_mul, Nat.one_mul], fun i hi j hj => ?_⟩
  rw [List.getD_eq_getElem?_getD, List.getElem?_append]
  by_cases h1 : i = k
  · subst h1
    rw [if_neg (by omega), if_pos rfl, show j + i * cols - L.length = j from by omega]
    have := hV.get 0 (by omega) j hj
    rw [Nat.zero_mul, Nat.add_zero, List.getD_eq_getElem?_getD] at this
    exact this
  · have h2 := cell_lt (show i < k by omega) hj
    rw [if_pos (by omega), if_neg h1, ← List.getD_eq_getElem?_getD, h.get i (by omega) j hj]

/-- May row number k of them be asked for? -/
def Okay (rows : Nat) (W : List Int) (k : Nat) : Prop := 0 ≤ W.getD k 0 ∧ W.getD k 0 < (rows : Int)

theorem rows_loop {N : Nat} {rows cols n : Nat} (h2 : rows ≤ 64) (h4 : cols ≤ 64) (hn : n ≤ 64) {K W : List Int} {A : Mt} (hK : Is rows cols K A) (hW : W.length = n) (a7 : Int) :
    ∀ (d f k : Nat) (L : List Int), k + d = n → d < f → Is k cols L (fun i j => A (W.getD i 0).toNat j) →
      ((∃ i, k ≤ i ∧ i < n ∧ ¬ Okay rows W i) ∧ ∃ y, loopF (gf_Rows_b0 N) f (W, (n : Int), (k : Int), (rows : Int), (cols : Int), K, a7, (cols : Int), L) = some (.inl y)) ∨
      ((∀ i, k ≤ i → i < n → Okay rows W i) ∧ ∃ L', loopF (gf_Rows_b0 N) f (W, (n : Int), (k : Int), (rows : Int), (cols : Int), K, a7, (cols : Int), L) = some (.inr ((rows : Int), (cols : Int), K, a7, (cols : Int), L')) ∧
        Is n cols L' (fun i j => A (W.getD i 0).toNat j)) := by
  have hb : rows * cols ≤ 4096 := mul_bd h2 h4
  intro d
  induction d with
  | zero =>
    intro f k L hk hf hI
    obtain ⟨f, rfl⟩ : ∃ g, f = g + 1 := ⟨f - 1, by omega⟩
    have : k = n := by omega
    subst this
    exact .inr ⟨fun i h1 h2 => absurd h1 (by omega), L, by simp [loopF, gf_Rows_b0], hI⟩
  | succ d ih =>
    intro f k L hk hf hI
    obtain ⟨f, rfl⟩ : ∃ g, f = g + 1 := ⟨f - 1, by omega⟩
    have hlt : k < n := by omega
    have z1 : (k : Int) < (n : Int) := by omega
    have z2 : (0 : Int) ≤ (k : Int) := by omega
    have z3 : (k : Int) < ((W.length : Nat) : Int) := by omega
    have b3 : k ≤ 1000000 := by omega
    by_cases hok : Okay rows W k
    · obtain ⟨t, ht⟩ : ∃ t : Nat, W.getD k 0 = (t : Int) := ⟨(W.getD k 0).toNat, by have := hok.1; omega⟩
      have t2 : t < rows := by have := hok.2; omega
      have hrow := hK.row t2
      have z4 : ¬ ((t : Int) < 0) := by omega
      have z5 : ¬ ((rows : Int) ≤ (t : Int)) := by omega
      have t1' : List.getD W k (EK.dflt (.int .i64)) = (t : Int) := ht
      have hr1 := row1_eq (r := t) t2 hK.len (by omega) (by omega)
      have hl := hI.len
      have hl2 := hrow.len
      rw [Nat.one_mul] at hl2
      have hbk : k * cols ≤ 4096 := mul_bd (by omega : k ≤ 64) h4
      have hf1 : fits 1 (L.length + (List.take cols (List.drop (t * cols) K)).length) = true := by
        rw [hl, hl2]; simp [fits]; omega
      have hstep : ∀ next, gf_Rows_b0 N next (W, (n : Int), (k : Int), (rows : Int), (cols : Int), K, a7, (cols : Int), L) = next (W, (n : Int), ((k + 1 : Nat) : Int), (rows : Int), (cols : Int), K, a7, (cols : Int), L ++ List.take cols (List.drop (t * cols) K)) := by
        intro next
        unfold gf_Rows_b0
        dsimp only
        rw [dT z1, cond_true, dT z2, dT z3, Bool.and_self, cond_true, Int.toNat_natCast, t1', dF z4, cond_false, dF z5, Option.bind_some, cond_false, hr1, Option.bind_some, hf1, cond_true, wrap_succ b3]
      have e : loopF (gf_Rows_b0 N) (f + 1) (W, (n : Int), (k : Int), (rows : Int), (cols : Int), K, a7, (cols : Int), L) = loopF (gf_Rows_b0 N) f (W, (n : Int), ((k + 1 : Nat) : Int), (rows : Int), (cols : Int), K, a7, (cols : Int), L ++ List.take cols (List.drop (t * cols) K)) := hstep _
      rw [e]
      rcases ih f (k + 1) _ (by omega) (by omega) ((hI.append hrow).congr (fun a ha b hb => by
        by_cases h : a = k
        · subst h; dsimp only; rw [if_pos rfl, ht, Int.toNat_natCast]
        · simp [h])) with ⟨⟨i, i1, i2, i3⟩, h⟩ | ⟨h1, h⟩
      · exact .inl ⟨⟨i, by omega, i2, i3⟩, h⟩
      · refine .inr ⟨fun i i1 i2 => ?_, h⟩
        by_cases hik : i = k
        · subst hik; exact hok
        · exact h1 i (by omega) i2
    · refine .inl ⟨⟨k, Nat.le_refl _, hlt, hok⟩, ((rows : Int), (cols : Int), K, a7, (cols : Int), L), ?_⟩
      have hWd : List.getD W k (EK.dflt (.int .i64)) = W.getD k 0 := rfl
      show gf_Rows_b0 N (loopF (gf_Rows_b0 N) f) _ = _
      unfold gf_Rows_b0
      dsimp only
      rw [dT z1, cond_true, dT z2, dT z3, Bool.and_self, cond_true, Int.toNat_natCast, hWd]
      by_cases h0 : W.getD k 0 < 0
      · rw [dT h0, cond_true, Option.bind_some, cond_true]
      · have h1 : (rows : Int) ≤ W.getD k 0 := Int.not_lt.1 (fun h => hok ⟨Int.not_lt.1 h0, h⟩)
        rw [dF h0, cond_false, dT h1, Option.bind_some, cond_true]

theorem rrows2 {N : Nat} {rows cols n i t : Nat} (h2 : rows ≤ 64) (h4 : cols ≤ 64) (hn : n ≤ 64) (hi : i < n) {K W : List Int} {A : Mt} (hK : Is rows cols K A) (hW : W.length = n) (ht : W.getD i 0 = (t : Int)) (hr : t < rows) :
    ∀ (d f c : Nat) (L : List Int) (M : Mt), c + d = cols → d < f → Is n cols L M →
      ∃ L', loopF (granaryref02_Rows_b2 N) f (W, (i : Int), (c : Int), (rows : Int), (cols : Int), K, L, (n : Int), (cols : Int)) = some ((rows : Int), (cols : Int), K, L', (n : Int), (cols : Int)) ∧
        Is n cols L' (fun a b => if a = i ∧ c ≤ b then A t b else M a b) := by
  have hb : rows * cols ≤ 4096 := mul_bd h2 h4
  have hb2 : n * cols ≤ 4096 := mul_bd hn h4
  intro d
  induction d with
  | zero =>
    intro f c L M hk hf hI
    obtain ⟨f, rfl⟩ : ∃ g, f = g + 1 := ⟨f - 1, by omega⟩
    have : c = cols := by omega
    subst this
    exact ⟨L, by simp [loopF, granaryref02_Rows_b2], hI.congr (fun a ha b hb => by rw [if_neg (by omega)])⟩
  | succ d ih =>
    intro f c L M hk hf hI
    obtain ⟨f, rfl⟩ : ∃ g, f = g + 1 := ⟨f - 1, by omega⟩
    have hlt : c < cols := by omega
    obtain ⟨L', e1, e2⟩ := ih f (c + 1) _ _ (by omega) (by omega) (hI.set hi hlt (A t c))
    refine ⟨L', ?_, e2.congr (fun a ha b hb => ?_)⟩
    · rw [← e1]
      have hl := hI.len
      have h1 := cell_lt hi hlt
      have b3 : c ≤ 1000000 := by omega
      have z2 : (c : Int) < (cols : Int) := by omega
      have z3 : c + i * cols < L.length := by omega
      have z4 : (0 : Int) ≤ (i : Int) := by omega
      have z5 : (i : Int) < ((W.length : Nat) : Int) := by omega
      have y1 : (0 : Int) ≤ ((c + i * cols : Nat) : Int) := by omega
      have y3 : ((c + i * cols : Nat) : Int) < ((L.length : Nat) : Int) := by omega
      have w1 := at_eq hK hr hlt (by omega)
      rw [← at_v] at w1
      have t1' : List.getD W i (EK.dflt (.int .i64)) = (t : Int) := ht
      show granaryref02_Rows_b2 N (loopF (granaryref02_Rows_b2 N) f) _ = _
      unfold granaryref02_Rows_b2
      dsimp only
      rw [dT z2, cond_true, cidx hi hlt (show n * cols ≤ 1000000 by omega), dT z4, dT z5, Bool.and_self, cond_true, Int.toNat_natCast, t1', w1, Option.bind_some, dT y1, dT y3, Bool.and_self, cond_true, Int.toNat_natCast, dT z3, cond_true, wrap_succ b3]
    · by_cases h1 : b = c
      · subst h1
        by_cases h : a = i
        · subst h; simp [Nat.not_le.2 (Nat.lt_succ_self b)]
        · simp [h]
      · have : (c + 1 ≤ b) = (c ≤ b) := propext (by omega)
        simp [h1, this]

theorem rrows_loop {N : Nat} (hN : 100 ≤ N) {rows cols n : Nat} (h2 : rows ≤ 64) (h4 : cols ≤ 64) (hn : n ≤ 64) {K W : List Int} {A : Mt} (hK : Is rows cols K A) (hW : W.length = n) :
    ∀ (d f k : Nat) (L : List Int) (M : Mt), k + d = n → d < f → Is n cols L M → (∀ a b, a < k → M a b = A (W.getD a 0).toNat b) →
      ((∃ i, k ≤ i ∧ i < n ∧ ¬ Okay rows W i) ∧ ∃ y, loopF (granaryref02_Rows_b0 N) f (W, (k : Int), (rows : Int), (cols : Int), K, L, (n : Int), (cols : Int)) = some (.inl y)) ∨
      ((∀ i, k ≤ i → i < n → Okay rows W i) ∧ ∃ L', loopF (granaryref02_Rows_b0 N) f (W, (k : Int), (rows : Int), (cols : Int), K, L, (n : Int), (cols : Int)) = some (.inr ((rows : Int), (cols : Int), K, L', (n : Int), (cols : Int))) ∧
        Is n cols L' (fun i j => A (W.getD i 0).toNat j)) := by
  intro d
  induction d with
  | zero =>
    intro f k L M hk hf hI hM
    obtain ⟨f, rfl⟩ : ∃ g, f = g + 1 := ⟨f - 1, by omega⟩
    have : k = n := by omega
    subst this
    exact .inr ⟨fun i h1 h2 => absurd h1 (by omega), L, by simp [loopF, granaryref02_Rows_b0, hW], hI.congr (fun a ha b hb => hM a b ha)⟩
  | succ d ih =>
    intro f k L M hk hf hI hM
    obtain ⟨f, rfl⟩ : ∃ g, f = g + 1 := ⟨f - 1, by omega⟩
    have hlt : k < n := by omega
    have z1 : (k : Int) < ((W.length : Nat) : Int) := by omega
    have z2 : (0 : Int) ≤ (k : Int) := by omega
    have b3 : k ≤ 1000000 := by omega
    have e0 : ((0 : Nat) : Int) = 0 := rfl
    by_cases hok : Okay rows W k
    · obtain ⟨t, ht⟩ : ∃ t : Nat, W.getD k 0 = (t : Int) := ⟨(W.getD k 0).toNat, by have := hok.1; omega⟩
      have t2 : t < rows := by have := hok.2; omega
      have z4 : ¬ ((t : Int) < 0) := by omega
      have z5 : ¬ ((rows : Int) ≤ (t : Int)) := by omega
      have t1' : List.getD W k (EK.dflt (.int .i64)) = (t : Int) := ht
      obtain ⟨L1, p1, p2⟩ := rrows2 (N := N) h2 h4 hn hlt hK hW ht t2 cols N 0 L M (by omega) (by omega) hI
      rw [e0] at p1
      have hstep : ∀ next, granaryref02_Rows_b0 N next (W, (k : Int), (rows : Int), (cols : Int), K, L, (n : Int), (cols : Int)) = next (W, ((k + 1 : Nat) : Int), (rows : Int), (cols : Int), K, L1, (n : Int), (cols : Int)) := by
        intro next
        unfold granaryref02_Rows_b0
        dsimp only
        rw [dT z1, cond_true, dT z2, Bool.and_self, cond_true, Int.toNat_natCast, t1', dF z4, cond_false, cond_true, dF z5, Option.bind_some, cond_false, granaryref02_Rows_l2, p1, Option.bind_some, wrap_succ b3]
      have e : loopF (granaryref02_Rows_b0 N) (f + 1) (W, (k : Int), (rows : Int), (cols : Int), K, L, (n : Int), (cols : Int)) = loopF (granaryref02_Rows_b0 N) f (W, ((k + 1 : Nat) : Int), (rows : Int), (cols : Int), K, L1, (n : Int), (cols : Int)) := hstep _
      rw [e]
      rcases ih f (k + 1) _ _ (by omega) (by omega) p2 (fun a b ha => by
        by_cases h : a = k
        · subst h; rw [if_pos ⟨rfl, Nat.zero_le _⟩, ht, Int.toNat_natCast]
        · rw [if_neg (by omega)]; exact hM a b (by omega)) with ⟨⟨i, i1, i2, i3⟩, h⟩ | ⟨h1, h⟩
      · exact .inl ⟨⟨i, by omega, i2, i3⟩, h⟩
      · refine .inr ⟨fun i i1 i2 => ?_, h⟩
        by_cases hik : i = k
        · subst hik; exact hok
        · exact h1 i (by omega) i2
    · refine .inl ⟨⟨k, Nat.le_refl _, hlt, hok⟩, ((rows : Int), (cols : Int), K, L, (n : Int), (cols : Int)), ?_⟩
      have hWd : List.getD W k (EK.dflt (.int .i64)) = W.getD k 0 := rfl
      show granaryref02_Rows_b0 N (loopF (granaryref02_Rows_b0 N) f) _ = _
      unfold granaryref02_Rows_b0
      dsimp only
      rw [dT z1, cond_true, dT z2, Bool.and_self, cond_true, Int.toNat_natCast, hWd]
      by_cases h0 : W.getD k 0 < 0
      · rw [dT h0, cond_true, Option.bind_some, cond_true]
      · have h1 : (rows : Int) ≤ W.getD k 0 := Int.not_lt.1 (fun h => hok ⟨Int.not_lt.1 h0, h⟩)
        rw [dF h0, cond_false, cond_true, dT h1, Option.bind_some, cond_true]

/-- Both give the same rows. -/
theorem rows_same {N : Nat} (hN : 100 ≤ N) {rows cols : Nat} (h1 : 1 ≤ rows) (h2 : rows ≤ 64) (h3 : 1 ≤ cols) (h4 : cols ≤ 64) {K W : List Int} {A : Mt} (hK : Is rows cols K A) (hWn : W.length ≤ 100) :
    ∃ r, gf_Rows N ((rows : Int), (cols : Int), K, W) = some r ∧ granaryref02_Rows N ((rows : Int), (cols : Int), K, W) = some r := by
  by_cases hn : 1 ≤ W.length ∧ W.length ≤ 64
  · have d1 : decide ((1 : Int) ≤ ((W.length : Nat) : Int) ∧ ((W.length : Nat) : Int) ≤ 64) = true := by rw [decide_eq_true_eq]; omega
    have d2 : ¬ (((W.length : Nat) : Int) < 1) := by omega
    have d3 : ¬ ((64 : Int) < ((W.length : Nat) : Int)) := by omega
    have hb : W.length * cols ≤ 4096 := mul_bd hn.2 h4
    have e0 : ((0 : Nat) : Int) = 0 := rfl
    have a1 := rows_loop (N := N) (n := W.length) h2 h4 hn.2 hK rfl ((W.length : Nat) : Int) W.length N 0 [] (by omega) (by omega) ⟨by simp, fun i hi => absurd hi (by omega)⟩
    have a2 := rrows_loop (N := N) (n := W.length) hN h2 h4 hn.2 hK rfl W.length N 0 _ _ (by omega) (by omega) (Is.zeros W.length cols) (fun a b ha => absurd ha (by omega))
    rw [e0] at a1 a2
    rcases a1 with ⟨⟨i, i1, i2, i3⟩, y, hy⟩ | ⟨b1, L1, b2, b3⟩
    · rcases a2 with ⟨_, z, hz⟩ | ⟨c1, _⟩
      · refine ⟨(0, 0, 2, []), ?_, ?_⟩
        · simp only [gf_Rows, check_ok h1 h2 h3 h4 hK.len, Option.bind_some, decide_true, Bool.not_true, cond_false, side_eq, d1, gf_Rows_l0, hy]
        · simp only [granaryref02_Rows, refCheck_ok h1 h2 h3 h4 hK.len, Option.bind_some, decide_true, Bool.not_true, cond_false, dF d2, dF d3, refNew_eq hb, granaryref02_Rows_l0, hz]
      · exact absurd (c1 i i1 i2) i3
    · rcases a2 with ⟨⟨i, i1, i2, i3⟩, _⟩ | ⟨c1, L2, c2, c3⟩
      · exact absurd (b1 i i1 i2) i3
      · have hL : L1 = L2 := Is.ext b3 c3 (Lin.Same.refl _ _ _)
        subst hL
        refine ⟨(((W.length : Nat) : Int), (cols : Int), 0, L1), ?_, ?_⟩
        · simp only [gf_Rows, check_ok h1 h2 h3 h4 hK.len, Option.bind_some, decide_true, Bool.not_true, cond_false, side_eq, d1, gf_Rows_l0, b2]
        · simp only [granaryref02_Rows, refCheck_ok h1 h2 h3 h4 hK.len, Option.bind_some, decide_true, Bool.not_true, cond_false, dF d2, dF d3, refNew_eq hb, granaryref02_Rows_l0, c2]
  · refine ⟨(0, 0, 2, []), ?_, ?_⟩
    · have d1 : decide ((1 : Int) ≤ ((W.length : Nat) : Int) ∧ ((W.length : Nat) : Int) ≤ 64) = false := by rw [decide_eq_false_iff_not]; omega
      simp only [gf_Rows, check_ok h1 h2 h3 h4 hK.len, Option.bind_some, decide_true, Bool.not_true, cond_false, side_eq, d1, Bool.not_false, cond_true]
    · by_cases h : W.length < 1
      · have d2 : (((W.length : Nat) : Int) < 1) := by omega
        simp only [granaryref02_Rows, refCheck_ok h1 h2 h3 h4 hK.len, Option.bind_some, decide_true, Bool.not_true, cond_false, dT d2, cond_true]
      · have d2 : ¬ (((W.length : Nat) : Int) < 1) := by omega
        have d3 : ((64 : Int) < ((W.length : Nat) : Int)) := by omega
        simp only [granaryref02_Rows, refCheck_ok h1 h2 h3 h4 hK.len, Option.bind_some, decide_true, Bool.not_true, cond_false, dF d2, dT d3, cond_true]

end Go.Rf.W
