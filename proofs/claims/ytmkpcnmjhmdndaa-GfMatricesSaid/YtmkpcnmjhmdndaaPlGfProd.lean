/-
  gf.Product: the product.
-/
import Derived.Test.YtmkpcnmjhmdndaaPlGfInv
set_option linter.unusedVariables false
set_option linter.unusedSimpArgs false
namespace Go.Rf.W
open Go Go.Rf Go.Rf.Lin

theorem addv_loop {N : Nat} (hN : 20 ≤ N) {rows cols r : Nat} (hr : r < rows) (hb : rows * cols ≤ 4096) (hc : cols ≤ 64) (c : G) {V : List Int} {v : Mt} (hV : Is 1 cols V v) :
    ∀ (d f k : Nat) (L : List Int) (A : Mt), k + d = cols → d < f → Is rows cols L A →
      ∃ L', loopF (gf_add_v1_b0 N) f (r * cols, cols, (c.n : Int), V, (cols : Int), (k : Int), L) = some L' ∧
        Is rows cols L' (fun a b => if a = r ∧ k ≤ b then A a b + c * v 0 b else A a b) := by
  intro d
  induction d with
  | zero =>
    intro f k L A hk hf hI
    obtain ⟨f, rfl⟩ : ∃ g, f = g + 1 := ⟨f - 1, by omega⟩
    have : k = cols := by omega
    subst this
    refine ⟨L, by simp [loopF, gf_add_v1_b0], hI.congr (fun i hi j hj => ?_)⟩
    rw [if_neg (by omega)]
  | succ d ih =>
    intro f k L A hk hf hI
    obtain ⟨f, rfl⟩ : ∃ g, f = g + 1 := ⟨f - 1, by omega⟩
    have hkc : k < cols := by omega
    have h1 := cell_lt hr hkc
    have hl2 := hV.len
    have hg := hV.get 0 (by omega) k hkc
    rw [Nat.zero_mul, Nat.add_zero] at hg
    obtain ⟨L', e1, e2⟩ := ih f (k + 1) _ _ (by omega) (by omega) (hI.set hr hkc (A r k + c * v 0 k))
    refine ⟨L', ?_, e2.congr (fun i hi j hj => ?_)⟩
    · rw [← e1]
      have hl := hI.len
      have b3 : k ≤ 1000000 := by omega
      have z1 : (0 : Int) ≤ (k : Int) := by omega
      have z2 : (k : Int) < (cols : Int) := by omega
      have z3 : (k : Int) < ((V.length : Nat) : Int) := by omega
      have z4 : k + r * cols < L.length := by omega
      simp only [loopF, gf_add_v1_b0, dT z1, dT z2, dT z3, dT z4, Bool.and_self, cond_true, Int.toNat_natCast, EK.dflt, hg, hI.get r hr k hkc, mulG hN, Option.bind_some, xorG, wrap_succ b3]
    · by_cases h3 : i = r
      · subst h3
        by_cases h4 : j = k
        · subst h4
          simp [Nat.not_le.2 (Nat.lt_succ_self j)]
        · by_cases h5 : k + 1 ≤ j
          · have : k ≤ j := by omega
            simp [h5, this, h4]
          · have : ¬ k ≤ j := by omega
            simp [h5, this, h4]
      · simp [h3]

theorem addv_ok {N : Nat} (hN : 100 ≤ N) {rows cols r : Nat} (hr : r < rows) (hb : rows * cols ≤ 4096) (hc : cols ≤ 64) (c : G) {V : List Int} {v : Mt} (hV : Is 1 cols V v) {L : List Int} {A : Mt} (hI : Is rows cols L A) :
    ∃ L', gf_add_v1 N (r * cols, cols, (c.n : Int), V, L) = some L' ∧ Is rows cols L' (fun a b => if a = r then A a b + c * v 0 b else A a b) := by
  by_cases h0 : c = 0
  · subst h0
    refine ⟨L, by simp [gf_add_v1, G.zero_n], hI.congr (fun i hi j hj => ?_)⟩
    rw [G.zero_mul, G.add_zero]; split <;> rfl
  · have hn : ¬ ((c.n : Int) = 0) := fun e => h0 (G.ext' (by rw [G.zero_n]; omega))
    obtain ⟨L', e1, e2⟩ := addv_loop (N := N) (by omega) hr hb hc c hV cols N 0 L A (by omega) (by omega) hI
    refine ⟨L', ?_, e2.congr (fun i hi j hj => by simp)⟩
    have e0 : ((0 : Nat) : Int) = 0 := rfl
    rw [e0] at e1
    have hl := hV.len
    rw [Nat.one_mul] at hl
    simp only [gf_add_v1, dF hn, cond_false, gf_add_v1_l0, hl, e1, Option.bind_some]

theorem prod_in {N : Nat} (hN : 100 ≤ N) {rows mid cols r : Nat} (h2 : rows ≤ 64) (h4 : cols ≤ 64) (h5 : mid ≤ 64) (hr : r < rows) {V K : List Int} {v B M : Mt} (hV : Is 1 mid V v) (hK : Is mid cols K B) (a2 a3 : Int) :
    ∀ (d f k : Nat) (L : List Int), k + d = mid → d < f → Is rows cols L (fun a b => if a = r then sum k (fun l => v 0 l * B l b) else M a b) →
      ∃ L', loopF (gf_Product_b2 N) f ((r : Int), a2, a3, V, (mid : Int), (k : Int), (mid : Int), (cols : Int), K, L, (rows : Int), (cols : Int)) = some ((mid : Int), (cols : Int), K, L', (rows : Int), (cols : Int)) ∧
        Is rows cols L' (fun a b => if a = r then sum mid (fun l => v 0 l * B l b) else M a b) := by
  have hb : rows * cols ≤ 4096 := mul_bd h2 h4
  have hb2 : mid * cols ≤ 4096 := mul_bd h5 h4
  intro d
  induction d with
  | zero =>
    intro f k L hk hf hI
    obtain ⟨f, rfl⟩ : ∃ g, f = g + 1 := ⟨f - 1, by omega⟩
    have : k = mid := by omega
    subst this
    exact ⟨L, by simp [loopF, gf_Product_b2], hI⟩
  | succ d ih =>
    intro f k L hk hf hI
    obtain ⟨f, rfl⟩ : ∃ g, f = g + 1 := ⟨f - 1, by omega⟩
    have hlt : k < mid := by omega
    have hl2 := hV.len
    have hg := hV.get 0 (by omega) k hlt
    rw [Nat.zero_mul, Nat.add_zero] at hg
    have hg' : List.getD V k (EK.dflt (.int .u8)) = ((v 0 k).n : Int) := hg
    obtain ⟨L1, p1, p2⟩ := addv_ok (N := N) hN hr hb h4 (v 0 k) (hK.row hlt) hI
    obtain ⟨L', e1, e2⟩ := ih f (k + 1) L1 (by omega) (by omega) (p2.congr (fun a ha b hb => by by_cases h : a = r <;> simp [h, sum]))
    refine ⟨L', ?_, e2⟩
    rw [← e1]
    have z1 : (k : Int) < (mid : Int) := by omega
    have z2 : (0 : Int) ≤ (k : Int) := by omega
    have z3 : (k : Int) < ((V.length : Nat) : Int) := by omega
    have b3 : k ≤ 1000000 := by omega
    have hrow := gf_row_eq (r := r) hr hI.len (by omega) (by omega)
    have hrow1 := row1_eq (r := k) hlt hK.len (by omega) (by omega)
    show gf_Product_b2 N (loopF (gf_Product_b2 N) f) _ = _
    unfold gf_Product_b2
    dsimp only
    rw [dT z1, cond_true, dT z2, dT z3, Bool.and_self, cond_true, hrow, Option.bind_some]
    dsimp only
    rw [hrow1, Option.bind_some, Int.toNat_natCast, hg', p1, Option.bind_some, wrap_succ b3]

theorem prod_out {N : Nat} (hN : 100 ≤ N) {rows mid cols : Nat} (h2 : rows ≤ 64) (h4 : cols ≤ 64) (h5 : mid ≤ 64) {J K : List Int} {A B : Mt} (hJ : Is rows mid J A) (hK : Is mid cols K B) :
    ∀ (d f r : Nat) (L : List Int), r + d = rows → d < f → Is rows cols L (fun a b => if a < r then mm mid A B a b else 0) →
      ∃ L', loopF (gf_Product_b0 N) f ((rows : Int), (r : Int), (rows : Int), (mid : Int), J, (mid : Int), (cols : Int), K, L, (rows : Int), (cols : Int)) = some ((rows : Int), (mid : Int), J, (mid : Int), (cols : Int), K, L', (rows : Int), (cols : Int)) ∧
        Is rows cols L' (mm mid A B) := by
  have hb : rows * mid ≤ 4096 := mul_bd h2 h5
  intro d
  induction d with
  | zero =>
    intro f r L hc hf hI
    obtain ⟨f, rfl⟩ : ∃ g, f = g + 1 := ⟨f - 1, by omega⟩
    have : r = rows := by omega
    subst this
    exact ⟨L, by simp [loopF, gf_Product_b0], hI.congr (fun a ha b hb => by simp [ha])⟩
  | succ d ih =>
    intro f r L hc hf hI
    obtain ⟨f, rfl⟩ : ∃ g, f = g + 1 := ⟨f - 1, by omega⟩
    have hlt : r < rows := by omega
    have hV := hJ.row hlt
    have hl2 := hV.len
    rw [Nat.one_mul] at hl2
    obtain ⟨L1, p1, p2⟩ := prod_in (N := N) hN h2 h4 h5 hlt hV hK (M := fun a b => if a < r then mm mid A B a b else 0) (rows : Int) (r : Int) mid N 0 L (by omega) (by omega)
      (hI.congr (fun a ha b hb => by by_cases h : a = r <;> simp [h, sum]))
    have e0 : ((0 : Nat) : Int) = 0 := rfl
    rw [e0] at p1
    obtain ⟨L', e1, e2⟩ := ih f (r + 1) L1 (by omega) (by omega) (p2.congr (fun a ha b hb => by
      by_cases h : a = r
      · subst h; simp [mm]
      · have : (a < r + 1) = (a < r) := propext (by omega)
        simp [h, this]))
    refine ⟨L', ?_, e2⟩
    rw [← e1]
    have z1 : (r : Int) < (rows : Int) := by omega
    have b3 : r ≤ 1000000 := by omega
    have hrow := row1_eq (r := r) hlt hJ.len (by omega) (by omega)
    show gf_Product_b0 N (loopF (gf_Product_b0 N) f) _ = _
    unfold gf_Product_b0
    dsimp only
    rw [dT z1, cond_true, hrow, Option.bind_some, hl2, gf_Product_l2, p1, Option.bind_some, wrap_succ b3]

theorem checked_ok {N : Nat} (hN : 100 ≤ N) {r1 c1 r2 c2 : Int} {J K : List Int} (h1 : gf_Check (r1, c1, J) = some 0) (h2 : gf_Check (r2, c2, K) = some 0) :
    gf_checked N [(r1, (c1, (J, ()))), (r2, (c2, (K, ())))] = some 0 := by
  obtain ⟨N, rfl⟩ : ∃ g, N = g + 3 := ⟨N - 3, by omega⟩
  have w0 : wrapF .i64 (1 : Int) = 1 := by decide
  have w1 : wrapF .i64 (2 : Int) = 2 := by decide
  have step : ∀ next, gf_checked_b0 (N + 3) next ([(r1, (c1, (J, ()))), (r2, (c2, (K, ())))], 2, 0) = next ([(r1, (c1, (J, ()))), (r2, (c2, (K, ())))], 2, 1) := by
    intro next
    simp [gf_checked_b0, h1, w0]
  have step2 : ∀ next, gf_checked_b0 (N + 3) next ([(r1, (c1, (J, ()))), (r2, (c2, (K, ())))], 2, 1) = next ([(r1, (c1, (J, ()))), (r2, (c2, (K, ())))], 2, 2) := by
    intro next
    simp [gf_checked_b0, h2, w1]
  have step3 : ∀ next, gf_checked_b0 (N + 3) next ([(r1, (c1, (J, ()))), (r2, (c2, (K, ())))], 2, 2) = some (.inr ()) := by
    intro next
    simp [gf_checked_b0]
  have hloop : gf_checked_l0 (N + 3) ([(r1, (c1, (J, ()))), (r2, (c2, (K, ())))], 2, 0) = some (.inr ()) := by
    simp only [gf_checked_l0, loopF, step, step2, step3]
  show (Option.bind (gf_checked_l0 (N + 3) ([(r1, (c1, (J, ()))), (r2, (c2, (K, ())))], 2, 0)) _) = _
  rw [hloop]; rfl

theorem product_ok {N : Nat} (hN : 100 ≤ N) {rows mid cols : Nat} {J K : List Int} {A B : Mt} (h1 : 1 ≤ rows) (h2 : rows ≤ 64) (h3 : 1 ≤ cols) (h4 : cols ≤ 64) (h5 : 1 ≤ mid) (h6 : mid ≤ 64) (hJ : Is rows mid J A) (hK : Is mid cols K B) :
    ∃ L', gf_Product N ((rows : Int), (mid : Int), J, (mid : Int), (cols : Int), K) = some ((rows : Int), (cols : Int), 0, L') ∧ Is rows cols L' (mm mid A B) := by
  have hb : rows * cols ≤ 4096 := mul_bd h2 h4
  obtain ⟨L', e1, e2⟩ := prod_out (N := N) hN h2 h4 h6 hJ hK rows N 0 _ (by omega) (by omega) ((Is.zeros rows cols).congr (fun a ha b hb => by simp))
  have e0 : ((0 : Nat) : Int) = 0 := rfl
  rw [e0] at e1
  refine ⟨L', ?_, e2⟩
  have hch := checked_ok (N := N) hN (check_ok h1 h2 h5 h6 hJ.len) (check_ok h5 h6 h3 h4 hK.len)
  unfold gf_Product
  dsimp only
  rw [show (cond (decide (2 ≤ List.length [((rows : Int), (mid : Int), J, ()), ((mid : Int), (cols : Int), K, ())])) true false) = true from rfl, cond_true]
  rw [show List.take 2 (List.drop 0 [((rows : Int), (mid : Int), J, ()), ((mid : Int), (cols : Int), K, ())]) = [((rows : Int), (mid : Int), J, ()), ((mid : Int), (cols : Int), K, ())] from rfl, hch, Option.bind_some]
  simp only [decide_true, Bool.not_true, cond_false, zeros_eq hb, Option.bind_some, gf_Product_l0, e1]

theorem product_side {N : Nat} (hN : 100 ≤ N) {r1 c1 r2 c2 : Nat} {J K : List Int} (h1 : gf_Check ((r1 : Int), (c1 : Int), J) = some 0) (h2 : gf_Check ((r2 : Int), (c2 : Int), K) = some 0) (hne : c1 ≠ r2) :
    gf_Product N ((r1 : Int), (c1 : Int), J, (r2 : Int), (c2 : Int), K) = some (0, 0, 23, []) := by
  have hch := checked_ok (N := N) hN h1 h2
  have z : ¬ ((c1 : Int) = (r2 : Int)) := by omega
  unfold gf_Product
  dsimp only
  rw [show (cond (decide (2 ≤ List.length [((r1 : Int), (c1 : Int), J, ()), ((r2 : Int), (c2 : Int), K, ())])) true false) = true from rfl, cond_true]
  rw [show List.take 2 (List.drop 0 [((r1 : Int), (c1 : Int), J, ()), ((r2 : Int), (c2 : Int), K, ())]) = [((r1 : Int), (c1 : Int), J, ()), ((r2 : Int), (c2 : Int), K, ())] from rfl, hch, Option.bind_some]
  simp only [decide_true, Bool.not_true, cond_false, dF z, Bool.not_false, cond_true]

end Go.Rf.W
