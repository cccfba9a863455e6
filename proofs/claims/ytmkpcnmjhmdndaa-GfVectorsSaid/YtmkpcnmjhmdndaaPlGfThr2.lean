/-
  The document's values, multiples, sums, polynomials through points.
-/
import Derived.Test.YtmkpcnmjhmdndaaPlGfThr
import Derived.Test.YtmkpcnmjhmdndaaPlGfLog
set_option linter.unusedVariables false
set_option linter.unusedSimpArgs false
namespace Go.Rf.W
open Go Go.Rf Go.Rf.Lin

theorem rmulV {N : Nat} (hN : 20 ≤ N) (a b : G) : granaryref02_Mul N ((a.n : Int), (b.n : Int)) = some (((a * b).n : Nat) : Int) := by
  rw [refMul_eq (by omega) a.lt b.lt]; rfl
theorem rdivV {N : Nat} (hN : 300 ≤ N) (a : G) {b : G} (h : b ≠ 0) : granaryref02_Div N ((a.n : Int), (b.n : Int)) = some ((((a * G.inv b).n : Nat) : Int), (0 : Int)) := by
  have : b.n ≠ 0 := fun e => h (G.ext' (by rw [G.zero_n]; omega))
  rw [refDiv_eq (by omega) a.lt b.lt, if_neg this]; rfl

theorem wpred {k : Nat} (h : k ≤ 1000000) : wrapF .i64 ((k : Int) - 1) = (k : Int) - 1 := wrapF_i64 (by omega) (by omega)

theorem reval_loop {N : Nat} (hN : 20 ≤ N) (x : G) {n : Nat} {L : List Int} {w : Nat → G} (h : Vec n L w) (hn : n ≤ 4096) : ∀ (k f : Nat) (y : G), k ≤ n → k < f → y = ev (n - k) (fun j => w (j + k)) x →
    loopF (granaryref02_Eval_b0 N) f (L, (x.n : Int), (y.n : Int), (k : Int) - 1) = some ((ev n w x).n : Int) := by
  intro k
  induction k with
  | zero =>
    intro f y hk hf hy
    obtain ⟨f, rfl⟩ : ∃ g, f = g + 1 := ⟨f - 1, by omega⟩
    have z : ¬ ((0 : Int) ≤ ((0 : Nat) : Int) - 1) := by omega
    simp only [loopF, granaryref02_Eval_b0, dF z, cond_false, hy, Nat.sub_zero, Nat.add_zero]
  | succ k ih =>
    intro f y hk hf hy
    obtain ⟨f, rfl⟩ : ∃ g, f = g + 1 := ⟨f - 1, by omega⟩
    have hl := h.len
    have e : ((k + 1 : Nat) : Int) - 1 = (k : Int) := by omega
    have z1 : (0 : Int) ≤ (k : Int) := by omega
    have z2 : (k : Int) < ((L.length : Nat) : Int) := by omega
    have hy2 : y * x + w k = ev (n - k) (fun j => w (j + k)) x := by
      rw [show n - k = (n - (k + 1)) + 1 by omega, ev_succ, hy, Nat.zero_add, G.add_comm, G.mul_comm]
      have : (fun j => w (j + 1 + k)) = (fun j => w (j + (k + 1))) := by funext j; congr 1; omega
      rw [this]
    rw [e, ← ih f (y * x + w k) (by omega) (by omega) hy2]
    simp only [loopF, granaryref02_Eval_b0, dT z1, dT z2, cond_true, Bool.and_self, Int.toNat_natCast, rmulV hN, Option.bind_some, h.getK (show k < n by omega), xorG, wpred (show k ≤ 1000000 by omega)]

theorem revalG {N : Nat} (x : G) {n : Nat} (hN : n + 20 ≤ N) {L : List Int} {w : Nat → G} (h : Vec n L w) (hn : n ≤ 4096) : granaryref02_Eval N (L, (x.n : Int)) = some ((ev n w x).n : Int) := by
  have hl := h.len
  have e := reval_loop (N := N) (by omega) x h hn n N 0 (Nat.le_refl _) (by omega) (by rw [Nat.sub_self]; rfl)
  have g0 : ((G.n 0 : Nat) : Int) = 0 := rfl
  rw [g0] at e
  simp only [granaryref02_Eval, hl, wpred (show n ≤ 1000000 by omega), granaryref02_Eval_l0, e, Option.bind_some]

/-! Multiples, sums -/

theorem vscale {N : Nat} (hN : 20 ≤ N) {n : Nat} (hn : n ≤ 4096) (c : G) {V : List Int} {v : Nat → G} (hV : Vec n V v) :
    ∀ (d f k : Nat) (L : List Int) (w : Nat → G), k + d = n → d < f → Vec n L w →
      ∃ L', loopF (gf_Scale_b0 N) f ((c.n : Int), V, (n : Int), (k : Int), L) = some L' ∧ Vec n L' (fun j => if k ≤ j then c * v j else w j) := by
  intro d
  induction d with
  | zero =>
    intro f k L w hk hf hI
    obtain ⟨f, rfl⟩ : ∃ g, f = g + 1 := ⟨f - 1, by omega⟩
    have : k = n := by omega
    subst this
    exact ⟨L, by simp [loopF, gf_Scale_b0], hI.congr (fun j hj => by rw [if_neg (by omega)])⟩
  | succ d ih =>
    intro f k L w hk hf hI
    obtain ⟨f, rfl⟩ : ∃ g, f = g + 1 := ⟨f - 1, by omega⟩
    have hkc : k < n := by omega
    obtain ⟨L', e1, e2⟩ := ih f (k + 1) _ _ (by omega) (by omega) (hI.set hkc (c * v k))
    refine ⟨L', ?_, e2.congr (fun j hj => ?_)⟩
    · rw [← e1]
      have hl := hI.len
      have hl2 := hV.len
      have z1 : (0 : Int) ≤ (k : Int) := by omega
      have z2 : (k : Int) < (n : Int) := by omega
      have z3 : (k : Int) < ((V.length : Nat) : Int) := by omega
      have z4 : (k : Int) < ((L.length : Nat) : Int) := by omega
      have z5 : k < L.length := by omega
      simp only [loopF, gf_Scale_b0, dT z1, dT z2, dT z3, dT z4, dT z5, Bool.and_self, cond_true, Int.toNat_natCast, hV.getK hkc, mulG hN, Option.bind_some, wrap_succ (show k ≤ 1000000 by omega)]
    · by_cases h4 : j = k
      · subst h4; simp [Nat.not_le.2 (Nat.lt_succ_self j)]
      · have : (k + 1 ≤ j) = (k ≤ j) := propext (by omega)
        simp [this, h4]

theorem rscaleV {N : Nat} (hN : 20 ≤ N) {n : Nat} (hn : n ≤ 4096) (c : G) {V : List Int} {v : Nat → G} (hV : Vec n V v) :
    ∀ (d f k : Nat) (L : List Int), k + d = n → d < f → Vec k L (fun j => c * v j) →
      ∃ L', loopF (granaryref02_Scale_b0 N) f ((c.n : Int), V, (k : Int), L) = some L' ∧ Vec n L' (fun j => c * v j) := by
  have hl2 := hV.len
  intro d
  induction d with
  | zero =>
    intro f k L hk hf hI
    obtain ⟨f, rfl⟩ : ∃ g, f = g + 1 := ⟨f - 1, by omega⟩
    have : k = n := by omega
    subst this
    exact ⟨L, by simp [loopF, granaryref02_Scale_b0, hl2], hI⟩
  | succ d ih =>
    intro f k L hk hf hI
    obtain ⟨f, rfl⟩ : ∃ g, f = g + 1 := ⟨f - 1, by omega⟩
    have hkc : k < n := by omega
    obtain ⟨L', e1, e2⟩ := ih f (k + 1) _ (by omega) (by omega) ((hI.append (c * v k)).congr (fun j hj => by
      by_cases h : j = k
      · subst h; rw [if_pos rfl]
      · rw [if_neg h]))
    refine ⟨L', ?_, e2⟩
    rw [← e1]
    have hl := hI.len
    have z1 : (0 : Int) ≤ (k : Int) := by omega
    have z3 : (k : Int) < ((V.length : Nat) : Int) := by omega
    have z4 : fits 1 (L.length + 1) = true := by simp [fits]; omega
    simp only [loopF, granaryref02_Scale_b0, dT z1, dT z3, Bool.and_self, cond_true, Int.toNat_natCast, hV.getK hkc, rmulV hN, Option.bind_some, List.drop_zero, List.take_succ_cons, List.take_zero, List.length_cons, List.length_nil, Nat.zero_add, Nat.le_refl, decide_true, z4, wrap_succ (show k ≤ 1000000 by omega)]

theorem scale_same {N n : Nat} (hN : n + 20 ≤ N) (hn : n ≤ 4096) (c : G) {V : List Int} {v : Nat → G} (hV : Vec n V v) : ∃ r, gf_Scale N ((c.n : Int), V) = some r ∧ granaryref02_Scale N ((c.n : Int), V) = some r := by
  have hl := hV.len
  have e0 : ((0 : Nat) : Int) = 0 := rfl
  obtain ⟨L, a1, a2⟩ := vscale (N := N) (by omega) hn c hV n N 0 _ _ (by omega) (by omega) (Vec.zeros n)
  obtain ⟨M, b1, b2⟩ := rscaleV (N := N) (by omega) hn c hV n N 0 [] (by omega) (by omega) ⟨rfl, fun j hj => absurd hj (by omega)⟩
  rw [e0] at a1 b1
  obtain rfl : L = M := a2.ext b2 (fun j hj => by rw [if_pos (Nat.zero_le _)])
  have z1 : (0 : Int) ≤ ((n : Nat) : Int) := by omega
  have z2 : fits 1 n = true := by simp [fits]; omega
  refine ⟨L, ?_, ?_⟩
  · simp only [gf_Scale, hl, dT z1, Int.toNat_natCast, z2, Bool.and_self, cond_true, EK.dflt, gf_Scale_l0, a1, Option.bind_some]
  · simp only [granaryref02_Scale, granaryref02_Scale_l0, b1, Option.bind_some]

theorem vsum {N : Nat} {n : Nat} (hn : n ≤ 4096) {U V : List Int} {u v : Nat → G} (hU : Vec n U u) (hV : Vec n V v) :
    ∀ (d f k : Nat) (L : List Int) (w : Nat → G), k + d = n → d < f → Vec n L w →
      ∃ L', loopF (gf_Sum_b0 N) f (V, U, (n : Int), (k : Int), L) = some L' ∧ Vec n L' (fun j => if k ≤ j then u j + v j else w j) := by
  intro d
  induction d with
  | zero =>
    intro f k L w hk hf hI
    obtain ⟨f, rfl⟩ : ∃ g, f = g + 1 := ⟨f - 1, by omega⟩
    have : k = n := by omega
    subst this
    exact ⟨L, by simp [loopF, gf_Sum_b0], hI.congr (fun j hj => by rw [if_neg (by omega)])⟩
  | succ d ih =>
    intro f k L w hk hf hI
    obtain ⟨f, rfl⟩ : ∃ g, f = g + 1 := ⟨f - 1, by omega⟩
    have hkc : k < n := by omega
    obtain ⟨L', e1, e2⟩ := ih f (k + 1) _ _ (by omega) (by omega) (hI.set hkc (u k + v k))
    refine ⟨L', ?_, e2.congr (fun j hj => ?_)⟩
    · rw [← e1]
      have hl := hI.len
      have hl2 := hV.len
      have hl3 := hU.len
      have z1 : (0 : Int) ≤ (k : Int) := by omega
      have z2 : (k : Int) < (n : Int) := by omega
      have z3 : (k : Int) < ((V.length : Nat) : Int) := by omega
      have z3' : (k : Int) < ((U.length : Nat) : Int) := by omega
      have z4 : (k : Int) < ((L.length : Nat) : Int) := by omega
      have z5 : k < L.length := by omega
      simp only [loopF, gf_Sum_b0, dT z1, dT z2, dT z3, dT z3', dT z4, dT z5, Bool.and_self, cond_true, Int.toNat_natCast, hV.getK hkc, hU.getK hkc, xorG, wrap_succ (show k ≤ 1000000 by omega)]
    · by_cases h4 : j = k
      · subst h4; simp [Nat.not_le.2 (Nat.lt_succ_self j)]
      · have : (k + 1 ≤ j) = (k ≤ j) := propext (by omega)
        simp [this, h4]

theorem rsumV {N : Nat} {n : Nat} (hn : n ≤ 4096) {U V : List Int} {u v : Nat → G} (hU : Vec n U u) (hV : Vec n V v) :
    ∀ (d f k : Nat) (L : List Int), k + d = n → d < f → Vec k L (fun j => u j + v j) →
      ∃ L', loopF (granaryref02_Sum_b0 N) f (U, V, (k : Int), L) = some L' ∧ Vec n L' (fun j => u j + v j) := by
  have hl2 := hV.len
  have hl3 := hU.len
  intro d
  induction d with
  | zero =>
    intro f k L hk hf hI
    obtain ⟨f, rfl⟩ : ∃ g, f = g + 1 := ⟨f - 1, by omega⟩
    have : k = n := by omega
    subst this
    exact ⟨L, by simp [loopF, granaryref02_Sum_b0, hl3], hI⟩
  | succ d ih =>
    intro f k L hk hf hI
    obtain ⟨f, rfl⟩ : ∃ g, f = g + 1 := ⟨f - 1, by omega⟩
    have hkc : k < n := by omega
    obtain ⟨L', e1, e2⟩ := ih f (k + 1) _ (by omega) (by omega) ((hI.append (u k + v k)).congr (fun j hj => by
      by_cases h : j = k
      · subst h; rw [if_pos rfl]
      · rw [if_neg h]))
    refine ⟨L', ?_, e2⟩
    rw [← e1]
    have hl := hI.len
    have z1 : (0 : Int) ≤ (k : Int) := by omega
    have z3 : (k : Int) < ((V.length : Nat) : Int) := by omega
    have z3' : (k : Int) < ((U.length : Nat) : Int) := by omega
    have z4 : fits 1 (L.length + 1) = true := by simp [fits]; omega
    simp only [loopF, granaryref02_Sum_b0, dT z1, dT z3, dT z3', Bool.and_self, cond_true, Int.toNat_natCast, hV.getK hkc, hU.getK hkc, xorG, Option.bind_some, List.drop_zero, List.take_succ_cons, List.take_zero, List.length_cons, List.length_nil, Nat.zero_add, Nat.le_refl, decide_true, z4, wrap_succ (show k ≤ 1000000 by omega)]

theorem sum_same {N n : Nat} (hN : n + 20 ≤ N) (hn : n ≤ 4096) {U V : List Int} {u v : Nat → G} (hU : Vec n U u) (hV : Vec n V v) : ∃ r, gf_Sum N (U, V) = some r ∧ granaryref02_Sum N (U, V) = some r := by
  have hl := hV.len
  have hl3 := hU.len
  have e0 : ((0 : Nat) : Int) = 0 := rfl
  obtain ⟨L, a1, a2⟩ := vsum (N := N) hn hU hV n N 0 _ _ (by omega) (by omega) (Vec.zeros n)
  obtain ⟨M, b1, b2⟩ := rsumV (N := N) hn hU hV n N 0 [] (by omega) (by omega) ⟨rfl, fun j hj => absurd hj (by omega)⟩
  rw [e0] at a1 b1
  obtain rfl : L = M := a2.ext b2 (fun j hj => by rw [if_pos (Nat.zero_le _)])
  have z0 : ((U.length : Nat) : Int) = ((V.length : Nat) : Int) := by omega
  have z1 : (0 : Int) ≤ ((n : Nat) : Int) := by omega
  have z2 : fits 1 n = true := by simp [fits]; omega
  refine ⟨(0, L), ?_, ?_⟩
  · unfold gf_Sum
    dsimp only
    rw [dT z0, Bool.not_true, cond_false, hl3, dT z1, Int.toNat_natCast, z2, Bool.and_self, cond_true, gf_Sum_l0]
    rw [show (EK.dflt (.int .u8) : Int) = 0 from rfl, a1, Option.bind_some]
  · unfold granaryref02_Sum
    dsimp only
    rw [dT z0, Bool.not_true, cond_false, granaryref02_Sum_l0, b1, Option.bind_some]

theorem sum_side {N : Nat} {U V : List Int} (h : U.length ≠ V.length) : gf_Sum N (U, V) = some (23, []) ∧ granaryref02_Sum N (U, V) = some (23, []) := by
  have z0 : ¬ (((U.length : Nat) : Int) = ((V.length : Nat) : Int)) := by omega
  exact ⟨by simp only [gf_Sum, dF z0, Bool.not_false, cond_true], by simp only [granaryref02_Sum, dF z0, Bool.not_false, cond_true]⟩

/-! Through points, by Lagrange -/

theorem rthr2 {N n : Nat} (hn : n ≤ 4096) {X Y : List Int} {p : Nat → G} (hX : Vec n X p) {i : Nat} (hi : i < n) : ∀ (d f k : Nat), k + d = i → d < f →
    ((∃ a, k ≤ a ∧ a < i ∧ p a = p i) ∧ loopF (granaryref02_Through_b2 N) f (X, Y, (i : Int), (k : Int)) = some (.inl ())) ∨
    ((∀ a, k ≤ a → a < i → p a ≠ p i) ∧ loopF (granaryref02_Through_b2 N) f (X, Y, (i : Int), (k : Int)) = some (.inr ())) := by
  have hl := hX.len
  intro d
  induction d with
  | zero =>
    intro f k hk hf
    obtain ⟨f, rfl⟩ : ∃ g, f = g + 1 := ⟨f - 1, by omega⟩
    have : k = i := by omega
    subst this
    exact .inr ⟨fun a h1 h2 => absurd h1 (by omega), by simp [loopF, granaryref02_Through_b2]⟩
  | succ d ih =>
    intro f k hk hf
    obtain ⟨f, rfl⟩ : ∃ g, f = g + 1 := ⟨f - 1, by omega⟩
    have z0 : (k : Int) < (i : Int) := by omega
    have z1 : (0 : Int) ≤ (i : Int) := by omega
    have z2 : (i : Int) < ((X.length : Nat) : Int) := by omega
    have z3 : (0 : Int) ≤ (k : Int) := by omega
    have z4 : (k : Int) < ((X.length : Nat) : Int) := by omega
    by_cases he : p k = p i
    · refine .inl ⟨⟨k, Nat.le_refl _, by omega, he⟩, ?_⟩
      have z5 : ((p i).n : Int) = ((p k).n : Int) := by rw [he]
      simp only [loopF, granaryref02_Through_b2, dT z0, dT z1, dT z2, dT z3, dT z4, cond_true, Bool.and_self, Int.toNat_natCast, hX.getK hi, hX.getK (show k < n by omega), dT z5]
    · have z5 : ¬ ((p i).n : Int) = ((p k).n : Int) := fun e => he (G.ext' (by omega))
      have e : loopF (granaryref02_Through_b2 N) (f + 1) (X, Y, (i : Int), (k : Int)) = loopF (granaryref02_Through_b2 N) f (X, Y, (i : Int), ((k + 1 : Nat) : Int)) := by
        simp only [loopF, granaryref02_Through_b2, dT z0, dT z1, dT z2, dT z3, dT z4, cond_true, Bool.and_self, Int.toNat_natCast, hX.getK hi, hX.getK (show k < n by omega), dF z5, cond_false, wrap_succ (show k ≤ 1000000 by omega)]
      rw [e]
      rcases ih f (k + 1) (by omega) (by omega) with ⟨⟨a, k1, k2, k3⟩, h2⟩ | ⟨h1, h2⟩
      · exact .inl ⟨⟨a, by omega, k2, k3⟩, h2⟩
      · refine .inr ⟨fun a k1 k2 => ?_, h2⟩
        by_cases ha : a = k
        · subst ha; exact he
        · exact h1 a (by omega) k2

theorem rthr0 {N n : Nat} (hn : n ≤ 4096) (hN : n < N) {X Y : List Int} {p : Nat → G} (hX : Vec n X p) : ∀ (d f i : Nat), i + d = n → d < f → (∀ a b, a < b → b < i → p a ≠ p b) →
    (¬ Dist n p ∧ loopF (granaryref02_Through_b0 N) f (X, Y, (i : Int)) = some (.inl ())) ∨ (Dist n p ∧ loopF (granaryref02_Through_b0 N) f (X, Y, (i : Int)) = some (.inr ())) := by
  have hl := hX.len
  intro d
  induction d with
  | zero =>
    intro f i hi hf hd
    obtain ⟨f, rfl⟩ : ∃ g, f = g + 1 := ⟨f - 1, by omega⟩
    have : i = n := by omega
    subst this
    exact .inr ⟨hd, by simp [loopF, granaryref02_Through_b0, hl]⟩
  | succ d ih =>
    intro f i hi hf hd
    obtain ⟨f, rfl⟩ : ∃ g, f = g + 1 := ⟨f - 1, by omega⟩
    have hlt : i < n := by omega
    have e0 : ((0 : Nat) : Int) = 0 := rfl
    have z1 : (i : Int) < ((X.length : Nat) : Int) := by omega
    have hr := rthr2 (N := N) hn (Y := Y) hX hlt i N 0 (by omega) (by omega)
    rw [e0] at hr
    rcases hr with ⟨⟨a, k1, k2, k3⟩, h2⟩ | ⟨h1, h2⟩
    · refine .inl ⟨fun hD => hD a i k2 hlt k3, ?_⟩
      simp only [loopF, granaryref02_Through_b0, granaryref02_Through_l2, dT z1, cond_true, h2, Option.bind_some]
    · have e : loopF (granaryref02_Through_b0 N) (f + 1) (X, Y, (i : Int)) = loopF (granaryref02_Through_b0 N) f (X, Y, ((i + 1 : Nat) : Int)) := by
        simp only [loopF, granaryref02_Through_b0, granaryref02_Through_l2, dT z1, cond_true, h2, Option.bind_some, wrap_succ (show i ≤ 1000000 by omega)]
      rw [e]
      refine ih f (i + 1) (by omega) (by omega) (fun a b hab hb => ?_)
      by_cases hbi : b = i
      · subst hbi; exact h1 a (Nat.zero_le _) hab
      · exact hd a b hab (by omega)

/-- Times (X + a). -/
theorem rthr8 {N n : Nat} (hN : 20 ≤ N) (hn : n ≤ 4096) {X Y : List Int} {p : Nat → G} (hX : Vec n X p) {k : Nat} (hk : k < n) (i cnt s : Int) : ∀ (t f : Nat) (L : List Int) (w : Nat → G), t ≤ n → t < f → Vec n L w →
    ∃ L', loopF (granaryref02_Through_b8 N) f (X, Y, i, cnt, s, (k : Int), (t : Int) - 1, L) = some L' ∧ Vec n L' (fun j => if j < t then mx (p k) w j else w j) := by
  have hlX := hX.len
  intro t
  induction t with
  | zero =>
    intro f L w ht hf hL
    obtain ⟨f, rfl⟩ : ∃ g, f = g + 1 := ⟨f - 1, by omega⟩
    have z : ¬ ((0 : Int) ≤ ((0 : Nat) : Int) - 1) := by omega
    exact ⟨L, by simp only [loopF, granaryref02_Through_b8, dF z, cond_false], hL.congr (fun j hj => by rw [if_neg (by omega)])⟩
  | succ t ih =>
    intro f L w ht hf hL
    obtain ⟨f, rfl⟩ : ∃ g, f = g + 1 := ⟨f - 1, by omega⟩
    have hl := hL.len
    have ht' : t < n := by omega
    obtain ⟨L', e1, e2⟩ := ih f _ _ (by omega) (by omega) (hL.set ht' (mx (p k) w t))
    refine ⟨L', ?_, e2.congr (fun j hj => ?_)⟩
    · rw [← e1]
      have e : ((t + 1 : Nat) : Int) - 1 = (t : Int) := by omega
      rw [e]
      have z1 : (0 : Int) ≤ (t : Int) := by omega
      have z2 : (t : Int) < ((L.length : Nat) : Int) := by omega
      have z3 : t < L.length := by omega
      have z4 : (0 : Int) ≤ (k : Int) := by omega
      have z5 : (k : Int) < ((X.length : Nat) : Int) := by omega
      have w1 := wpred (k := t) (by omega)
      have up : (cond (decide ((0 : Int) < (t : Int))) (cond ((decide ((0 : Int) ≤ (t : Int) - 1)) && (decide ((t : Int) - 1 < ((L.length : Nat) : Int)))) (cond (decide (Int.toNat ((t : Int) - 1) < L.length)) (some (List.getD L (Int.toNat ((t : Int) - 1)) (EK.dflt (.int .u8)))) none) none) (some (0 : Int))) =
          some (((if t = 0 then 0 else w (t - 1)) : G).n : Int) := by
        by_cases h0 : t = 0
        · subst h0; rfl
        · have y1 : (0 : Int) < (t : Int) := by omega
          have y2 : (t : Int) - 1 = ((t - 1 : Nat) : Int) := by omega
          have y3 : (0 : Int) ≤ ((t - 1 : Nat) : Int) := by omega
          have y4 : ((t - 1 : Nat) : Int) < ((L.length : Nat) : Int) := by omega
          have y5 : t - 1 < L.length := by omega
          rw [dT y1, cond_true, y2, dT y3, dT y4, Bool.and_self, cond_true, Int.toNat_natCast, dT y5, cond_true, hL.getK (show t - 1 < n by omega), if_neg h0]
      show granaryref02_Through_b8 N (loopF (granaryref02_Through_b8 N) f) _ = _
      generalize loopF (granaryref02_Through_b8 N) f = nx
      unfold granaryref02_Through_b8
      dsimp only
      rw [dT z1, cond_true, w1, up, Option.bind_some, dT z2, Bool.and_self, cond_true, Int.toNat_natCast, dT z3, cond_true, dT z4, dT z5, Bool.and_self, cond_true, Int.toNat_natCast, hL.getK ht', hX.getK hk, rmulV hN, Option.bind_some, cond_true, cond_true, xorG]
      rfl
    · by_cases h1 : j = t
      · subst h1; simp
      · by_cases h2 : j < t
        · rw [if_pos h2, if_pos (by omega)]
          simp only [mx]
          rw [if_neg (show ¬ (j - 1 = t) by omega), if_neg h1]
        · rw [if_neg h2, if_neg h1, if_neg (by omega)]

theorem rthr6 {N n : Nat} (hN : n + 20 ≤ N) (hn : n ≤ 4096) {X Y : List Int} {p : Nat → G} (hX : Vec n X p) (hd : Dist n p) {i : Nat} (hi : i < n) : ∀ (d f k m : Nat) (s : G) (L : List Int) (w : Nat → G), k + d = n → d < f → Vec n L w → Lagr n p i k m s w →
    ∃ L' w' m' s', loopF (granaryref02_Through_b6 N) f (X, Y, (i : Int), ((m + 1 : Nat) : Int), (s.n : Int), (k : Int), L) = some ((s'.n : Int), L') ∧ Vec n L' w' ∧ Lagr n p i n m' s' w' := by
  have hlX := hX.len
  intro d
  induction d with
  | zero =>
    intro f k m s L w hk hf hL hQ
    obtain ⟨f, rfl⟩ : ∃ g, f = g + 1 := ⟨f - 1, by omega⟩
    have : k = n := by omega
    subst this
    exact ⟨L, w, m, s, by simp [loopF, granaryref02_Through_b6, hlX], hL, hQ⟩
  | succ d ih =>
    intro f k m s L w hk hf hL hQ
    obtain ⟨f, rfl⟩ : ∃ g, f = g + 1 := ⟨f - 1, by omega⟩
    have hkn : k < n := by omega
    have z1 : (k : Int) < ((X.length : Nat) : Int) := by omega
    have hcnt := hQ.cnt
    by_cases hki : k = i
    · subst hki
      obtain ⟨L', w', m', s', e1, e2⟩ := ih f (k + 1) m s L w (by omega) (by omega) hL hQ.skip
      refine ⟨L', w', m', s', ?_, e2⟩
      rw [← e1]
      simp only [loopF, granaryref02_Through_b6, dT z1, cond_true, decide_true, Option.bind_some, wrap_succ (show k ≤ 1000000 by omega)]
    · have hm : m + 1 < n := by
        by_cases h1 : i < k
        · rw [if_pos h1] at hcnt; omega
        · rw [if_neg h1] at hcnt; omega
      obtain ⟨L1, q1, q2⟩ := rthr8 (N := N) (by omega) hn (Y := Y) hX hkn (i : Int) ((m + 1 : Nat) : Int) (s.n : Int) (m + 2) N L w (by omega) (by omega) hL
      rw [show ((m + 2 : Nat) : Int) - 1 = ((m + 1 : Nat) : Int) by omega] at q1
      have q3 : Vec n L1 (mx (p k) w) := q2.congr (fun j hj => by
        by_cases h : j < m + 2
        · rw [if_pos h]
        · rw [if_neg h]
          simp only [mx]
          rw [if_neg (by omega), hQ.top (j - 1) (by omega), hQ.top j (by omega), G.zero_mul, G.add_zero])
      obtain ⟨L', w', m', s', e1, e2⟩ := ih f (k + 1) (m + 1) (s * (p i + p k)) L1 _ (by omega) (by omega) q3 (hQ.next hd hkn hi hki)
      refine ⟨L', w', m', s', ?_, e2⟩
      rw [← e1]
      have z2 : ¬ ((k : Int) = (i : Int)) := by omega
      have z3 : (0 : Int) ≤ (i : Int) := by omega
      have z4 : (i : Int) < ((X.length : Nat) : Int) := by omega
      have z5 : (0 : Int) ≤ (k : Int) := by omega
      show granaryref02_Through_b6 N (loopF (granaryref02_Through_b6 N) f) _ = _
      generalize loopF (granaryref02_Through_b6 N) f = nx
      unfold granaryref02_Through_b6
      dsimp only
      rw [dT z1, cond_true, dF z2, cond_false, granaryref02_Through_l8, q1, Option.bind_some, dT z3, dT z4, Bool.and_self, cond_true, dT z5, Bool.and_self, cond_true, Int.toNat_natCast, Int.toNat_natCast, hX.getK hi, hX.getK hkn, xorG, rmulV (show 20 ≤ N by omega), Option.bind_some, Option.bind_some]
      dsimp only
      rw [wrap_succ (show k ≤ 1000000 by omega), wrap_succ (show m + 1 ≤ 1000000 by omega)]

theorem rthr10 {N n : Nat} (hN : 20 ≤ N) (hn : n ≤ 4096) {X Y Q : List Int} {p q : Nat → G} (hX : Vec n X p) (hQ : Vec n Q q) (i : Int) (c : G) : ∀ (d f k : Nat) (L : List Int) (w : Nat → G), k + d = n → d < f → Vec n L w →
    ∃ L', loopF (granaryref02_Through_b10 N) f (X, Y, i, (c.n : Int), (k : Int), L, Q) = some (L', Q) ∧ Vec n L' (fun j => if k ≤ j then w j + c * q j else w j) := by
  have hlX := hX.len
  have hlQ := hQ.len
  intro d
  induction d with
  | zero =>
    intro f k L w hk hf hI
    obtain ⟨f, rfl⟩ : ∃ g, f = g + 1 := ⟨f - 1, by omega⟩
    have : k = n := by omega
    subst this
    exact ⟨L, by simp [loopF, granaryref02_Through_b10, hlX], hI.congr (fun j hj => by rw [if_neg (by omega)])⟩
  | succ d ih =>
    intro f k L w hk hf hI
    obtain ⟨f, rfl⟩ : ∃ g, f = g + 1 := ⟨f - 1, by omega⟩
    have hkc : k < n := by omega
    obtain ⟨L', e1, e2⟩ := ih f (k + 1) _ _ (by omega) (by omega) (hI.set hkc (w k + c * q k))
    refine ⟨L', ?_, e2.congr (fun j hj => ?_)⟩
    · rw [← e1]
      have hl := hI.len
      have z1 : (0 : Int) ≤ (k : Int) := by omega
      have z2 : (k : Int) < ((X.length : Nat) : Int) := by omega
      have z3 : (k : Int) < ((Q.length : Nat) : Int) := by omega
      have z4 : (k : Int) < ((L.length : Nat) : Int) := by omega
      have z5 : k < L.length := by omega
      have z6 : k < Q.length := by omega
      simp only [loopF, granaryref02_Through_b10, dT z1, dT z2, dT z3, dT z4, dT z5, dT z6, Bool.and_self, cond_true, Int.toNat_natCast, hQ.getK hkc, hI.getK hkc, rmulV hN, xorG, Option.bind_some, wrap_succ (show k ≤ 1000000 by omega)]
    · by_cases h4 : j = k
      · subst h4; simp [Nat.not_le.2 (Nat.lt_succ_self j)]
      · have : (k + 1 ≤ j) = (k ≤ j) := propext (by omega)
        simp [this, h4]

theorem rthr4 {N n : Nat} (hN : n + 300 ≤ N) (hn : n ≤ 4096) {X Y : List Int} {p y : Nat → G} (hX : Vec n X p) (hY : Vec n Y y) (hd : Dist n p) : ∀ (d f i : Nat) (L : List Int) (w : Nat → G), i + d = n → d < f → Vec n L w → Part n p y i w →
    ∃ L' w', loopF (granaryref02_Through_b4 N) f (X, Y, (i : Int), L) = some L' ∧ Vec n L' w' ∧ Part n p y n w' := by
  have hlX := hX.len
  have hlY := hY.len
  intro d
  induction d with
  | zero =>
    intro f i L w hi hf hL hP
    obtain ⟨f, rfl⟩ : ∃ g, f = g + 1 := ⟨f - 1, by omega⟩
    have : i = n := by omega
    subst this
    exact ⟨L, w, by simp [loopF, granaryref02_Through_b4, hlX], hL, hP⟩
  | succ d ih =>
    intro f i L w hi hf hL hP
    obtain ⟨f, rfl⟩ : ∃ g, f = g + 1 := ⟨f - 1, by omega⟩
    have hin : i < n := by omega
    have e0 : ((0 : Nat) : Int) = 0 := rfl
    have e1' : ((0 + 1 : Nat) : Int) = 1 := rfl
    have g1 : ((G.n 1 : Nat) : Int) = 1 := rfl
    obtain ⟨Q, q, m, s, q1, q2, q3⟩ := rthr6 (N := N) (by omega) hn (Y := Y) hX hd hin n N 0 0 1 _ _ (by omega) (by omega) ((Vec.zeros n).set (i := 0) (by omega) 1) (Lagr.zero n p i)
    rw [e0, e1', g1] at q1
    have hm : m < n := by
      have := q3.cnt
      rw [if_pos hin] at this; omega
    obtain ⟨L1, r1, r2⟩ := rthr10 (N := N) (by omega) hn (Y := Y) hX q2 (i : Int) (y i * G.inv s) n N 0 L w (by omega) (by omega) hL
    rw [e0] at r1
    have r3 : Vec n L1 (fun j => w j + (y i * G.inv s) * q j) := r2.congr (fun j hj => by rw [if_pos (Nat.zero_le _)])
    obtain ⟨L', w', t1, t2⟩ := ih f (i + 1) L1 _ (by omega) (by omega) r3 (hP.next hin hm q3)
    refine ⟨L', w', ?_, t2⟩
    rw [← t1]
    have z1 : (i : Int) < (n : Int) := by omega
    have z2 : (0 : Int) ≤ (n : Int) := by omega
    have z3 : fits 1 n = true := by simp [fits]; omega
    have z4 : (0 : Int) < ((n : Nat) : Int) := by omega
    have z5 : 0 < n := by omega
    have z6 : (0 : Int) ≤ (i : Int) := by omega
    have z7 : (i : Int) < ((Y.length : Nat) : Int) := by omega
    show granaryref02_Through_b4 N (loopF (granaryref02_Through_b4 N) f) _ = _
    generalize loopF (granaryref02_Through_b4 N) f = nx
    unfold granaryref02_Through_b4
    dsimp only
    rw [hlX, dT z1, cond_true, dT z2, Int.toNat_natCast, z3, Bool.and_self, cond_true, List.length_replicate, dT z4, cond_true, dT z5, cond_true, granaryref02_Through_l6]
    rw [show (EK.dflt (.int .u8) : Int) = 0 from rfl, q1, Option.bind_some, dT z6, dT z7, Bool.and_self, cond_true, Int.toNat_natCast]
    dsimp only
    have gy := hY.getK hin
    rw [show (EK.dflt (.int .u8) : Int) = 0 from rfl] at gy
    rw [gy, rdivV (show 300 ≤ N by omega) (y i) q3.ne, Option.bind_some]
    dsimp only
    rw [granaryref02_Through_l10, r1, Option.bind_some, wrap_succ (show i ≤ 1000000 by omega)]

theorem rthrough_ok {N n : Nat} (hN : n + 300 ≤ N) (hn : n ≤ 4000) {X Y : List Int} {p y : Nat → G} (hX : Vec n X p) (hY : Vec n Y y) :
    (¬ Dist n p ∧ granaryref02_Through N (X, Y) = some (21, [])) ∨ (Dist n p ∧ ∃ P u, granaryref02_Through N (X, Y) = some (0, P) ∧ Vec n P u ∧ ∀ k, k < n → ev n u (p k) = y k) := by
  have hlX := hX.len
  have hlY := hY.len
  have e0 : ((0 : Nat) : Int) = 0 := rfl
  have z1 : ((X.length : Nat) : Int) = ((Y.length : Nat) : Int) := by omega
  rcases rthr0 (N := N) (by omega) (by omega) (Y := Y) hX n N 0 (by omega) (by omega) (fun a b _ hb => absurd hb (by omega)) with ⟨h1, h2⟩ | ⟨h1, h2⟩
  · rw [e0] at h2
    refine .inl ⟨h1, ?_⟩
    unfold granaryref02_Through
    dsimp only
    rw [dT z1, Bool.not_true, cond_false, granaryref02_Through_l0, h2, Option.bind_some]
  · rw [e0] at h2
    obtain ⟨P, u, q1, q2, q3⟩ := rthr4 (N := N) hN (by omega) hX hY h1 n N 0 _ _ (by omega) (by omega) (Vec.zeros n) (fun k hk => by rw [ev_zero, if_neg (by omega)])
    rw [e0] at q1
    refine .inr ⟨h1, P, u, ?_, q2, fun k hk => by rw [q3 k hk, if_pos hk]⟩
    have z2 : (0 : Int) ≤ (n : Int) := by omega
    have z3 : fits 1 n = true := by simp [fits]; omega
    unfold granaryref02_Through
    dsimp only
    rw [dT z1, Bool.not_true, cond_false, granaryref02_Through_l0, h2, Option.bind_some]
    dsimp only
    rw [hlX, dT z2, Int.toNat_natCast, z3, Bool.and_self, cond_true, granaryref02_Through_l4]
    rw [show (EK.dflt (.int .u8) : Int) = 0 from rfl, q1, Option.bind_some]

theorem through_same {N n : Nat} (hN : n + 300 ≤ N) (hn : n ≤ 4000) {X Y : List Int} {p y : Nat → G} (hX : Vec n X p) (hY : Vec n Y y) : ∃ r, gf_Through N (X, Y) = some r ∧ granaryref02_Through N (X, Y) = some r := by
  rcases through_ok (N := N) (by omega) hn hX hY with ⟨a1, a2⟩ | ⟨a1, P, u, a2, a3, a4⟩
  · rcases rthrough_ok (N := N) hN hn hX hY with ⟨b1, b2⟩ | ⟨b1, _⟩
    · exact ⟨_, a2, b2⟩
    · exact absurd b1 a1
  · rcases rthrough_ok (N := N) hN hn hX hY with ⟨b1, _⟩ | ⟨b1, Q, v, b2, b3, b4⟩
    · exact absurd a1 b1
    · obtain rfl : P = Q := a3.ext b3 (poly_unique a1 (fun i hi => by rw [a4 i hi, b4 i hi]))
      exact ⟨_, a2, b2⟩

theorem through_side2 {N : Nat} {X Y : List Int} (h : X.length ≠ Y.length) : gf_Through N (X, Y) = some (23, []) ∧ granaryref02_Through N (X, Y) = some (23, []) := by
  have z1 : ¬ (((X.length : Nat) : Int) = ((Y.length : Nat) : Int)) := by omega
  exact ⟨by simp only [gf_Through, dF z1, Bool.not_false, cond_true], by simp only [granaryref02_Through, dF z1, Bool.not_false, cond_true]⟩

end Go.Rf.W
