/-
  gf.Eval is the polynomial's value; gf.Through goes through the points.
-/
import Derived.Test.YtmkpcnmjhmdndaaPlVec
set_option linter.unusedVariables false
set_option linter.unusedSimpArgs false
namespace Go.Rf.W
open Go Go.Rf Go.Rf.Lin

theorem evalSt {N : Nat} (hN : 20 ≤ N) (x : G) : ∀ (L : List Int) (w : Nat → G), Vec L.length L w → gf_Eval_st N (x.n : Int) (List.reverse L) = some ((ev L.length w x).n : Int) := by
  intro L
  induction L with
  | nil => intro w _; rfl
  | cons c L ih =>
    intro w h
    have hc : c = ((w 0).n : Int) := by have := h.get 0 (by simp); simpa using this
    have h' : Vec L.length L (fun j => w (j + 1)) := ⟨rfl, fun j hj => by have := h.get (j + 1) (by simpa using hj); simpa using this⟩
    have e1 := ih _ h'
    have e2 : gf_Eval_st N (x.n : Int) (List.reverse (c :: L)) = Option.bind (gf_Eval_st N (x.n : Int) (List.reverse L)) (fun y => Option.bind (gf_Mul N (y, (x.n : Int))) fun m => some (xorF .u8 m c)) := by
      simp only [gf_Eval_st, List.reverse_cons, List.foldl_append, List.foldl_cons, List.foldl_nil]
    have e3 : ev (c :: L).length w x = w 0 + x * ev L.length (fun j => w (j + 1)) x := ev_succ _ _ _
    have e4 : ev L.length (fun j => w (j + 1)) x * x + w 0 = w 0 + x * ev L.length (fun j => w (j + 1)) x := by ac_rfl
    rw [e2, e1, Option.bind_some, mulG hN, Option.bind_some, e3, hc, xorG, e4]

theorem evalGood {N : Nat} (hN : 20 ≤ N) (x : G) {n : Nat} {L : List Int} {w : Nat → G} (h : Vec n L w) (hn : n ≤ 4096) : gf_Eval_good N (x.n : Int) L := by
  have hx := x.lt
  refine ⟨by omega, h.bytes, fun a b a1 a2 b1 b2 => ?_, fun a b a1 a2 b1 b2 => ?_, by have := h.len; omega⟩
  · obtain ⟨a, rfl⟩ : ∃ g : G, a = (g.n : Int) := ⟨G.of a.toNat, by rw [G.of_n (by omega)]; omega⟩
    obtain ⟨b, rfl⟩ : ∃ g : G, b = (g.n : Int) := ⟨G.of b.toNat, by rw [G.of_n (by omega)]; omega⟩
    have := (a * b).lt
    exact ⟨_, mulG hN a b, by omega, by omega⟩
  · obtain ⟨a, rfl⟩ : ∃ g : G, a = (g.n : Int) := ⟨G.of a.toNat, by rw [G.of_n (by omega)]; omega⟩
    obtain ⟨b, rfl⟩ : ∃ g : G, b = (g.n : Int) := ⟨G.of b.toNat, by rw [G.of_n (by omega)]; omega⟩
    have := (a + b).lt
    rw [xorG]; omega

theorem evalG {N : Nat} (hN : 20 ≤ N) (x : G) {n : Nat} {L : List Int} {w : Nat → G} (h : Vec n L w) (hn : n ≤ 4096) : gf_Eval N (L, (x.n : Int)) = some ((ev n w x).n : Int) := by
  have hl := h.len
  subst hl
  unfold gf_Eval
  rw [if_pos (evalGood hN x h hn)]
  exact evalSt hN x L w h

theorem divG {N : Nat} (hN : 20 ≤ N) (a : G) {b : G} (h : b ≠ 0) : gf_Div N ((a.n : Int), (b.n : Int)) = some (((a * G.inv b).n : Int), (0 : Int)) := by
  have : b.n ≠ 0 := fun e => h (G.ext' (by rw [G.zero_n]; omega))
  rw [gf_Div_eq (by omega) a.lt b.lt, if_neg this]; rfl

/-! Is an element among them? -/

theorem index_loop {N : Nat} (v : G) {n : Nat} {L : List Int} {w : Nat → G} (h : Vec n L w) (hn : n ≤ 4096) : ∀ (d f i : Nat), i + d = n → d < f →
    ((∃ k, i ≤ k ∧ k < n ∧ w k = v) ∧ ∃ j : Nat, loopF (slices_Index_byte_byte_b0 N) f (L, (v.n : Int), (n : Int), (i : Int)) = some (.inl (j : Int))) ∨
    ((∀ k, i ≤ k → k < n → w k ≠ v) ∧ loopF (slices_Index_byte_byte_b0 N) f (L, (v.n : Int), (n : Int), (i : Int)) = some (.inr ())) := by
  intro d
  induction d with
  | zero =>
    intro f i hi hf
    obtain ⟨f, rfl⟩ : ∃ g, f = g + 1 := ⟨f - 1, by omega⟩
    have : i = n := by omega
    subst this
    exact .inr ⟨fun k h1 h2 => absurd h1 (by omega), by simp [loopF, slices_Index_byte_byte_b0]⟩
  | succ d ih =>
    intro f i hi hf
    obtain ⟨f, rfl⟩ : ∃ g, f = g + 1 := ⟨f - 1, by omega⟩
    have hlt : i < n := by omega
    have hl := h.len
    have z1 : (i : Int) < (n : Int) := by omega
    have z2 : (0 : Int) ≤ (i : Int) := by omega
    have z3 : (i : Int) < ((L.length : Nat) : Int) := by omega
    by_cases hv : w i = v
    · refine .inl ⟨⟨i, Nat.le_refl _, hlt, hv⟩, i, ?_⟩
      have z4 : (v.n : Int) = ((w i).n : Int) := by rw [hv]
      simp only [loopF, slices_Index_byte_byte_b0, dT z1, dT z2, dT z3, cond_true, Bool.and_self, Int.toNat_natCast, h.getK hlt, dT z4]
    · have z4 : ¬ ((v.n : Int) = ((w i).n : Int)) := fun e => hv (G.ext' (by omega))
      have e : loopF (slices_Index_byte_byte_b0 N) (f + 1) (L, (v.n : Int), (n : Int), (i : Int)) = loopF (slices_Index_byte_byte_b0 N) f (L, (v.n : Int), (n : Int), ((i + 1 : Nat) : Int)) := by
        simp only [loopF, slices_Index_byte_byte_b0, dT z1, dT z2, dT z3, cond_true, Bool.and_self, Int.toNat_natCast, h.getK hlt, dF z4, cond_false, wrap_succ (show i ≤ 1000000 by omega)]
      rw [e]
      rcases ih f (i + 1) (by omega) (by omega) with ⟨⟨k, k1, k2, k3⟩, h2⟩ | ⟨h1, h2⟩
      · exact .inl ⟨⟨k, by omega, k2, k3⟩, h2⟩
      · refine .inr ⟨fun k k1 k2 => ?_, h2⟩
        by_cases hk : k = i
        · subst hk; exact hv
        · exact h1 k (by omega) k2

theorem containsG {N : Nat} (v : G) {n : Nat} {L : List Int} {w : Nat → G} (h : Vec n L w) (hn : n ≤ 4096) (hN : n < N) :
    ((∃ k, k < n ∧ w k = v) ∧ slices_Contains_byte_byte N (L, (v.n : Int)) = some true) ∨ ((∀ k, k < n → w k ≠ v) ∧ slices_Contains_byte_byte N (L, (v.n : Int)) = some false) := by
  have hl := h.len
  have e0 : ((0 : Nat) : Int) = 0 := rfl
  rcases index_loop (N := N) v h hn n N 0 (by omega) hN with ⟨⟨k, k1, k2, k3⟩, j, h2⟩ | ⟨h1, h2⟩
  · rw [e0] at h2
    refine .inl ⟨⟨k, k2, k3⟩, ?_⟩
    have z : (0 : Int) ≤ (j : Int) := by omega
    simp only [slices_Contains_byte_byte, slices_Index_byte_byte, slices_Index_byte_byte_l0, hl, h2, Option.bind_some, dT z]
  · rw [e0] at h2
    refine .inr ⟨fun k hk => h1 k (by omega) hk, ?_⟩
    have z : ¬ ((0 : Int) ≤ -1) := by omega
    simp only [slices_Contains_byte_byte, slices_Index_byte_byte, slices_Index_byte_byte_l0, hl, h2, Option.bind_some, dF z]

theorem through_l0 {N n : Nat} (hn : n ≤ 4096) (hN : n < N) {X Y : List Int} {p : Nat → G} (hX : Vec n X p) : ∀ (d f i : Nat), i + d = n → d < f → (∀ a b, a < b → b < i → p a ≠ p b) →
    (¬ Dist n p ∧ loopF (gf_Through_b0 N) f (X, Y, X, (n : Int), (i : Int)) = some (.inl ())) ∨ (Dist n p ∧ loopF (gf_Through_b0 N) f (X, Y, X, (n : Int), (i : Int)) = some (.inr ())) := by
  intro d
  induction d with
  | zero =>
    intro f i hi hf hd
    obtain ⟨f, rfl⟩ : ∃ g, f = g + 1 := ⟨f - 1, by omega⟩
    have : i = n := by omega
    subst this
    exact .inr ⟨hd, by simp [loopF, gf_Through_b0]⟩
  | succ d ih =>
    intro f i hi hf hd
    obtain ⟨f, rfl⟩ : ∃ g, f = g + 1 := ⟨f - 1, by omega⟩
    have hlt : i < n := by omega
    have hl := hX.len
    have z1 : (i : Int) < (n : Int) := by omega
    have z2 : (0 : Int) ≤ (i : Int) := by omega
    have z3 : (i : Int) < ((X.length : Nat) : Int) := by omega
    have z4 : (i : Int) ≤ ((X.length : Nat) : Int) := by omega
    rcases containsG (N := N) (p i) (hX.take (Nat.le_of_lt hlt)) (by omega) (by omega) with ⟨⟨k, k1, k2⟩, h2⟩ | ⟨h1, h2⟩
    · refine .inl ⟨fun hD => hD k i k1 hlt k2, ?_⟩
      simp only [loopF, gf_Through_b0, dT z1, dT z2, dT z3, dT z4, cond_true, Bool.and_self, Int.toNat_natCast, List.drop_zero, hX.getK hlt, h2, Option.bind_some]
    · have e : loopF (gf_Through_b0 N) (f + 1) (X, Y, X, (n : Int), (i : Int)) = loopF (gf_Through_b0 N) f (X, Y, X, (n : Int), ((i + 1 : Nat) : Int)) := by
        simp only [loopF, gf_Through_b0, dT z1, dT z2, dT z3, dT z4, cond_true, Bool.and_self, Int.toNat_natCast, List.drop_zero, hX.getK hlt, h2, Option.bind_some, cond_false, wrap_succ (show i ≤ 1000000 by omega)]
      rw [e]
      refine ih f (i + 1) (by omega) (by omega) (fun a b hab hb => ?_)
      by_cases hbi : b = i
      · subst hbi; exact h1 a hab
      · exact hd a b hab (by omega)

/-- A multiple is added. -/
theorem through_b4 {N : Nat} (hN : 20 ≤ N) {n i : Nat} (hn : n ≤ 4096) (hi : i < n) (c : G) {Y X : List Int} {a2 a3 a6 a7 : Int} {W : List Int} {w : Nat → G} (hW : Vec (n + 1) W w) :
    ∀ (d f k : Nat) (P : List Int) (u : Nat → G), k + d = i + 1 → d < f → Vec n P u →
      ∃ P', loopF (gf_Through_b4 N) f (Y, a2, a3, (c.n : Int), X, a6, a7, ((i + 1 : Nat) : Int), (k : Int), P, W) = some (P', W) ∧ Vec n P' (fun j => if k ≤ j ∧ j ≤ i then u j + c * w j else u j) := by
  intro d
  induction d with
  | zero =>
    intro f k P u hk hf hP
    obtain ⟨f, rfl⟩ : ∃ g, f = g + 1 := ⟨f - 1, by omega⟩
    have z1 : ¬ ((k : Int) < ((i + 1 : Nat) : Int)) := by omega
    exact ⟨P, by simp only [loopF, gf_Through_b4, dF z1, cond_false], hP.congr (fun j hj => by rw [if_neg (by omega)])⟩
  | succ d ih =>
    intro f k P u hk hf hP
    obtain ⟨f, rfl⟩ : ∃ g, f = g + 1 := ⟨f - 1, by omega⟩
    have hlt : k < n := by omega
    have hl := hP.len
    have hl2 := hW.len
    obtain ⟨P', e1, e2⟩ := ih f (k + 1) _ _ (by omega) (by omega) (hP.set hlt (u k + c * w k))
    refine ⟨P', ?_, e2.congr (fun j hj => ?_)⟩
    · rw [← e1]
      have z1 : ((k : Int) < ((i + 1 : Nat) : Int)) := by omega
      have z2 : (0 : Int) ≤ (k : Int) := by omega
      have z3 : (k : Int) < ((P.length : Nat) : Int) := by omega
      have z4 : (k : Int) < ((W.length : Nat) : Int) := by omega
      have z5 : k < P.length := by omega
      have z6 : k < W.length := by omega
      simp only [loopF, gf_Through_b4, dT z1, dT z2, dT z3, dT z4, dT z5, dT z6, cond_true, Bool.and_self, Int.toNat_natCast, hP.getK hlt, hW.getK (show k < n + 1 by omega), mulG hN, xorG, Option.bind_some, wrap_succ (show k ≤ 1000000 by omega)]
    · by_cases h1 : j = k
      · subst h1
        rw [if_neg (by omega), if_pos rfl, if_pos (by omega)]
      · rw [if_neg h1]
        by_cases h2 : k + 1 ≤ j ∧ j ≤ i
        · rw [if_pos h2, if_pos (by omega)]
        · rw [if_neg h2, if_neg (by omega)]

/-- Times (X + a), from above. -/
theorem through_b6 {N : Nat} (hN : 20 ≤ N) {m i : Nat} (hm : m ≤ 5000) (hi : i < m) (a : G) {Y X : List Int} {a5 a6 : Int} : ∀ (k f : Nat) (W : List Int) (w : Nat → G), k ≤ i → k < f → Vec m W w →
      ∃ W', loopF (gf_Through_b6 N) f (Y, (a.n : Int), (k : Int), X, a5, a6, W) = some W' ∧ Vec m W' (fun j => if 1 ≤ j ∧ j ≤ k then w (j - 1) + w j * a else w j) := by
  intro k
  induction k with
  | zero =>
    intro f W w hk hf hW
    obtain ⟨f, rfl⟩ : ∃ g, f = g + 1 := ⟨f - 1, by omega⟩
    exact ⟨W, by simp [loopF, gf_Through_b6], hW.congr (fun j hj => by rw [if_neg (by omega)])⟩
  | succ k ih =>
    intro f W w hk hf hW
    obtain ⟨f, rfl⟩ : ∃ g, f = g + 1 := ⟨f - 1, by omega⟩
    have h1 : k + 1 < m := by omega
    have hl := hW.len
    obtain ⟨W', e1, e2⟩ := ih f _ _ (by omega) (by omega) (hW.set h1 (w k + w (k + 1) * a))
    refine ⟨W', ?_, e2.congr (fun j hj => ?_)⟩
    · rw [← e1]
      have w1 : wrapF .i64 (((k + 1 : Nat) : Int) - 1) = (k : Int) := by rw [show ((k + 1 : Nat) : Int) - 1 = (k : Int) by omega]; exact wrap_nat (by omega)
      have z0 : (0 : Int) < ((k + 1 : Nat) : Int) := by omega
      have z2 : (0 : Int) ≤ (k : Int) := by omega
      have z3 : (k : Int) < ((W.length : Nat) : Int) := by omega
      have z4 : (0 : Int) ≤ ((k + 1 : Nat) : Int) := by omega
      have z5 : ((k + 1 : Nat) : Int) < ((W.length : Nat) : Int) := by omega
      have z6 : k < W.length := by omega
      have z7 : k + 1 < W.length := by omega
      simp only [loopF, gf_Through_b6, w1, dT z0, dT z2, dT z3, dT z4, dT z5, dT z6, dT z7, cond_true, Bool.and_self, Int.toNat_natCast, hW.getK (show k < m by omega), hW.getK h1, mulG hN, xorG, Option.bind_some]
    · by_cases h2 : j = k + 1
      · subst h2
        rw [if_neg (by omega), if_pos rfl, if_pos (by omega)]; rfl
      · by_cases h3 : 1 ≤ j ∧ j ≤ k
        · rw [if_pos h3, if_neg (by omega), if_neg h2, if_pos (by omega)]
        · rw [if_neg h3, if_neg h2, if_neg (by omega)]

theorem through_l2 {N n : Nat} (hN : n + 20 ≤ N) (hn : n ≤ 4000) {X Y : List Int} {p y : Nat → G} (hX : Vec n X p) (hY : Vec n Y y) (hd : Dist n p) :
    ∀ (d f i : Nat) (P W : List Int) (u w : Nat → G), i + d = n → d < f → Vec n P u → Vec (n + 1) W w → Newt n p i w → Thru n p y i u →
      ∃ P' W' u', loopF (gf_Through_b2 N) f (Y, X, (n : Int), (i : Int), P, W) = some (P', W') ∧ Vec n P' u' ∧ Thru n p y n u' := by
  intro d
  induction d with
  | zero =>
    intro f i P W u w hi hf hP hW hNw hTh
    obtain ⟨f, rfl⟩ : ∃ g, f = g + 1 := ⟨f - 1, by omega⟩
    have : i = n := by omega
    subst this
    exact ⟨P, W, u, by simp [loopF, gf_Through_b2], hP, hTh⟩
  | succ d ih =>
    intro f i P W u w hi hf hP hW hNw hTh
    obtain ⟨f, rfl⟩ : ∃ g, f = g + 1 := ⟨f - 1, by omega⟩
    have hlt : i < n := by omega
    have hlX := hX.len
    have hlY := hY.len
    have hlW := hW.len
    have e0 : ((0 : Nat) : Int) = 0 := rfl
    obtain ⟨P1, p1, p2⟩ := through_b4 (N := N) (by omega) (by omega) hlt ((y i + ev n u (p i)) * G.inv (ev (i + 1) w (p i))) (Y := Y) (X := X) (a2 := (i : Int)) (a3 := ((p i).n : Int)) (a6 := (n : Int)) (a7 := (i : Int)) hW (i + 1) N 0 P u (by omega) (by omega) hP
    obtain ⟨W1, w1, w2⟩ := through_b6 (N := N) (by omega) (m := n + 1) (i := i + 1) (by omega) (by omega) (p i) (Y := Y) (X := X) (a5 := (n : Int)) (a6 := (i : Int)) (i + 1) N W w (Nat.le_refl _) (by omega) hW
    have hW1l := w2.len
    have w3 := w2.set (i := 0) (by omega) (w 0 * p i)
    rw [e0] at p1
    have hNw' : Newt n p (i + 1) (fun j => if j = 0 then w 0 * p i else if 1 ≤ j ∧ j ≤ i + 1 then w (j - 1) + w j * p i else w j) := by
      refine (hNw.next hd hlt).congr (fun j hj => ?_) (fun j hj => ?_)
      · simp only [mx]
        by_cases h : j = 0
        · subst h; rw [if_pos rfl, if_pos rfl, G.zero_add]
        · rw [if_neg h, if_neg h, if_pos (by omega)]
      · rw [if_neg (by omega), if_neg (by omega)]; exact hNw.top j (by omega)
    have hTh' : Thru n p y (i + 1) (fun j => if 0 ≤ j ∧ j ≤ i then u j + ((y i + ev n u (p i)) * G.inv (ev (i + 1) w (p i))) * w j else u j) := by
      have h := hTh.next hlt hNw
      have e : (fun j => if 0 ≤ j ∧ j ≤ i then u j + ((y i + ev n u (p i)) * G.inv (ev (i + 1) w (p i))) * w j else u j) = (fun j => u j + ((y i + ev n u (p i)) * G.inv (ev (i + 1) w (p i))) * w j) := by
        funext j
        by_cases hj : j ≤ i
        · rw [if_pos ⟨Nat.zero_le _, hj⟩]
        · rw [if_neg (by omega), hNw.top j (by omega), G.mul_zero, G.add_zero]
      rw [e]; exact h
    obtain ⟨P', W', u', q1, q2⟩ := ih f (i + 1) P1 _ _ _ (by omega) (by omega) p2 w3 hNw' hTh'
    refine ⟨P', W', u', ?_, q2⟩
    rw [← q1]
    have z1 : (i : Int) < (n : Int) := by omega
    have z2 : (0 : Int) ≤ (i : Int) := by omega
    have z3 : (i : Int) < ((X.length : Nat) : Int) := by omega
    have z3' : (i : Int) < ((Y.length : Nat) : Int) := by omega
    have z4 : (0 : Int) ≤ ((i + 1 : Nat) : Int) := by omega
    have z5 : ((i + 1 : Nat) : Int) ≤ ((W.length : Nat) : Int) := by omega
    have z6 : (0 + (i + 1)) ≤ W.length := by omega
    have z7 : (0 : Int) < ((W1.length : Nat) : Int) := by omega
    have z8 : 0 < W1.length := by omega
    have b3 : i ≤ 1000000 := by omega
    have ev1 := evalG (N := N) (by omega) (p i) hP (by omega)
    have ev2 := evalG (N := N) (by omega) (p i) (hW.take (show i + 1 ≤ n + 1 by omega)) (by omega)
    have dv := divG (N := N) (by omega) (y i + ev n u (p i)) (hNw.ne i (Nat.le_refl _) hlt)
    have g0 : List.getD W1 0 (EK.dflt (.int .u8)) = ((w 0).n : Int) := by rw [w2.getK (show 0 < n + 1 by omega), if_neg (by omega)]
    show gf_Through_b2 N (loopF (gf_Through_b2 N) f) _ = _
    generalize loopF (gf_Through_b2 N) f = nx
    unfold gf_Through_b2
    dsimp only
    rw [dT z1, cond_true, dT z2, dT z3, Bool.and_self, cond_true, Int.toNat_natCast, hX.getK hlt, dT z3', Bool.and_self, cond_true, ev1, Option.bind_some, wrap_succ b3, dT z4, dT z5, Bool.and_self, cond_true, Int.toNat_natCast, dT z6, cond_true, cond_true, List.drop_zero, ev2, Option.bind_some, hY.getK hlt, xorG, dv, Option.bind_some]
    dsimp only
    rw [gf_Through_l4, p1, Option.bind_some]
    dsimp only
    rw [gf_Through_l6, w1, Option.bind_some, dT z7, cond_true, dT z8, cond_true, g0, mulG (show 20 ≤ N by omega), Option.bind_some, cond_true, cond_true]

/-- gf.Through: what it says of points. -/
theorem through_ok {N n : Nat} (hN : n + 20 ≤ N) (hn : n ≤ 4000) {X Y : List Int} {p y : Nat → G} (hX : Vec n X p) (hY : Vec n Y y) :
    (¬ Dist n p ∧ gf_Through N (X, Y) = some (21, [])) ∨ (Dist n p ∧ ∃ P u, gf_Through N (X, Y) = some (0, P) ∧ Vec n P u ∧ ∀ k, k < n → ev n u (p k) = y k) := by
  have hlX := hX.len
  have hlY := hY.len
  have e0 : ((0 : Nat) : Int) = 0 := rfl
  have z1 : ((X.length : Nat) : Int) = ((Y.length : Nat) : Int) := by omega
  rcases through_l0 (N := N) (by omega) (by omega) (Y := Y) hX n N 0 (by omega) (by omega) (fun a b _ hb => absurd hb (by omega)) with ⟨h1, h2⟩ | ⟨h1, h2⟩
  · rw [e0] at h2
    refine .inl ⟨h1, ?_⟩
    unfold gf_Through
    dsimp only
    rw [dT z1, Bool.not_true, cond_false, hlX, gf_Through_l0, h2, Option.bind_some]
  · rw [e0] at h2
    have hw := (Vec.zeros (n + 1)).set (i := 0) (by omega) 1
    obtain ⟨P, W, u, q1, q2, q3⟩ := through_l2 (N := N) hN hn hX hY h1 n N 0 _ _ _ _ (by omega) (by omega) (Vec.zeros n) hw ((Newt.zero n p).congr (fun j hj => rfl) (fun j hj => by rw [if_neg (by omega)])) ⟨fun _ _ => rfl, fun k hk => absurd hk (by omega)⟩
    rw [e0] at q1
    refine .inr ⟨h1, P, u, ?_, q2, fun k hk => q3.thr k hk hk⟩
    have z2 : (0 : Int) ≤ (n : Int) := by omega
    have z3 : fits 1 n = true := by simp [fits]; omega
    have w1 : wrapF .i64 ((n : Int) + 1) = ((n + 1 : Nat) : Int) := wrap_succ (by omega)
    have z4 : (0 : Int) ≤ ((n + 1 : Nat) : Int) := by omega
    have z5 : fits 1 (n + 1) = true := by simp [fits]; omega
    have z6 : (0 : Int) < (((n + 1 : Nat)) : Int) := by omega
    have z7 : 0 < n + 1 := by omega
    have g1 : ((G.n 1 : Nat) : Int) = 1 := rfl
    rw [g1] at q1
    unfold gf_Through
    dsimp only
    rw [dT z1, Bool.not_true, cond_false, hlX, gf_Through_l0, h2, Option.bind_some]
    dsimp only
    rw [dT z2, Int.toNat_natCast, z3, Bool.and_self, cond_true, w1, dT z4, Int.toNat_natCast, z5, Bool.and_self, cond_true, List.length_replicate, dT z6, cond_true, dT z7, cond_true, gf_Through_l2]
    rw [show (EK.dflt (.int .u8) : Int) = 0 from rfl, q1, Option.bind_some]

theorem through_side {N : Nat} {X Y : List Int} (h : X.length ≠ Y.length) : gf_Through N (X, Y) = some (23, []) := by
  have z1 : ¬ (((X.length : Nat) : Int) = ((Y.length : Nat) : Int)) := by omega
  simp only [gf_Through, dF z1, Bool.not_false, cond_true]

end Go.Rf.W
