/-
  Vectors in lists; polynomials through points, in two ways.
-/
import Derived.Test.YtoabbnfjnjbjfaaPlRsMat
import Derived.Test.YtoabbnfjnjbjfaaPlVand
set_option linter.unusedVariables false
set_option linter.unusedSimpArgs false
namespace Go.Rf.Lin
open Go.Rf.Lin.G

theorem ev_congr {n : Nat} {w v : Nat → G} (h : ∀ j, j < n → w j = v j) (x : G) : ev n w x = ev n v x := sum_congr (fun i hi => by rw [h i hi])
theorem ev_add (n : Nat) (w v : Nat → G) (x : G) : ev n (fun j => w j + v j) x = ev n w x + ev n v x := by
  unfold ev; rw [← sum_add]; exact sum_congr (fun i _ => add_mul _ _ _)
theorem ev_smul (n : Nat) (c : G) (w : Nat → G) (x : G) : ev n (fun j => c * w j) x = c * ev n w x := by
  unfold ev; rw [mul_sum]; exact sum_congr (fun i _ => mul_assoc _ _ _)
theorem ev_zero (n : Nat) (x : G) : ev n (fun _ => 0) x = 0 := sum_zero (fun i _ => zero_mul _)
theorem ev_more {n : Nat} {w : Nat → G} (h : ∀ j, n ≤ j → w j = 0) (x : G) : ∀ {m : Nat}, n ≤ m → ev m w x = ev n w x := by
  intro m
  induction m with
  | zero => intro hm; rw [show n = 0 by omega]
  | succ m ih =>
    intro hm
    by_cases hnm : n = m + 1
    · rw [hnm]
    · show ev m w x + w m * pw x m = _
      rw [ih (by omega), h m (by omega), zero_mul, add_zero]

/-- Times (X + a). -/
def mx (a : G) (w : Nat → G) : Nat → G := fun k => (if k = 0 then 0 else w (k - 1)) + w k * a
theorem ev_mx {n : Nat} {w : Nat → G} (h : ∀ j, n ≤ j → w j = 0) (a x : G) : ev (n + 1) (mx a w) x = (x + a) * ev n w x := by
  have e1 : ev (n + 1) (mx a w) x = ev (n + 1) (fun k => if k = 0 then 0 else w (k - 1)) x + ev (n + 1) (fun k => a * w k) x := by
    rw [← ev_add]; exact ev_congr (fun j _ => by simp only [mx]; rw [mul_comm (w j)]) x
  rw [e1, ev_smul, ev_more h x (Nat.le_succ n), ev_succ]
  simp only [if_true, zero_add]
  rw [ev_congr (v := w) (fun j _ => by simp) x, add_mul]

/-- Points are unlike. -/
def Dist (n : Nat) (p : Nat → G) : Prop := ∀ i j, i < j → j < n → p i ≠ p j
theorem Dist.ne {n : Nat} {p : Nat → G} (h : Dist n p) {i j : Nat} (hi : i < n) (hj : j < n) (hne : i ≠ j) : p i ≠ p j := by
  rcases Nat.lt_or_gt_of_ne hne with h1 | h1
  · exact h i j h1 hj
  · exact fun e => h j i h1 hi e.symm

theorem poly_unique {n : Nat} {p v w : Nat → G} (hd : Dist n p) (h : ∀ i, i < n → ev n v (p i) = ev n w (p i)) : ∀ j, j < n → v j = w j := by
  intro j hj
  refine eq_of_add (roots n (fun j => v j + w j) p hd (fun i hi => ?_) j hj)
  rw [ev_add, h i hi, add_self]

/-- Newton's polynomial behind i points: 0 at these, not at the others. -/
structure Newt (n : Nat) (p : Nat → G) (i : Nat) (W : Nat → G) : Prop where
  top : ∀ j, i < j → W j = 0
  at0 : ∀ k, k < i → k < n → ev (i + 1) W (p k) = 0
  ne : ∀ k, i ≤ k → k < n → ev (i + 1) W (p k) ≠ 0

theorem Newt.zero (n : Nat) (p : Nat → G) : Newt n p 0 (fun j => if j = 0 then 1 else 0) := by
  refine ⟨fun j hj => by simp; omega, fun k hk => absurd hk (by omega), fun k _ _ h => ?_⟩
  have e : ev (0 + 1) (fun j => if j = 0 then (1 : G) else 0) (p k) = 1 := by
    rw [ev_succ]
    show 1 + p k * 0 = 1
    rw [mul_zero, add_zero]
  rw [e] at h; exact one_ne h

theorem Newt.congr {n i : Nat} {p W V : Nat → G} (h : Newt n p i W) (e : ∀ j, j ≤ i → W j = V j) (e2 : ∀ j, i < j → V j = 0) : Newt n p i V := by
  have : ∀ x, ev (i + 1) W x = ev (i + 1) V x := fun x => ev_congr (fun j hj => e j (by omega)) x
  exact ⟨e2, fun k hk hn => by rw [← this]; exact h.at0 k hk hn, fun k hk hn => by rw [← this]; exact h.ne k hk hn⟩

theorem Newt.next {n i : Nat} {p W : Nat → G} (hd : Dist n p) (hi : i < n) (h : Newt n p i W) : Newt n p (i + 1) (mx (p i) W) := by
  have e : ∀ x, ev (i + 1 + 1) (mx (p i) W) x = (x + p i) * ev (i + 1) W x := fun x => ev_mx (fun j hj => h.top j (by omega)) (p i) x
  refine ⟨fun j hj => ?_, fun k hk hn => ?_, fun k hk hn hz => ?_⟩
  · simp only [mx]
    rw [if_neg (by omega), h.top (j - 1) (by omega), h.top j (by omega), zero_mul, add_zero]
  · rw [e]
    by_cases hki : k = i
    · subst hki; rw [add_self, zero_mul]
    · rw [h.at0 k (by omega) hn, mul_zero]
  · rw [e] at hz
    rcases mul_eq_zero hz with h1 | h1
    · exact hd.ne hn hi (by omega) (eq_of_add h1)
    · exact h.ne k (by omega) hn h1

/-- The polynomial goes through the first i points. -/
structure Thru (n : Nat) (p y : Nat → G) (i : Nat) (P : Nat → G) : Prop where
  top : ∀ j, i ≤ j → P j = 0
  thr : ∀ k, k < i → k < n → ev n P (p k) = y k

theorem Thru.next {n i : Nat} {p y W P : Nat → G} (hi : i < n) (h : Thru n p y i P) (hW : Newt n p i W) :
    Thru n p y (i + 1) (fun j => P j + ((y i + ev n P (p i)) * G.inv (ev (i + 1) W (p i))) * W j) := by
  have eW : ∀ x, ev n W x = ev (i + 1) W x := fun x => ev_more (fun j hj => hW.top j (by omega)) x (by omega)
  refine ⟨fun j hj => by rw [h.top j (by omega), hW.top j (by omega), mul_zero, add_zero], fun k hk hn => ?_⟩
  rw [ev_add, ev_smul, eW]
  by_cases hki : k = i
  · subst hki
    have e2 : G.inv (ev (k + 1) W (p k)) * ev (k + 1) W (p k) = 1 := by rw [mul_comm]; exact mul_inv (hW.ne k (Nat.le_refl _) hn)
    rw [mul_assoc, e2, mul_one, add_comm (y k), ← add_assoc, add_self, zero_add]
  · rw [hW.at0 k (by omega) hn, mul_zero, add_zero]
    exact h.thr k (by omega) hn

/-- Lagrange's polynomial for i, behind k points, of which m are others. -/
structure Lagr (n : Nat) (p : Nat → G) (i k m : Nat) (s : G) (Q : Nat → G) : Prop where
  top : ∀ j, m < j → Q j = 0
  at0 : ∀ j, j < k → j < n → j ≠ i → ev (m + 1) Q (p j) = 0
  at1 : ev (m + 1) Q (p i) = s
  ne : s ≠ 0
  cnt : m = if i < k then k - 1 else k

theorem Lagr.zero (n : Nat) (p : Nat → G) (i : Nat) : Lagr n p i 0 0 1 (fun j => if j = 0 then 1 else 0) := by
  refine ⟨fun j hj => by simp; omega, fun k hk => absurd hk (by omega), ?_, one_ne, by simp⟩
  rw [ev_succ]
  show 1 + p i * 0 = 1
  rw [mul_zero, add_zero]

theorem Lagr.skip {n i m : Nat} {p Q : Nat → G} {s : G} (h : Lagr n p i i m s Q) : Lagr n p i (i + 1) m s Q :=
  ⟨h.top, fun j hj hn hne => h.at0 j (by omega) hn hne, h.at1, h.ne, by have := h.cnt; simp at this; simp; omega⟩

theorem Lagr.next {n i k m : Nat} {p Q : Nat → G} {s : G} (hd : Dist n p) (hk : k < n) (hi : i < n) (hne : k ≠ i) (h : Lagr n p i k m s Q) : Lagr n p i (k + 1) (m + 1) (s * (p i + p k)) (mx (p k) Q) := by
  have e : ∀ x, ev (m + 1 + 1) (mx (p k) Q) x = (x + p k) * ev (m + 1) Q x := fun x => ev_mx (fun j hj => h.top j (by omega)) (p k) x
  refine ⟨fun j hj => ?_, fun j hj hn hji => ?_, ?_, fun hz => ?_, ?_⟩
  · simp only [mx]
    rw [if_neg (by omega), h.top (j - 1) (by omega), h.top j (by omega), zero_mul, add_zero]
  · rw [e]
    by_cases hjk : j = k
    · subst hjk; rw [add_self, zero_mul]
    · rw [h.at0 j (by omega) hn hji, mul_zero]
  · rw [e, h.at1, mul_comm]
  · rcases mul_eq_zero hz with h1 | h1
    · exact h.ne h1
    · exact hd.ne hi hk (Ne.symm hne) (eq_of_add h1)
  · have := h.cnt
    by_cases h1 : i < k
    · rw [if_pos h1] at this; rw [if_pos (by omega)]; omega
    · rw [if_neg h1] at this; rw [if_neg (by omega)]; omega

/-- The sum of these: through the first i points, 0 at the others. -/
def Part (n : Nat) (p y : Nat → G) (i : Nat) (P : Nat → G) : Prop := ∀ k, k < n → ev n P (p k) = if k < i then y k else 0

theorem Part.next {n i m : Nat} {p y Q P : Nat → G} {s : G} (hi : i < n) (hm : m < n) (h : Part n p y i P) (hQ : Lagr n p i n m s Q) : Part n p y (i + 1) (fun j => P j + (y i * G.inv s) * Q j) := by
  intro k hk
  have eQ : ev n Q (p k) = ev (m + 1) Q (p k) := ev_more (fun j hj => hQ.top j (by omega)) _ (by omega)
  rw [ev_add, ev_smul, eQ, h k hk]
  by_cases hki : k = i
  · subst hki
    have e2 : G.inv s * s = 1 := by rw [mul_comm]; exact mul_inv hQ.ne
    rw [hQ.at1, mul_assoc, e2, mul_one, if_neg (by omega), if_pos (by omega), zero_add]
  · rw [hQ.at0 k hk hk hki, mul_zero, add_zero]
    by_cases h1 : k < i
    · rw [if_pos h1, if_pos (by omega)]
    · rw [if_neg h1, if_neg (by omega)]

end Go.Rf.Lin
namespace Go.Rf.W
open Go Go.Rf Go.Rf.Lin

/-- A list's cells. -/
structure Vec (n : Nat) (L : List Int) (w : Nat → G) : Prop where
  len : L.length = n
  get : ∀ j, j < n → L.getD j 0 = ((w j).n : Int)

theorem Vec.congr {n : Nat} {L : List Int} {v w : Nat → G} (h : Vec n L v) (e : ∀ j, j < n → v j = w j) : Vec n L w := ⟨h.len, fun j hj => by rw [h.get j hj, e j hj]⟩
theorem Vec.set {n : Nat} {L : List Int} {w : Nat → G} (h : Vec n L w) {i : Nat} (hi : i < n) (g : G) : Vec n (L.set i (g.n : Int)) (fun j => if j = i then g else w j) := by
  have hl := h.len
  refine ⟨by rw [List.length_set]; exact hl, fun j hj => ?_⟩
  rw [List.getD_eq_getElem?_getD, List.getElem?_set]
  by_cases h1 : j = i
  · subst h1; rw [if_pos rfl, if_pos (by omega)]; simp
  · rw [if_neg (Ne.symm h1), if_neg h1, ← List.getD_eq_getElem?_getD, h.get j hj]
theorem Vec.ext {n : Nat} {L M : List Int} {v w : Nat → G} (h : Vec n L v) (h' : Vec n M w) (e : ∀ j, j < n → v j = w j) : L = M := by
  have l1 := h.len
  have l2 := h'.len
  refine List.ext_getElem (by omega) (fun j h1 h2 => ?_)
  have a1 := h.get j (by omega)
  have a2 := h'.get j (by omega)
  rw [e j (by omega), ← a2, List.getD_eq_getElem?_getD, List.getD_eq_getElem?_getD, List.getElem?_eq_getElem h1, List.getElem?_eq_getElem h2] at a1
  simpa using a1
theorem Vec.of {L : List Int} (hb : ∀ x, x ∈ L → 0 ≤ x ∧ x < 256) : Vec L.length L (fun j => G.of (L.getD j 0).toNat) := by
  refine ⟨rfl, fun j hj => ?_⟩
  have h1 : L.getD j 0 = L[j]'hj := by rw [List.getD_eq_getElem?_getD, List.getElem?_eq_getElem hj]; rfl
  have h2 := hb _ (List.getElem_mem (l := L) (n := j) hj)
  rw [h1, G.of_n (by omega)]
  omega
theorem Vec.zeros (n : Nat) : Vec n (List.replicate n 0) (fun _ => 0) := ⟨by simp, fun j hj => by rw [List.getD_eq_getElem?_getD, List.getElem?_replicate, if_pos hj]; rfl⟩
theorem Vec.bytes {n : Nat} {L : List Int} {w : Nat → G} (h : Vec n L w) : ∀ x, x ∈ L → 0 ≤ x ∧ x < 256 := by
  intro x hx
  obtain ⟨k, hk, rfl⟩ := List.getElem_of_mem hx
  have h1 := h.get k (by rw [← h.len]; exact hk)
  rw [List.getD_eq_getElem?_getD, List.getElem?_eq_getElem hk] at h1
  have h2 : L[k] = ((w k).n : Int) := by simpa using h1
  have := (w k).lt
  omega
theorem Vec.take {n k : Nat} {L : List Int} {w : Nat → G} (h : Vec n L w) (hk : k ≤ n) : Vec k (List.take k L) w := by
  have hl := h.len
  refine ⟨by simp; omega, fun j hj => ?_⟩
  rw [List.getD_eq_getElem?_getD, List.getElem?_take_of_lt hj, ← List.getD_eq_getElem?_getD, h.get j (by omega)]
theorem Vec.append {n : Nat} {L : List Int} {w : Nat → G} (h : Vec n L w) (g : G) : Vec (n + 1) (L ++ [(g.n : Int)]) (fun j => if j = n then g else w j) := by
  have hl := h.len
  refine ⟨by simp; omega, fun j hj => ?_⟩
  rw [List.getD_eq_getElem?_getD, List.getElem?_append]
  by_cases h1 : j = n
  · subst h1; rw [if_neg (by omega), if_pos rfl, show j - L.length = 0 by omega]; rfl
  · rw [if_pos (by omega), if_neg h1, ← List.getD_eq_getElem?_getD, h.get j (by omega)]
theorem Vec.getK {n : Nat} {L : List Int} {w : Nat → G} (h : Vec n L w) {j : Nat} (hj : j < n) : List.getD L j (EK.dflt (.int .u8)) = ((w j).n : Int) := h.get j hj

theorem vscale {N : Nat} (hN : 20 ≤ N) {n : Nat} (hn : n ≤ 4096) (c : G) {V : List Int} {v : Nat → G} (hV : Vec n V v) :
    ∀ (d f k : Nat) (L : List Int) (w : Nat → G), k + d = n → d < f → Vec n L w →
      ∃ L', loopF (gf_Scale_b0 N) f ((c.n : Int), V, (n : Int), (k : Int), L) = some L' ∧ Vec n L' (fun j => if k ≤ j then c * v j else w j) := by
  intro d
  induction d with
  | zero =>
    intro f k L w hk hf hI
    obtain ⟨f, rfl⟩ : ∃ g, f = g + 1 := ⟨f - 1, by omega⟩
    have : k = n := by omega
    subst this
    exact ⟨L, by simp [loopF, gf_Scale_b0], hI.congr (fun j hj => by rw [if_neg (by omega)])⟩
  | succ d ih =>
    intro f k L w hk hf hI
    obtain ⟨f, rfl⟩ : ∃ g, f = g + 1 := ⟨f - 1, by omega⟩
    have hkc : k < n := by omega
    obtain ⟨L', e1, e2⟩ := ih f (k + 1) _ _ (by omega) (by omega) (hI.set hkc (c * v k))
    refine ⟨L', ?_, e2.congr (fun j hj => ?_)⟩
    · rw [← e1]
      have hl := hI.len
      have hl2 := hV.len
      have z1 : (0 : Int) ≤ (k : Int) := by omega
      have z2 : (k : Int) < (n : Int) := by omega
      have z3 : (k : Int) < ((V.length : Nat) : Int) := by omega
      have z4 : (k : Int) < ((L.length : Nat) : Int) := by omega
      have z5 : k < L.length := by omega
      simp only [loopF, gf_Scale_b0, dT z1, dT z2, dT z3, dT z4, dT z5, Bool.and_self, cond_true, Int.toNat_natCast, hV.getK hkc, mulG hN, Option.bind_some, wrap_succ (show k ≤ 1000000 by omega)]
    · by_cases h4 : j = k
      · subst h4; simp [Nat.not_le.2 (Nat.lt_succ_self j)]
      · have : (k + 1 ≤ j) = (k ≤ j) := propext (by omega)
        simp [this, h4]

theorem vsum {N : Nat} {n : Nat} (hn : n ≤ 4096) {U V : List Int} {u v : Nat → G} (hU : Vec n U u) (hV : Vec n V v) :
    ∀ (d f k : Nat) (L : List Int) (w : Nat → G), k + d = n → d < f → Vec n L w →
      ∃ L', loopF (gf_Sum_b0 N) f (V, U, (n : Int), (k : Int), L) = some L' ∧ Vec n L' (fun j => if k ≤ j then u j + v j else w j) := by
  intro d
  induction d with
  | zero =>
    intro f k L w hk hf hI
    obtain ⟨f, rfl⟩ : ∃ g, f = g + 1 := ⟨f - 1, by omega⟩
    have : k = n := by omega
    subst this
    exact ⟨L, by simp [loopF, gf_Sum_b0], hI.congr (fun j hj => by rw [if_neg (by omega)])⟩
  | succ d ih =>
    intro f k L w hk hf hI
    obtain ⟨f, rfl⟩ : ∃ g, f = g + 1 := ⟨f - 1, by omega⟩
    have hkc : k < n := by omega
    obtain ⟨L', e1, e2⟩ := ih f (k + 1) _ _ (by omega) (by omega) (hI.set hkc (u k + v k))
    refine ⟨L', ?_, e2.congr (fun j hj => ?_)⟩
    · rw [← e1]
      have hl := hI.len
      have hl2 := hV.len
      have hl3 := hU.len
      have z1 : (0 : Int) ≤ (k : Int) := by omega
      have z2 : (k : Int) < (n : Int) := by omega
      have z3 : (k : Int) < ((V.length : Nat) : Int) := by omega
      have z3' : (k : Int) < ((U.length : Nat) : Int) := by omega
      have z4 : (k : Int) < ((L.length : Nat) : Int) := by omega
      have z5 : k < L.length := by omega
      simp only [loopF, gf_Sum_b0, dT z1, dT z2, dT z3, dT z3', dT z4, dT z5, Bool.and_self, cond_true, Int.toNat_natCast, hV.getK hkc, hU.getK hkc, xorG, wrap_succ (show k ≤ 1000000 by omega)]
    · by_cases h4 : j = k
      · subst h4; simp [Nat.not_le.2 (Nat.lt_succ_self j)]
      · have : (k + 1 ≤ j) = (k ≤ j) := propext (by omega)
        simp [this, h4]

end Go.Rf.W
