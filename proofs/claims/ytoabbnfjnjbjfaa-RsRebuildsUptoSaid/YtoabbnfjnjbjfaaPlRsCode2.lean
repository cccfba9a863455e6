/-
  Package rs: solve, Rebuild, Check; the law's helpers.
-/
import Derived.Test.YtoabbnfjnjbjfaaPlRsCode
set_option linter.unusedVariables false
set_option linter.unusedSimpArgs false
set_option maxRecDepth 10000
namespace Go.Rf.W
open Go Go.Rf Go.Rf.Lin Go.Rf.W.Pure

theorem Vec.is1 {n : Nat} {V : List Int} {v : Nat → G} (h : Vec n V v) : Is 1 n V (fun _ j => v j) := by
  refine ⟨by rw [Nat.one_mul]; exact h.len, fun i hi j hj => ?_⟩
  have : i = 0 := by omega
  subst this
  rw [Nat.zero_mul, Nat.add_zero]; exact h.get j hj

theorem Is.append {k cols : Nat} {L V : List Int} {A : Mt} {v : Nat → G} (h : Is k cols L A) (hV : Vec cols V v) : Is (k + 1) cols (L ++ V) (fun a b => if a = k then v b else A a b) := by
  have hl := h.len
  have hl2 := hV.len
  refine ⟨by rw [List.length_append, hl, hl2, Nat.add_mul, Nat.one_mul], fun i hi j hj => ?_⟩
  rw [List.getD_eq_getElem?_getD, List.getElem?_append]
  by_cases h1 : i = k
  · subst h1
    rw [if_neg (by omega), if_pos rfl, show j + i * cols - L.length = j from by omega]
    have := hV.get j hj
    rw [List.getD_eq_getElem?_getD] at this
    exact this
  · have h2 := cell_lt (show i < k by omega) hj
    rw [if_pos (by omega), if_neg h1, ← List.getD_eq_getElem?_getD, h.get i (by omega) j hj]

theorem Is.rowV {rows cols r : Nat} {L : List Int} {A : Mt} (h : Is rows cols L A) (hr : r < rows) : Vec cols (List.take cols (List.drop (r * cols) L)) (fun j => A r j) := by
  have h1 := h.row hr
  refine ⟨by have := h1.len; rwa [Nat.one_mul] at this, fun j hj => ?_⟩
  have := h1.get 0 (by omega) j hj
  rwa [Nat.zero_mul, Nat.add_zero] at this

/-! solve -/

theorem solve_l0 {N k m : Nat} (hk : 1 ≤ k) (hk2 : k ≤ 16) (hm : m ≤ 8) {T : List (List Int)} {a1 : Int} {Wl : List Int} {W : Nat → Nat} (hWl : Wl.length = k) (hW : ∀ i, i < k → Wl.getD i 0 = (W i : Int) ∧ W i < k + m) :
    ∀ (d f i : Nat) (L : List Int), i + d = k → d < f → Is i k L (fun a b => gen k (W a) b) →
      ∃ L', loopF (rs_Code_solve_b0 N) f (T, a1, Wl, (k : Int), (i : Int), (k : Int), (m : Int), rowsF k m, L) = some ((k : Int), (m : Int), rowsF k m, L') ∧ Is k k L' (fun a b => gen k (W a) b) := by
  intro d
  induction d with
  | zero =>
    intro f i L hi hf hL
    obtain ⟨f, rfl⟩ : ∃ g, f = g + 1 := ⟨f - 1, by omega⟩
    have : i = k := by omega
    subst this
    exact ⟨L, by simp [loopF, rs_Code_solve_b0], hL⟩
  | succ d ih =>
    intro f i L hi hf hL
    obtain ⟨f, rfl⟩ : ∃ g, f = g + 1 := ⟨f - 1, by omega⟩
    have hlt : i < k := by omega
    obtain ⟨w1, w2⟩ := hW i hlt
    have hv := rowS_vec (k := k) (i := W i) hk2 (by omega)
    have hlL := hL.len
    have hlV := hv.len
    obtain ⟨L', e1, e2⟩ := ih f (i + 1) _ (by omega) (by omega) ((hL.append hv).congr (fun a ha b hb => by
      by_cases h : a = i
      · subst h; simp
      · simp [h]))
    refine ⟨L', ?_, e2⟩
    rw [← e1]
    have hik : i * k ≤ 16 * 16 := Nat.mul_le_mul (by omega) hk2
    have z1 : (i : Int) < (k : Int) := by omega
    have z2 : (0 : Int) ≤ (i : Int) := by omega
    have z3 : (i : Int) < ((Wl.length : Nat) : Int) := by omega
    have z4 : fits 1 (L.length + (rowS k (W i)).length) = true := by rw [hlL, hlV]; simp [fits]; omega
    have w1' : List.getD Wl i (EK.dflt (.int .i64)) = (W i : Int) := w1
    show rs_Code_solve_b0 N (loopF (rs_Code_solve_b0 N) f) _ = _
    generalize loopF (rs_Code_solve_b0 N) f = nx
    unfold rs_Code_solve_b0
    dsimp only
    rw [dT z1, cond_true, dT z2, dT z3, Bool.and_self, cond_true, Int.toNat_natCast, w1', rsrow_ok hk hk2 hm w2, Option.bind_some]
    dsimp only
    rw [z4, cond_true, wrap_succ (show i ≤ 1000000 by omega)]

theorem solve_l2 {N k n : Nat} (hN : n + 200 ≤ N) (hn : n ≤ 4096) (hk2 : k ≤ 16) {T : List (List Int)} {t : Nat → Nat → G} (hT : Mat k n T t) {V : List Int} {I : Mt} (hV : Is k k V I) :
    ∀ (d f j : Nat) (O : List (List Int)), j + d = k → d < f → Mat j n O (fun q x => sum k (fun l => I q l * t l x)) →
      ∃ O', loopF (rs_Code_solve_b2 N) f (T, (n : Int), (k : Int), (j : Int), (k : Int), V, (k : Int), (k : Int), O) = some ((k : Int), V, (k : Int), (k : Int), O') ∧ Mat k n O' (fun q x => sum k (fun l => I q l * t l x)) := by
  have hlV := hV.len
  have hkk : k * k ≤ 16 * 16 := Nat.mul_le_mul hk2 hk2
  intro d
  induction d with
  | zero =>
    intro f j O hj hf hO
    obtain ⟨f, rfl⟩ : ∃ g, f = g + 1 := ⟨f - 1, by omega⟩
    have : j = k := by omega
    subst this
    exact ⟨O, by simp [loopF, rs_Code_solve_b2], hO⟩
  | succ d ih =>
    intro f j O hj hf hO
    obtain ⟨f, rfl⟩ : ∃ g, f = g + 1 := ⟨f - 1, by omega⟩
    have hlt : j < k := by omega
    have hlO := hO.len
    have he : (j + 1) * k = j * k + k := by rw [Nat.add_mul, Nat.one_mul]
    have hle : j * k + k ≤ k * k := by rw [← he]; exact Nat.mul_le_mul_right k hlt
    obtain ⟨X, a1, a2⟩ := mixed_ok (N := N) hN hn (by omega) (hV.rowV hlt) hT
    obtain ⟨O', e1, e2⟩ := ih f (j + 1) _ (by omega) (by omega) ((hO.append a2).congr (fun i hi x hx => by
      by_cases h : i = j
      · subst h; rw [if_pos rfl]
      · rw [if_neg h]))
    refine ⟨O', ?_, e2⟩
    rw [← e1]
    have q1 : wrapF .i64 ((j : Int) * (k : Int)) = ((j * k : Nat) : Int) := wrap_mul (by omega)
    have q2 : wrapF .i64 ((wrapF .i64 ((j : Int) + 1)) * (k : Int)) = ((j * k + k : Nat) : Int) := by
      rw [wrap_succ (show j ≤ 1000000 by omega), wrap_mul (a := j + 1) (b := k) (by omega), he]
    have z1 : (j : Int) < (k : Int) := by omega
    have z2 : (0 : Int) ≤ ((j * k : Nat) : Int) := by omega
    have z3 : ((j * k : Nat) : Int) ≤ ((j * k + k : Nat) : Int) := by omega
    have z4 : ((j * k + k : Nat) : Int) ≤ ((V.length : Nat) : Int) := by omega
    have z5 : ((j * k + k : Nat) : Int) ≤ ((j * k + k : Nat) : Int) := by omega
    have z6 : j * k + k ≤ V.length := by omega
    have z7 : fits 24 (O.length + [X].length) = true := by simp [fits]; omega
    show rs_Code_solve_b2 N (loopF (rs_Code_solve_b2 N) f) _ = _
    generalize loopF (rs_Code_solve_b2 N) f = nx
    unfold rs_Code_solve_b2
    dsimp only
    rw [dT z1, cond_true, q1, q2, dT z2, dT z3, dT z5, dT z4, Bool.and_self, Bool.and_self, Bool.and_self, cond_true, Int.toNat_natCast, Int.toNat_natCast, show j * k + k - j * k = k by omega, dT z6, cond_true, cond_true, a1, Option.bind_some, z7, cond_true, wrap_succ (show j ≤ 1000000 by omega)]

theorem solve_ok {N k m n : Nat} (hN : n + 200 ≤ N) (hn : n ≤ 4096) (hk : 1 ≤ k) (hk2 : k ≤ 16) (hm : m ≤ 8) {T : List (List Int)} {s : Nat → Nat → G} {Wl : List Int} {W : Nat → Nat} (hWl : Wl.length = k) (hW : ∀ i, i < k → Wl.getD i 0 = (W i : Int) ∧ W i < k + m)
    (hd : ∀ i j, i < j → j < k → W i ≠ W j) (hT : Mat k n T (fun i => shard k s (W i))) :
    ∃ O, rs_Code_solve N (T, Wl, (n : Int), (k : Int), (m : Int), rowsF k m) = some (0, (k : Int), (m : Int), rowsF k m, O) ∧ Mat k n O s := by
  have e0 : ((0 : Nat) : Int) = 0 := rfl
  have hkk : k * k ≤ 16 * 16 := Nat.mul_le_mul hk2 hk2
  obtain ⟨L, a1, a2⟩ := solve_l0 (N := N) hk hk2 hm (T := T) (a1 := (n : Int)) hWl hW k N 0 [] (by omega) (by omega) ⟨by simp, fun i hi => absurd hi (by omega)⟩
  obtain ⟨r, b1, b2⟩ := inverse_ok (N := N) (by omega) hk (by omega) a2
  have hr : r = k := gen_full (by omega) (fun i hi => by have := (hW i hi).2; omega) hd (fun i hi j hj => rfl) b1
  rcases b2 with ⟨b3, _⟩ | ⟨_, V, I, b4, b5, b6⟩
  · omega
  obtain ⟨O, c1, c2⟩ := solve_l2 (N := N) hN hn hk2 hT b5 k N 0 [] (by omega) (by omega) (Mat.nil n _)
  rw [e0] at a1 c1
  refine ⟨O, ?_, c2.congr (fun q hq x hx => ?_)⟩
  · have w1 : wrapF .i64 ((k : Int) * (k : Int)) = ((k * k : Nat) : Int) := wrap_mul (by omega)
    have z1 : (0 : Int) ≤ ((k * k : Nat) : Int) := by omega
    have z2 : fits 1 (k * k) = true := by simp [fits]; omega
    have z3 : ((Wl.length : Nat) : Int) = (k : Int) := by omega
    unfold rs_Code_solve
    dsimp only
    rw [w1, dT z1, Int.toNat_natCast, z2, Bool.and_self, cond_true, z3, List.replicate_zero, rs_Code_solve_l0, a1, Option.bind_some]
    dsimp only
    rw [b4, Option.bind_some]
    dsimp only
    rw [dT rfl, Bool.not_true, cond_false, rs_Code_solve_l2, c1, Option.bind_some]
  · -- the inverse times the rows times the data
    show sum k (fun l => I q l * shard k s (W l) x) = s q x
    have e1 : sum k (fun l => I q l * shard k s (W l) x) = mm k I (mm k (fun a b => gen k (W a) b) (fun a b => s a b)) q x := rfl
    rw [e1, ← mm_assoc]
    have e2 := Lin.Same.mm (n := n) b6.left (Lin.Same.refl k n (fun a b => s a b)) q hq x hx
    rw [e2]
    exact one_mm (fun a b => s a b) q hq x hx

/-! Which are there -/

def cnt (K : Nat) (p : Nat → Bool) : Nat := ((List.range K).filter p).length
theorem cnt_succ (K : Nat) (p : Nat → Bool) : cnt (K + 1) p = cnt K p + (if p K = true then 1 else 0) := by
  unfold cnt
  rw [List.range_succ, List.filter_append, List.length_append]
  congr 1
  by_cases h : p K = true <;> simp [h]
theorem cnt_upd {p : Nat → Bool} {r : Nat} (h : p r = true) : ∀ K, cnt K p = cnt K (fun q => if q = r then false else p q) + (if r < K then 1 else 0) := by
  intro K
  induction K with
  | zero => simp [cnt]
  | succ K ih =>
    rw [cnt_succ, cnt_succ, ih]
    by_cases h1 : K = r
    · subst h1
      rw [h]; simp
    · have e1 : (if K = r then false else p K) = p K := if_neg h1
      rw [e1]
      by_cases h2 : r < K
      · rw [if_pos h2, if_pos (show r < K + 1 by omega)]; omega
      · rw [if_neg h2, if_neg (show ¬ r < K + 1 by omega)]; omega
theorem cnt_all (K : Nat) : cnt K (fun _ => true) = K := by
  unfold cnt
  rw [List.filter_eq_self.2 (fun _ _ => rfl), List.length_range]

theorem filter_get {K : Nat} {p : Nat → Bool} {i : Nat} (hi : i < cnt K p) : ∃ q, ((List.range K).filter p)[i]? = some q ∧ q < K ∧ p q = true := by
  refine ⟨_, List.getElem?_eq_getElem hi, ?_⟩
  have := List.getElem_mem (l := (List.range K).filter p) hi
  rw [List.mem_filter, List.mem_range] at this
  exact this
theorem filter_lt {K : Nat} {p : Nat → Bool} : ((List.range K).filter p).Pairwise (· < ·) := List.Pairwise.filter p List.pairwise_lt_range

/-! Rebuild -/

theorem rebuild_l0 {N K : Nat} (hK : K ≤ 100) {S : List (List Int)} {B Bx : List Bool} (hS : S.length = K) (hB : B.length = K) :
    ∀ (d f i : Nat), i + d = K → d < f →
      loopF (rs_Code_Rebuild_b0 N) f (S, Bx, B, (K : Int), (i : Int), ((List.range i).filter (fun q => B.getD q false)).map (fun q => S.getD q []), ((List.range i).filter (fun q => B.getD q false)).map (fun q : Nat => (q : Int))) =
        some (((List.range K).filter (fun q => B.getD q false)).map (fun q => S.getD q []), ((List.range K).filter (fun q => B.getD q false)).map (fun q : Nat => (q : Int))) := by
  intro d
  induction d with
  | zero =>
    intro f i hi hf
    obtain ⟨f, rfl⟩ : ∃ g, f = g + 1 := ⟨f - 1, by omega⟩
    have : i = K := by omega
    subst this
    simp [loopF, rs_Code_Rebuild_b0]
  | succ d ih =>
    intro f i hi hf
    obtain ⟨f, rfl⟩ : ∃ g, f = g + 1 := ⟨f - 1, by omega⟩
    have hlt : i < K := by omega
    rw [← ih f (i + 1) (by omega) (by omega)]
    have z1 : (i : Int) < (K : Int) := by omega
    have z2 : (0 : Int) ≤ (i : Int) := by omega
    have z3 : (i : Int) < ((B.length : Nat) : Int) := by omega
    have z4 : (i : Int) < ((S.length : Nat) : Int) := by omega
    have hlen : ((List.range i).filter (fun q => B.getD q false)).length ≤ i := by
      have := List.length_filter_le (fun q => B.getD q false) (List.range i)
      simpa using this
    show rs_Code_Rebuild_b0 N (loopF (rs_Code_Rebuild_b0 N) f) _ = _
    generalize loopF (rs_Code_Rebuild_b0 N) f = nx
    have hd1 : List.getD B i (EK.dflt .bool) = B.getD i false := rfl
    have hd2 : List.getD S i (EK.dflt (.sl (.int .u8))) = S.getD i [] := rfl
    unfold rs_Code_Rebuild_b0
    dsimp only
    rw [dT z1, cond_true, dT z2, dT z3, Bool.and_self, cond_true, Int.toNat_natCast, hd1]
    cases hb : B.getD i false
    · rw [cond_false, Option.bind_some, wrap_succ (show i ≤ 1000000 by omega)]
      dsimp only
      rw [List.range_succ, List.filter_append, show List.filter (fun q => B.getD q false) [i] = [] by rw [List.filter_cons, hb]; rfl, List.append_nil]
    · have g1 : ∀ q, q ≤ i → fits 24 (q + 1) = true := fun q hq => by simp [fits]; omega
      have g2 : ∀ q, q ≤ i → fits 8 (q + 1) = true := fun q hq => by simp [fits]; omega
      have f1 := g1 _ hlen
      have f2 := g2 _ hlen
      rw [cond_true, dT z4, Bool.and_self, cond_true, hd2]
      simp only [List.drop_zero, List.take_succ_cons, List.take_zero, List.length_cons, List.length_nil, List.length_map, Nat.zero_add, Nat.le_refl, decide_true, Bool.true_and, f1, f2, cond_true, Option.bind_some, wrap_succ (show i ≤ 1000000 by omega)]
      rw [List.range_succ, List.filter_append, show List.filter (fun q => B.getD q false) [i] = [i] by rw [List.filter_cons, hb]; rfl, List.map_append, List.map_append]
      rfl

theorem rebuild_l3 {N k m n K : Nat} (hN : n + 200 ≤ N) (hn : n ≤ 4096) (hk : 1 ≤ k) (hk2 : k ≤ 16) (hm : m ≤ 8) (hK : K = k + m) {S : List (List Int)} {B : List Bool} {s : Nat → Nat → G} (hS : S.length = K) (hB : B.length = K)
    (hG : ∀ i, i < K → B.getD i false = true → Vec n (S.getD i []) (shard k s i)) {D : List (List Int)} (hD : Mat k n D s) :
    ∀ (d f i : Nat) (O : List (List Int)), i + d = K → d < f → Mat i n O (shard k s) →
      ∃ O', loopF (rs_Code_Rebuild_b3 N) f (S, (n : Int), B, (K : Int), (i : Int), (k : Int), (m : Int), rowsF k m, D, O) = some ((k : Int), (m : Int), rowsF k m, D, O') ∧ Mat K n O' (shard k s) := by
  intro d
  induction d with
  | zero =>
    intro f i O hi hf hO
    obtain ⟨f, rfl⟩ : ∃ g, f = g + 1 := ⟨f - 1, by omega⟩
    have : i = K := by omega
    subst this
    exact ⟨O, by simp [loopF, rs_Code_Rebuild_b3], hO⟩
  | succ d ih =>
    intro f i O hi hf hO
    obtain ⟨f, rfl⟩ : ∃ g, f = g + 1 := ⟨f - 1, by omega⟩
    have hlt : i < K := by omega
    have hlO := hO.len
    have z1 : (i : Int) < (K : Int) := by omega
    have z2 : (0 : Int) ≤ (i : Int) := by omega
    have z3 : (i : Int) < ((B.length : Nat) : Int) := by omega
    have z4 : (i : Int) < ((S.length : Nat) : Int) := by omega
    have z5 : (0 : Int) ≤ (n : Int) := by omega
    have z6 : fits 1 n = true := by simp [fits]; omega
    have z7 : (0 + n) ≤ n := by omega
    have hcopy : ∀ X : List Int, X.length = n → List.take 0 (List.replicate n (0 : Int)) ++ List.take (min X.length n) X ++ List.drop (0 + (min X.length n)) (List.replicate n (0 : Int)) = X := by
      intro X hX
      rw [hX, Nat.min_self, Nat.zero_add, List.take_zero, List.nil_append, List.take_of_length_le (by omega), List.drop_eq_nil_of_le (by simp), List.append_nil]
    have hd1 : List.getD B i (EK.dflt .bool) = B.getD i false := rfl
    have hd2 : List.getD S i (EK.dflt (.sl (.int .u8))) = S.getD i [] := rfl
    have key : ∃ X, Vec n X (shard k s i) ∧ ∀ nx, rs_Code_Rebuild_b3 N nx (S, (n : Int), B, (K : Int), (i : Int), (k : Int), (m : Int), rowsF k m, D, O) = nx (S, (n : Int), B, (K : Int), ((i + 1 : Nat) : Int), (k : Int), (m : Int), rowsF k m, D, O ++ [X]) := by
      cases hb : B.getD i false
      · have hv := rowS_vec (k := k) (i := i) hk2 (by omega)
        obtain ⟨X, a1, a2⟩ := mixed_ok (N := N) hN hn (by omega) hv hD
        refine ⟨X, a2, fun nx => ?_⟩
        have f3 : fits 24 (O.length + [X].length) = true := by simp [fits]; omega
        unfold rs_Code_Rebuild_b3
        dsimp only
        rw [dT z1, cond_true, dT z2, dT z3, Bool.and_self, cond_true, dT z5, Int.toNat_natCast, z6, Bool.and_self, cond_true, Int.toNat_natCast, hd1, hb, cond_false, rsrow_ok hk hk2 hm (by omega), Option.bind_some]
        dsimp only
        rw [mixed_v, a1, Option.bind_some, List.length_replicate, dT z7, cond_true, Option.bind_some]
        dsimp only
        rw [show (EK.dflt (.int .u8) : Int) = 0 from rfl, hcopy X a2.len, f3, cond_true, wrap_succ (show i ≤ 1000000 by omega)]
      · have hv := hG i hlt hb
        refine ⟨S.getD i [], hv, fun nx => ?_⟩
        have f3 : fits 24 (O.length + [S.getD i []].length) = true := by simp [fits]; omega
        unfold rs_Code_Rebuild_b3
        dsimp only
        rw [dT z1, cond_true, dT z2, dT z3, Bool.and_self, cond_true, dT z5, Int.toNat_natCast, z6, Bool.and_self, cond_true, Int.toNat_natCast, hd1, hb, cond_true, dT z4, Bool.and_self, cond_true, List.length_replicate, dT z7, cond_true, Option.bind_some]
        dsimp only
        rw [show (EK.dflt (.int .u8) : Int) = 0 from rfl, hd2, hcopy _ hv.len, f3, cond_true, wrap_succ (show i ≤ 1000000 by omega)]
    obtain ⟨X, hX, hs⟩ := key
    obtain ⟨O', e1, e2⟩ := ih f (i + 1) _ (by omega) (by omega) ((hO.append hX).congr (fun a ha x hx => by
      by_cases h : a = i
      · subst h; rw [if_pos rfl]
      · rw [if_neg h]))
    refine ⟨O', ?_, e2⟩
    rw [← e1]
    exact hs _

theorem rebuild_ok {N k m n K : Nat} (hN : n + 200 ≤ N) (hn : n ≤ 4096) (hk : 1 ≤ k) (hk2 : k ≤ 16) (hm : m ≤ 8) (hK : K = k + m) {S : List (List Int)} {B : List Bool} {s : Nat → Nat → G} (hS : S.length = K) (hB : B.length = K)
    (hG : ∀ i, i < K → B.getD i false = true → Vec n (S.getD i []) (shard k s i)) (hc : k ≤ cnt K (fun q => B.getD q false)) :
    ∃ O, rs_Code_Rebuild N (S, B, (k : Int), (m : Int), rowsF k m) = some (0, (k : Int), (m : Int), rowsF k m, O) ∧ Mat K n O (shard k s) := by
  have e0 : ((0 : Nat) : Int) = 0 := rfl
  have a1 := rebuild_l0 (N := N) (by omega) (Bx := B) hS hB K N 0 (by omega) (by omega)
  rw [e0, List.range_zero, List.filter_nil, List.map_nil, List.map_nil] at a1
  obtain ⟨F, hF⟩ : ∃ F, F = (List.range K).filter (fun q => B.getD q false) := ⟨_, rfl⟩
  have hFl : F.length = cnt K (fun q => B.getD q false) := by rw [hF]; rfl
  have hFK : F.length ≤ K := by
    rw [hF]
    have := List.length_filter_le (fun q => B.getD q false) (List.range K)
    simpa using this
  have hmem : ∀ x, x ∈ F → x < K ∧ B.getD x false = true := by
    intro x hx
    rw [hF] at hx
    exact ⟨List.mem_range.1 (List.mem_filter.1 hx).1, (List.mem_filter.1 hx).2⟩
  have hget : ∀ i, i < F.length → F.getD i 0 < K ∧ B.getD (F.getD i 0) false = true := by
    intro i hi
    have h1 := List.getElem_mem (l := F) hi
    have h2 : F.getD i 0 = F[i] := by rw [List.getD_eq_getElem?_getD, List.getElem?_eq_getElem hi]; rfl
    rw [h2]
    exact hmem _ h1
  have hlt : ∀ i j, i < j → j < F.length → F.getD i 0 < F.getD j 0 := by
    intro i j hij hj
    have hp : F.Pairwise (· < ·) := by rw [hF]; exact filter_lt
    have := List.pairwise_iff_getElem.1 hp i j (by omega) hj hij
    rw [List.getD_eq_getElem?_getD, List.getD_eq_getElem?_getD, List.getElem?_eq_getElem hj, List.getElem?_eq_getElem (show i < F.length by omega)]
    exact this
  rw [← hF] at a1
  have hTh : Mat F.length n (F.map (fun q => S.getD q [])) (fun i => shard k s (F.getD i 0)) := by
    refine ⟨by simp, fun i hi => ?_⟩
    obtain ⟨h1, h2⟩ := hget i hi
    have h3 : (F.map (fun q => S.getD q [])).getD i [] = S.getD (F.getD i 0) [] := by
      rw [List.getD_eq_getElem?_getD, List.getElem?_map, List.getElem?_eq_getElem hi, List.getD_eq_getElem?_getD (l := F), List.getElem?_eq_getElem hi]; rfl
    rw [h3]
    exact hG _ h1 h2
  have hWh : ∀ i, i < k → (List.take k (F.map (fun q : Nat => (q : Int)))).getD i 0 = ((F.getD i 0 : Nat) : Int) ∧ F.getD i 0 < k + m := by
    intro i hi
    have hi2 : i < F.length := by omega
    refine ⟨?_, by have := (hget i hi2).1; omega⟩
    rw [List.getD_eq_getElem?_getD, List.getElem?_take_of_lt hi, List.getElem?_map, List.getElem?_eq_getElem hi2, List.getD_eq_getElem?_getD, List.getElem?_eq_getElem hi2]; rfl
  obtain ⟨D, b1, b2⟩ := solve_ok (N := N) hN hn hk hk2 hm (Wl := List.take k (F.map (fun q : Nat => (q : Int)))) (W := fun i => F.getD i 0) (by simp; omega) hWh (fun i j hij hj => Nat.ne_of_lt (hlt i j hij (by omega))) (hTh.take (by omega))
  obtain ⟨O, c1, c2⟩ := rebuild_l3 (N := N) hN hn hk hk2 hm hK hS hB hG b2 K N 0 [] (by omega) (by omega) (Mat.nil n _)
  rw [e0] at c1
  refine ⟨O, ?_, c2⟩
  have w1 : wrapF .i64 ((k : Int) + (m : Int)) = (K : Int) := by rw [show (k : Int) + (m : Int) = (K : Int) by omega]; exact wrap_nat (by omega)
  have z1 : ((S.length : Nat) : Int) = (K : Int) := by omega
  have z2 : ((B.length : Nat) : Int) = (K : Int) := by omega
  have hev : rs_even_v1 N (F.map (fun q => S.getD q [])) = some ((n : Int), 0) := by
    rw [even_v, even_ok (K := F.length) (by omega) (by omega) (by omega) hTh, if_pos hn]
  have z3 : ¬ ((((F.map (fun q => S.getD q [])).length : Nat) : Int) < (k : Int)) := by rw [List.length_map]; omega
  have z4 : (0 : Int) ≤ (k : Int) := by omega
  have z5 : (k : Int) ≤ (((F.map (fun q => S.getD q [])).length : Nat) : Int) := by rw [List.length_map]; omega
  have z6 : (k : Int) ≤ (((F.map (fun q : Nat => (q : Int))).length : Nat) : Int) := by rw [List.length_map]; omega
  have z7 : (0 + k) ≤ (F.map (fun q => S.getD q [])).length := by rw [List.length_map]; omega
  have z8 : (0 + k) ≤ (F.map (fun q : Nat => (q : Int))).length := by rw [List.length_map]; omega
  unfold rs_Code_Rebuild
  dsimp only
  rw [w1, z1, z2, dT rfl, Bool.not_true, cond_false, Option.bind_some, cond_false, rs_Code_Rebuild_l0, a1, Option.bind_some]
  dsimp only
  rw [hev, Option.bind_some]
  dsimp only
  rw [dT rfl, Bool.not_true, cond_false, dF z3, cond_false, dT z4, dT z5, Bool.and_self, cond_true, dT z6, Bool.and_self, cond_true, Int.toNat_natCast, dT z7, dT z8, Bool.and_self, Bool.and_self, Bool.and_self, cond_true, List.drop_zero, List.drop_zero, b1, Option.bind_some]
  dsimp only
  rw [dT rfl, Bool.not_true, cond_false, rs_Code_Rebuild_l3, c1, Option.bind_some]

end Go.Rf.W
