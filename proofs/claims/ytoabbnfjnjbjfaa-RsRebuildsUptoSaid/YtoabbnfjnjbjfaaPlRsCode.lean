/-
  Package rs: shards as rows of a matrix; even, mixed, Encode.
-/
import Derived.Test.YtoabbnfjnjbjfaaPlCauchy
import Derived.Test.YtoabbnfjnjbjfaaPlRsRow
set_option linter.unusedVariables false
set_option linter.unusedSimpArgs false
set_option maxRecDepth 10000
namespace Go.Rf.W
open Go Go.Rf Go.Rf.Lin

/-- Shards, K of them, of n bytes each. -/
structure Mat (K n : Nat) (S : List (List Int)) (s : Nat → Nat → G) : Prop where
  len : S.length = K
  row : ∀ i, i < K → Vec n (S.getD i []) (s i)

theorem Mat.congr {K n : Nat} {S : List (List Int)} {s t : Nat → Nat → G} (h : Mat K n S s) (e : ∀ i, i < K → ∀ j, j < n → s i j = t i j) : Mat K n S t := ⟨h.len, fun i hi => (h.row i hi).congr (e i hi)⟩
theorem Mat.nil (n : Nat) (s : Nat → Nat → G) : Mat 0 n [] s := ⟨rfl, fun i hi => absurd hi (by omega)⟩
theorem getD_append1 {α : Type} {S : List α} {V d : α} {i : Nat} : (S ++ [V]).getD i d = if i < S.length then S.getD i d else if i = S.length then V else d := by
  rw [List.getD_eq_getElem?_getD, List.getElem?_append]
  by_cases h : i < S.length
  · rw [if_pos h, if_pos h, List.getD_eq_getElem?_getD]
  · rw [if_neg h, if_neg h]
    by_cases h2 : i = S.length
    · subst h2; simp
    · rw [if_neg h2]
      rw [List.getElem?_eq_none (by simp; omega)]; rfl
theorem Mat.append {K n : Nat} {S : List (List Int)} {V : List Int} {s : Nat → Nat → G} {v : Nat → G} (h : Mat K n S s) (hv : Vec n V v) : Mat (K + 1) n (S ++ [V]) (fun i => if i = K then v else s i) := by
  have hl := h.len
  refine ⟨by simp [hl], fun i hi => ?_⟩
  rw [getD_append1, hl]
  by_cases h1 : i = K
  · subst h1
    rw [if_neg (by omega), if_pos rfl]; simpa using hv
  · rw [if_pos (by omega), if_neg h1]
    exact h.row i (by omega)
theorem list_ext {α : Type} {S T : List α} {d : α} (hl : S.length = T.length) (h : ∀ i, i < S.length → S.getD i d = T.getD i d) : S = T := by
  refine List.ext_getElem hl (fun i h1 h2 => ?_)
  have := h i h1
  rw [List.getD_eq_getElem?_getD, List.getD_eq_getElem?_getD, List.getElem?_eq_getElem h1, List.getElem?_eq_getElem h2] at this
  simpa using this
theorem Mat.ext {K n : Nat} {S T : List (List Int)} {s t : Nat → Nat → G} (h : Mat K n S s) (h' : Mat K n T t) (e : ∀ i, i < K → ∀ j, j < n → s i j = t i j) : S = T := by
  refine list_ext (d := []) (by rw [h.len, h'.len]) (fun i hi => ?_)
  rw [h.len] at hi
  exact (h.row i hi).ext (h'.row i hi) (e i hi)
theorem Mat.take {K n k : Nat} {S : List (List Int)} {s : Nat → Nat → G} (h : Mat K n S s) (hk : k ≤ K) : Mat k n (List.take k S) s := by
  have hl := h.len
  refine ⟨by simp; omega, fun i hi => ?_⟩
  rw [List.getD_eq_getElem?_getD, List.getElem?_take_of_lt hi, ← List.getD_eq_getElem?_getD]
  exact h.row i (by omega)
theorem Mat.getK {K n : Nat} {S : List (List Int)} {s : Nat → Nat → G} (h : Mat K n S s) {i : Nat} (hi : i < K) : Vec n (List.getD S i (EK.dflt (.sl (.int .u8)))) (s i) := h.row i hi
theorem Mat.appendM {K n m : Nat} {S T : List (List Int)} {s t : Nat → Nat → G} (h : Mat K n S s) (h' : Mat m n T t) : Mat (K + m) n (S ++ T) (fun i => if i < K then s i else t (i - K)) := by
  have hl := h.len
  have hl2 := h'.len
  refine ⟨by simp; omega, fun i hi => ?_⟩
  rw [List.getD_eq_getElem?_getD, List.getElem?_append]
  by_cases h1 : i < K
  · rw [if_pos (by omega), if_pos h1, ← List.getD_eq_getElem?_getD]; exact h.row i h1
  · rw [if_neg (by omega), if_neg h1, hl, ← List.getD_eq_getElem?_getD]; exact h'.row (i - K) (by omega)

/-! Are all of one length? -/

theorem even_loop {N K n : Nat} (hK : K ≤ 100) {S : List (List Int)} {s : Nat → Nat → G} (hS : Mat K n S s) : ∀ (d f i : Nat) (cur : Int), i + d = K → d < f → (i ≠ 0 → cur = (n : Int)) → (i = 0 → 1 ≤ K) →
    loopF (rs_even_b0 N) f (cur, S, (K : Int), (i : Int)) = some (.inr (n : Int)) := by
  have hl := hS.len
  intro d
  induction d with
  | zero =>
    intro f i cur hi hf hc h0
    obtain ⟨f, rfl⟩ : ∃ g, f = g + 1 := ⟨f - 1, by omega⟩
    have : i = K := by omega
    subst this
    have hi0 : i ≠ 0 := fun e => by have := h0 e; omega
    rw [hc hi0]
    simp [loopF, rs_even_b0]
  | succ d ih =>
    intro f i cur hi hf hc h0
    obtain ⟨f, rfl⟩ : ∃ g, f = g + 1 := ⟨f - 1, by omega⟩
    have hlt : i < K := by omega
    have hv := (hS.getK hlt).len
    rw [← ih f (i + 1) (n : Int) (by omega) (by omega) (fun _ => rfl) (fun e => by omega)]
    have z1 : (i : Int) < (K : Int) := by omega
    have z2 : (0 : Int) ≤ (i : Int) := by omega
    have z3 : (i : Int) < ((S.length : Nat) : Int) := by omega
    have z4 : (cond (decide ((i : Int) = (0 : Int))) (some (((List.length (List.getD S i (EK.dflt (.sl (.int .u8))))) : Nat) : Int)) (some cur)) = some (n : Int) := by
      by_cases h : i = 0
      · subst h; rw [dT (show ((0 : Nat) : Int) = 0 from rfl), cond_true, hv]
      · rw [dF (show ¬ ((i : Int) = 0) by omega), cond_false, hc h]
    show rs_even_b0 N (loopF (rs_even_b0 N) f) _ = _
    generalize loopF (rs_even_b0 N) f = nx
    unfold rs_even_b0
    dsimp only
    rw [dT z1, cond_true, dT z2, dT z3, Bool.and_self, cond_true, Int.toNat_natCast, z4, Option.bind_some, hv, dT rfl, Bool.not_true, cond_false, wrap_succ (show i ≤ 1000000 by omega)]

theorem even_ok {N K n : Nat} (hN : 200 ≤ N) (hK : K ≤ 100) (hK1 : 1 ≤ K) {S : List (List Int)} {s : Nat → Nat → G} (hS : Mat K n S s) : rs_even N S = if n ≤ 4096 then some ((n : Int), 0) else some (0, 1) := by
  have h := even_loop (N := N) hK hS K N 0 0 (by omega) (by omega) (fun h => absurd rfl h) (fun _ => hK1)
  have e0 : ((0 : Nat) : Int) = 0 := rfl
  rw [e0] at h
  unfold rs_even
  rw [hS.len, rs_even_l0, h, Option.bind_some]
  dsimp only
  by_cases hn : n ≤ 4096
  · rw [dF (show ¬ ((4096 : Int) < (n : Int)) by omega), cond_false, if_pos hn]
  · rw [dT (show ((4096 : Int) < (n : Int)) by omega), cond_true, if_neg hn]

theorem even_v : rs_even_v1 = rs_even := rfl

/-! The sum of shards, each times a coefficient -/

theorem gscale {N n : Nat} (hN : n + 20 ≤ N) (hn : n ≤ 4096) (c : G) {V : List Int} {v : Nat → G} (hV : Vec n V v) : ∃ L, gf_Scale N ((c.n : Int), V) = some L ∧ Vec n L (fun j => c * v j) := by
  have hl := hV.len
  have e0 : ((0 : Nat) : Int) = 0 := rfl
  obtain ⟨L, a1, a2⟩ := vscale (N := N) (by omega) hn c hV n N 0 _ _ (by omega) (by omega) (Vec.zeros n)
  rw [e0] at a1
  have z1 : (0 : Int) ≤ ((n : Nat) : Int) := by omega
  have z2 : fits 1 n = true := by simp [fits]; omega
  refine ⟨L, ?_, a2.congr (fun j hj => by rw [if_pos (Nat.zero_le _)])⟩
  simp only [gf_Scale, hl, dT z1, Int.toNat_natCast, z2, Bool.and_self, cond_true, EK.dflt, gf_Scale_l0, a1, Option.bind_some]

theorem gsum {N n : Nat} (hN : n + 20 ≤ N) (hn : n ≤ 4096) {U V : List Int} {u v : Nat → G} (hU : Vec n U u) (hV : Vec n V v) : ∃ L, gf_Sum N (U, V) = some (0, L) ∧ Vec n L (fun j => u j + v j) := by
  have hl := hV.len
  have hl3 := hU.len
  have e0 : ((0 : Nat) : Int) = 0 := rfl
  obtain ⟨L, a1, a2⟩ := vsum (N := N) hn hU hV n N 0 _ _ (by omega) (by omega) (Vec.zeros n)
  rw [e0] at a1
  have z0 : ((U.length : Nat) : Int) = ((V.length : Nat) : Int) := by omega
  have z1 : (0 : Int) ≤ ((n : Nat) : Int) := by omega
  have z2 : fits 1 n = true := by simp [fits]; omega
  refine ⟨L, ?_, a2.congr (fun j hj => by rw [if_pos (Nat.zero_le _)])⟩
  unfold gf_Sum
  dsimp only
  rw [dT z0, Bool.not_true, cond_false, hl3, dT z1, Int.toNat_natCast, z2, Bool.and_self, cond_true, gf_Sum_l0]
  rw [show (EK.dflt (.int .u8) : Int) = 0 from rfl, a1, Option.bind_some]

theorem mixed_loop {N k n : Nat} (hN : n + 20 ≤ N) (hn : n ≤ 4096) (hk : k ≤ 100) {R : List Int} {r : Nat → G} {S : List (List Int)} {s : Nat → Nat → G} (hR : Vec k R r) (hS : Mat k n S s) :
    ∀ (d f j : Nat) (O : List Int), j + d = k → d < f → Vec n O (fun t => sum j (fun l => r l * s l t)) → ∃ O', loopF (rs_mixed_b0 N) f (S, R, (k : Int), (j : Int), O) = some O' ∧ Vec n O' (fun t => sum k (fun l => r l * s l t)) := by
  have hlR := hR.len
  have hlS := hS.len
  intro d
  induction d with
  | zero =>
    intro f j O hj hf hO
    obtain ⟨f, rfl⟩ : ∃ g, f = g + 1 := ⟨f - 1, by omega⟩
    have : j = k := by omega
    subst this
    exact ⟨O, by simp [loopF, rs_mixed_b0], hO⟩
  | succ d ih =>
    intro f j O hj hf hO
    obtain ⟨f, rfl⟩ : ∃ g, f = g + 1 := ⟨f - 1, by omega⟩
    have hlt : j < k := by omega
    have hlO := hO.len
    have z1 : (j : Int) < (k : Int) := by omega
    have z2 : (0 : Int) ≤ (j : Int) := by omega
    have z3 : (j : Int) < ((R.length : Nat) : Int) := by omega
    have z4 : (j : Int) < ((S.length : Nat) : Int) := by omega
    have w1 := wrap_succ (a := j) (by omega)
    by_cases hz : r j = 0
    · obtain ⟨O', e1, e2⟩ := ih f (j + 1) O (by omega) (by omega) (hO.congr (fun t ht => by simp only [sum]; rw [hz, G.zero_mul, G.add_zero]))
      refine ⟨O', ?_, e2⟩
      rw [← e1]
      have z5 : ((r j).n : Int) = 0 := by rw [hz]; rfl
      show rs_mixed_b0 N (loopF (rs_mixed_b0 N) f) _ = _
      generalize loopF (rs_mixed_b0 N) f = nx
      unfold rs_mixed_b0
      dsimp only
      rw [dT z1, cond_true, dT z2, dT z3, Bool.and_self, cond_true, Int.toNat_natCast, hR.getK hlt, dT z5, cond_true, Option.bind_some, w1]
    · obtain ⟨L, a1, a2⟩ := gscale hN hn (r j) (hS.getK hlt)
      obtain ⟨M, b1, b2⟩ := gsum hN hn hO a2
      obtain ⟨O', e1, e2⟩ := ih f (j + 1) M (by omega) (by omega) (b2.congr (fun t ht => rfl))
      refine ⟨O', ?_, e2⟩
      rw [← e1]
      have z5 : ¬ ((r j).n : Int) = 0 := fun e => hz (G.ext' (by rw [G.zero_n]; omega))
      have hlM := b2.len
      have z6 : (0 + O.length) ≤ O.length := by omega
      have e3 : List.take 0 O ++ List.take (min (List.length M) (List.length O)) M ++ List.drop (0 + (min (List.length M) (List.length O))) O = M := by
        rw [hlM, hlO, Nat.min_self, Nat.zero_add, List.take_zero, List.nil_append, List.take_of_length_le (by omega), List.drop_eq_nil_of_le (by omega), List.append_nil]
      show rs_mixed_b0 N (loopF (rs_mixed_b0 N) f) _ = _
      generalize loopF (rs_mixed_b0 N) f = nx
      unfold rs_mixed_b0
      dsimp only
      rw [dT z1, cond_true, dT z2, dT z3, Bool.and_self, cond_true, Int.toNat_natCast, hR.getK hlt, dF z5, cond_false, dT z4, Bool.and_self, cond_true, a1, Option.bind_some, b1, Option.bind_some, dT z6, cond_true, Option.bind_some, w1]
      dsimp only
      rw [e3]

theorem mixed_ok {N k n : Nat} (hN : n + 200 ≤ N) (hn : n ≤ 4096) (hk : k ≤ 100) {R : List Int} {r : Nat → G} {S : List (List Int)} {s : Nat → Nat → G} (hR : Vec k R r) (hS : Mat k n S s) :
    ∃ O, rs_mixed N (R, S, (n : Int)) = some O ∧ Vec n O (fun t => sum k (fun l => r l * s l t)) := by
  have hlR := hR.len
  have e0 : ((0 : Nat) : Int) = 0 := rfl
  obtain ⟨O, a1, a2⟩ := mixed_loop (N := N) (by omega) hn hk hR hS k N 0 _ (by omega) (by omega) (Vec.zeros n)
  rw [e0] at a1
  have z1 : (0 : Int) ≤ ((n : Nat) : Int) := by omega
  have z2 : fits 1 n = true := by simp [fits]; omega
  refine ⟨O, ?_, a2⟩
  unfold rs_mixed
  dsimp only
  rw [dT z1, Int.toNat_natCast, z2, Bool.and_self, cond_true, hlR, rs_mixed_l0]
  rw [show (EK.dflt (.int .u8) : Int) = 0 from rfl, a1, Option.bind_some]

theorem mixed_v : rs_mixed_v1 = rs_mixed := rfl

/-! A code's rows -/
open Go.Rf.W.Pure

theorem iv_n {a : Nat} (ha : a < 256) : iv a = ((G.inv (G.of a)).n : Int) := by
  unfold iv G.inv
  by_cases h : a = 0
  · subst h; rw [if_pos rfl]; rfl
  · rw [if_neg h]
    show ((Gf.pow a 254 : Nat) : Int) = ((Gf.pow (G.of a).n 254 : Nat) : Int)
    rw [G.of_n ha]
theorem of_xor {a b : Nat} (ha : a < 256) (hb : b < 256) : G.of (a ^^^ b) = G.of a + G.of b := by
  have h : a ^^^ b < 256 := Nat.xor_lt_two_pow (n := 8) ha hb
  refine G.ext' ?_
  rw [G.of_n h, G.add_n, G.of_n ha, G.of_n hb]

theorem range_get {k : Nat} (f : Nat → Int) {j : Nat} (hj : j < k) : ((List.range k).map f).getD j 0 = f j := by
  rw [List.getD_eq_getElem?_getD, List.getElem?_map, List.getElem?_range hj]; rfl

theorem rowS_vec {k i : Nat} (hk : k ≤ 16) (hi : i < 200) : Vec k (rowS k i) (gen k i) := by
  unfold rowS
  by_cases h : i < k
  · rw [if_pos h]
    refine ((Vec.zeros k).set h 1).congr (fun j hj => ?_)
    simp only [gen]
    rw [if_pos h]
    by_cases hij : j = i
    · subst hij; simp
    · rw [if_neg hij, if_neg (Ne.symm hij)]
  · rw [if_neg h]
    refine ⟨by simp, fun j hj => ?_⟩
    rw [range_get _ hj, iv_n (Nat.xor_lt_two_pow (n := 8) (by omega) (by omega)), of_xor (by omega) (by omega)]
    simp only [gen]
    rw [if_neg h]

theorem parity_ok {k m p : Nat} (hk2 : k ≤ 16) (hm : m ≤ 8) (hp : p < m) : rs_Code_parity ((p : Int), (k : Int), (m : Int), rowsF k m) = some (p * k, k, (k : Int), (m : Int), rowsF k m) := by
  have hmk : m * k ≤ 128 := Nat.le_trans (Nat.mul_le_mul hm hk2) (by decide)
  have hl := rowsF_length k m
  have he : (p + 1) * k = p * k + k := by rw [Nat.add_mul, Nat.one_mul]
  have hle : p * k + k ≤ m * k := by rw [← he]; exact Nat.mul_le_mul_right k hp
  have q1 : (p : Int) * (k : Int) = ((p * k : Nat) : Int) := by simp
  have q2 : wrapF .i64 ((p : Int) + 1) * (k : Int) = ((p * k + k : Nat) : Int) := by
    rw [wrapF_i64 (by omega) (by omega), Int.add_mul, q1, Int.one_mul]; omega
  unfold rs_Code_parity
  dsimp only
  rw [q1, q2, wrapF_i64 (n := ((p * k : Nat) : Int)) (by omega) (by omega), wrapF_i64 (n := ((p * k + k : Nat) : Int)) (by omega) (by omega), hl]
  simp only [Int.toNat_natCast]
  rw [deT (p := (0 : Int) ≤ ((p * k : Nat) : Int)) (by omega), deT (p := ((p * k : Nat) : Int) ≤ ((p * k + k : Nat) : Int)) (by omega), deT (p := ((p * k + k : Nat) : Int) ≤ ((m * k : Nat) : Int)) (by omega)]
  simp

theorem parity_vec {k m p : Nat} (hk2 : k ≤ 16) (hm : m ≤ 8) (hp : p < m) : Vec k (List.take k (List.drop (p * k) (rowsF k m))) (gen k (k + p)) := by
  have hmk : m * k ≤ 128 := Nat.le_trans (Nat.mul_le_mul hm hk2) (by decide)
  have hl := rowsF_length k m
  have he : (p + 1) * k = p * k + k := by rw [Nat.add_mul, Nat.one_mul]
  have hle : p * k + k ≤ m * k := by rw [← he]; exact Nat.mul_le_mul_right k hp
  refine ⟨by simp; omega, fun j hj => ?_⟩
  obtain ⟨h1, h2⟩ := rowsF_get hp hj
  rw [List.getD_eq_getElem?_getD, List.getElem?_take_of_lt hj, List.getElem?_drop, ← List.getD_eq_getElem?_getD, h2, iv_n (Nat.xor_lt_two_pow (n := 8) (by omega) (by omega)), of_xor (by omega) (by omega)]
  simp only [gen]
  rw [if_neg (by omega)]

/-- What a shard is, of the data. -/
def shard (k : Nat) (s : Nat → Nat → G) (i t : Nat) : G := sum k (fun l => gen k i l * s l t)
theorem shard_data {k : Nat} {s : Nat → Nat → G} {i : Nat} (hi : i < k) (t : Nat) : shard k s i t = s i t := by
  unfold shard
  rw [sum_one hi _ (fun l hl hne => by simp only [gen]; rw [if_pos hi, if_neg (Ne.symm hne), G.zero_mul])]
  simp only [gen]
  rw [if_pos hi, if_pos trivial, G.one_mul]

theorem encode_loop {N k m n : Nat} (hN : n + 200 ≤ N) (hn : n ≤ 4096) (hk2 : k ≤ 16) (hm : m ≤ 8) {S : List (List Int)} {s : Nat → Nat → G} (hS : Mat k n S s) :
    ∀ (d f p : Nat) (O : List (List Int)), p + d = m → d < f → Mat p n O (fun q => shard k s (k + q)) → ∃ O', loopF (rs_Code_Encode_b0 N) f (S, (n : Int), (m : Int), (p : Int), (k : Int), (m : Int), rowsF k m, O) = some ((k : Int), (m : Int), rowsF k m, O') ∧ Mat m n O' (fun q => shard k s (k + q)) := by
  have hmk : m * k ≤ 128 := Nat.le_trans (Nat.mul_le_mul hm hk2) (by decide)
  have hl := rowsF_length k m
  intro d
  induction d with
  | zero =>
    intro f p O hp hf hO
    obtain ⟨f, rfl⟩ : ∃ g, f = g + 1 := ⟨f - 1, by omega⟩
    have : p = m := by omega
    subst this
    exact ⟨O, by simp [loopF, rs_Code_Encode_b0], hO⟩
  | succ d ih =>
    intro f p O hp hf hO
    obtain ⟨f, rfl⟩ : ∃ g, f = g + 1 := ⟨f - 1, by omega⟩
    have hlt : p < m := by omega
    have hlO := hO.len
    have he : (p + 1) * k = p * k + k := by rw [Nat.add_mul, Nat.one_mul]
    have hle : p * k + k ≤ m * k := by rw [← he]; exact Nat.mul_le_mul_right k hlt
    obtain ⟨V, a1, a2⟩ := mixed_ok (N := N) hN hn (by omega) (parity_vec hk2 hm hlt) hS
    obtain ⟨O', e1, e2⟩ := ih f (p + 1) _ (by omega) (by omega) ((hO.append a2).congr (fun i hi t ht => by
      by_cases h : i = p
      · subst h; rw [if_pos rfl]; rfl
      · rw [if_neg h]))
    refine ⟨O', ?_, e2⟩
    rw [← e1]
    have z1 : (p : Int) < (m : Int) := by omega
    have z2 : p * k + k ≤ (rowsF k m).length := by omega
    have z3 : fits 24 (O.length + [V].length) = true := by simp [fits]; omega
    show rs_Code_Encode_b0 N (loopF (rs_Code_Encode_b0 N) f) _ = _
    generalize loopF (rs_Code_Encode_b0 N) f = nx
    unfold rs_Code_Encode_b0
    dsimp only
    rw [dT z1, cond_true, parity_ok hk2 hm hlt, Option.bind_some]
    dsimp only
    rw [dT z2, cond_true, cond_true, a1, Option.bind_some, z3, cond_true, wrap_succ (show p ≤ 1000000 by omega)]

theorem encode_ok {N k m n : Nat} (hN : n + 200 ≤ N) (hn : n ≤ 4096) (hk : 1 ≤ k) (hk2 : k ≤ 16) (hm : m ≤ 8) {S : List (List Int)} {s : Nat → Nat → G} (hS : Mat k n S s) :
    ∃ O, rs_Code_Encode N (S, (k : Int), (m : Int), rowsF k m) = some (0, (k : Int), (m : Int), rowsF k m, O) ∧ Mat m n O (fun q => shard k s (k + q)) := by
  have e0 : ((0 : Nat) : Int) = 0 := rfl
  obtain ⟨O, a1, a2⟩ := encode_loop (N := N) hN hn hk2 hm hS m N 0 [] (by omega) (by omega) (Mat.nil n _)
  rw [e0] at a1
  refine ⟨O, ?_, a2⟩
  have z1 : ((S.length : Nat) : Int) = (k : Int) := by rw [hS.len]
  unfold rs_Code_Encode
  dsimp only
  rw [dT z1, Bool.not_true, cond_false, even_ok (by omega) (by omega) hk hS, if_pos hn, Option.bind_some]
  dsimp only
  rw [dT rfl, Bool.not_true, cond_false, rs_Code_Encode_l0, a1, Option.bind_some]

theorem encode_long {N k m n : Nat} (hN : 200 ≤ N) (hn : 4096 < n) (hk : 1 ≤ k) (hk2 : k ≤ 16) {S : List (List Int)} {s : Nat → Nat → G} (hS : Mat k n S s) :
    rs_Code_Encode N (S, (k : Int), (m : Int), rowsF k m) = some (1, (k : Int), (m : Int), rowsF k m, []) := by
  have z1 : ((S.length : Nat) : Int) = (k : Int) := by rw [hS.len]
  have z2 : ¬ ((1 : Int) = 0) := by omega
  unfold rs_Code_Encode
  dsimp only
  rw [dT z1, Bool.not_true, cond_false, even_ok (by omega) (by omega) hk hS, if_neg (by omega), Option.bind_some]
  dsimp only
  rw [dF z2, Bool.not_false, cond_true]

end Go.Rf.W
