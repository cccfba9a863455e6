/-
  Package rs: what changes of shards do: sums, few shards turned.
-/
import Derived.Test.YtoabbnfjnjbjfaaPlRsUpd
import Derived.Test.YtoabbnfjnjbjfaaPlRsShards
set_option linter.unusedVariables false
set_option linter.unusedSimpArgs false
set_option maxRecDepth 10000
namespace Go.Rf.Lin
open Go.Rf.Lin.G

theorem gen_kernel {k : Nat} (hk : k ≤ 100) {W : Nat → Nat} (hW : ∀ i, i < k → W i < 200) (hd : ∀ i j, i < j → j < k → W i ≠ W j) {w : Nat → G} (hw : ∀ i, i < k → sum k (fun l => gen k (W i) l * w l) = 0) : ∀ j, j < k → w j = 0 := by
  refine cauchy (y := fun j => G.of j) (pts := fun i => G.of (W i)) (fun i j hij hj => of_ne (by omega) (by omega) (by omega)) (fun i j hij hj => of_ne (by have := hW i (by omega); omega) (by have := hW j hj; omega) (hd i j hij hj)) (fun i hi => ?_)
  have h1 := hw i hi
  have hWi := hW i hi
  by_cases hlt : W i < k
  · refine .inl ⟨W i, hlt, rfl, ?_⟩
    rw [sum_one hlt _ (fun l hl hne => by simp only [gen]; rw [if_pos hlt, if_neg (Ne.symm hne), zero_mul])] at h1
    simp only [gen] at h1
    rw [if_pos hlt, if_pos trivial, one_mul] at h1
    exact h1
  · refine .inr ⟨fun l hl e => of_ne (by omega) (by omega) (show W i ≠ l by omega) (eq_of_add e), ?_⟩
    rw [← h1]
    exact sum_congr (fun j hj => by simp only [gen]; rw [if_neg hlt])

end Go.Rf.Lin
namespace Go.Rf.W.Pure
open Go Go.Rf Go.Rf.W Go.Rf.Lin

theorem update_v : rs_Code_Update_v2 = rs_Code_Update_v1 := rfl

theorem lentV_ok {N : Nat} (hN : 200 ≤ N) {S : List (List Int)} (hS : Sm S) : granarylaw03_lent_v1 N S = some S := by
  have hl := hS.len
  have key : loopF (granarylaw03_lent_v1_b0 N) N (S, ((0 : Nat) : Int), List.take 0 S) = some S := by
    refine it_st (b := granarylaw03_lent_v1_b0 N) (fun i => (S, ((i : Nat) : Int), List.take i S)) S.length (fun i hi nx => ?_) (fun nx => ?_) N (by omega)
    · have hn := hS.get hi
      obtain ⟨X, hX⟩ : ∃ X, List.getD S i (EK.dflt (.sl (.int .u8))) = X := ⟨_, rfl⟩
      have hX' : S.getD i [] = X := hX
      rw [hX'] at hn
      have z1 : (i : Int) < ((S.length : Nat) : Int) := by omega
      have z2 : (0 : Int) ≤ (i : Int) := by omega
      have g1 : ∀ q, q ≤ 10002 → fits 1 q = true := fun q hq => by simp [fits]; omega
      have g2 : ∀ q, q ≤ 200 → fits 24 q = true := fun q hq => by simp [fits]; omega
      have f1 := g1 X.length (by omega)
      have f2 := g1 (X.length + 2) (by omega)
      have z3 : (0 : Int) ≤ ((X.length : Nat) : Int) := by omega
      have z4 : ((X.length : Nat) : Int) ≤ ((X.length + 2 : Nat) : Int) := by omega
      have z5 : (0 + X.length) ≤ X.length + 2 := by omega
      have hap : (X ++ ([9, 9] : List Int)).length = X.length + 2 := by simp
      have htk : List.take X.length (X ++ ([9, 9] : List Int)) = X := by rw [List.take_append_of_le_length (by omega), List.take_of_length_le (by omega)]
      have f3 := g2 ((List.take i S).length + 1) (by simp; omega)
      have hnx : List.take i S ++ [X] = List.take (i + 1) S := by
        have h5 : S[i]? = some X := by
          rw [List.getD_eq_getElem?_getD, List.getElem?_eq_getElem hi] at hX'
          rw [List.getElem?_eq_getElem hi]
          exact congrArg some hX'
        rw [List.take_add_one, h5]; rfl
      have t2 : List.take 2 (List.drop 0 ([9, 9] : List Int)) = [9, 9] := rfl
      have l2 : (2 ≤ ([9, 9] : List Int).length) := by decide
      have l3 : ([9, 9] : List Int).length = 2 := rfl
      unfold granarylaw03_lent_v1_b0
      dsimp only
      rw [dT z1, cond_true, dT z2, Bool.and_self, cond_true, Int.toNat_natCast, hX, f1, cond_true, dT l2, t2, l3, f2, Bool.and_self, cond_true, hap, dT z3, dT z4, Bool.and_self, cond_true, Int.toNat_natCast, dT z5, cond_true, List.drop_zero, htk, List.length_cons, List.length_nil, Nat.zero_add, f3, cond_true, hnx, wrap_succ (show i ≤ 1000000 by omega), cond_true]
    · have h1 : ¬ (((S.length : Nat) : Int) < ((S.length : Nat) : Int)) := by omega
      simp only [granarylaw03_lent_v1_b0, dF h1, cond_false, List.take_length]
  have e0 : ((0 : Nat) : Int) = 0 := rfl
  rw [e0, List.take_zero] at key
  unfold granarylaw03_lent_v1
  rw [granarylaw03_lent_v1_l0, key, Option.bind_some]


theorem shard_add (k : Nat) (s t : Nat → Nat → G) (i x : Nat) : shard k (fun i x => s i x + t i x) i x = shard k s i x + shard k t i x := by
  unfold shard
  rw [← sum_add]
  exact sum_congr (fun l _ => G.mul_add _ _ _)

/-- Codewords that are alike at k places are alike. -/
theorem code_same {k K : Nat} (hk : k ≤ 16) (hK : K ≤ 100) {s W : Nat → Nat → G} {p : Nat → Bool} (hc : k ≤ cnt K p) {x : Nat} (hcode : ∀ i, i < K → W i x = shard k W i x) (hs : ∀ i, i < K → p i = true → W i x = shard k s i x) :
    ∀ i, i < K → W i x = shard k s i x := by
  have hsub : ∀ i, i < K → shard k (fun i x => W i x + s i x) i x = W i x + shard k s i x := fun i hi => by rw [shard_add, ← hcode i hi]
  let F := (List.range K).filter p
  have hF : F.length = cnt K p := rfl
  have hget : ∀ i, i < F.length → F.getD i 0 < K ∧ p (F.getD i 0) = true := by
    intro i hi
    have h1 := List.getElem_mem (l := F) hi
    have h2 : F.getD i 0 = F[i] := by rw [List.getD_eq_getElem?_getD, List.getElem?_eq_getElem hi]; rfl
    rw [h2]
    exact ⟨List.mem_range.1 (List.mem_filter.1 h1).1, (List.mem_filter.1 h1).2⟩
  have hlt : ∀ i j, i < j → j < F.length → F.getD i 0 < F.getD j 0 := by
    intro i j hij hj
    have hp : F.Pairwise (· < ·) := filter_lt
    have := List.pairwise_iff_getElem.1 hp i j (by omega) hj hij
    rw [List.getD_eq_getElem?_getD, List.getD_eq_getElem?_getD, List.getElem?_eq_getElem hj, List.getElem?_eq_getElem (show i < F.length by omega)]
    exact this
  have hz := gen_kernel (k := k) (by omega) (W := fun i => F.getD i 0) (fun i hi => by have := (hget i (by omega)).1; omega) (fun i j hij hj => Nat.ne_of_lt (hlt i j hij (by omega))) (w := fun l => W l x + s l x) (fun i hi => by
    obtain ⟨h1, h2⟩ := hget i (by omega)
    have h3 := hsub _ h1
    rw [hs _ h1 h2, G.add_self] at h3
    exact h3)
  intro i hi
  have e1 : ∀ l, l < k → W l x = s l x := fun l hl => G.eq_of_add (hz l hl)
  rw [hcode i hi]
  unfold shard
  exact sum_congr (fun l hl => by rw [e1 l hl])

theorem enc_inj {n : Nat} {L M : List Int} {u v : Nat → G} (hL : Vec n L u) (hM : Vec n M v) (h : enc L = enc M) : ∀ j, j < n → u j = v j := by
  intro j hj
  have e1 : (enc L)[j]? = some (UInt8.ofNat (u j).n) := by
    have := hL.get j hj
    have hlt : j < L.length := by rw [hL.len]; exact hj
    rw [List.getD_eq_getElem?_getD, List.getElem?_eq_getElem hlt] at this
    have h2 : L[j] = ((u j).n : Int) := this
    unfold enc
    rw [List.getElem?_map, List.getElem?_eq_getElem hlt, h2]; rfl
  have e2 : (enc M)[j]? = some (UInt8.ofNat (v j).n) := by
    have := hM.get j hj
    have hlt : j < M.length := by rw [hM.len]; exact hj
    rw [List.getD_eq_getElem?_getD, List.getElem?_eq_getElem hlt] at this
    have h2 : M[j] = ((v j).n : Int) := this
    unfold enc
    rw [List.getElem?_map, List.getElem?_eq_getElem hlt, h2]; rfl
  rw [h, e2] at e1
  have e3 := congrArg UInt8.toNat (Option.some.inj e1)
  rw [UInt8.toNat_ofNat', UInt8.toNat_ofNat'] at e3
  have a1 := (u j).lt
  have a2 := (v j).lt
  refine G.ext' ?_
  omega

/-- Check, of shards of one length. -/
theorem check_mat {N k m n : Nat} (hN : n + 400 ≤ N) (hn : n ≤ 4096) (hk : 1 ≤ k) (hk2 : k ≤ 16) (hm : m ≤ 8) {S : List (List Int)} {W : Nat → Nat → G} (hS : Mat (k + m) n S W) :
    ∃ b : Bool, rs_Code_Check_v1 N (S, (k : Int), (m : Int), rowsF k m) = some (b, 0, (k : Int), (m : Int), rowsF k m) ∧ (b = true ↔ ∀ p, p < m → ∀ x, x < n → shard k W (k + p) x = W (k + p) x) := by
  have e0 : ((0 : Nat) : Int) = 0 := rfl
  obtain ⟨P, q1, q2⟩ := encode_ok (N := N) (by omega) hn hk hk2 hm (hS.take (show k ≤ k + m by omega))
  have hlS := hS.len
  have hPm := q2.len
  have w1 : wrapF .i64 ((k : Int) + (m : Int)) = ((k + m : Nat) : Int) := by rw [show (k : Int) + (m : Int) = ((k + m : Nat) : Int) by omega]; exact wrap_nat (by omega)
  have z1 : ((S.length : Nat) : Int) = ((k + m : Nat) : Int) := by omega
  have z2 : (0 : Int) ≤ (k : Int) := by omega
  have z3 : (k : Int) ≤ ((k + m : Nat) : Int) := by omega
  have key : rs_Code_Check_v1_l0 N (S, (m : Int), ((0 : Nat) : Int), (k : Int), P) = some (cond ((List.range m).all fun p => decide (enc (P.getD p []) = enc (S.getD (k + p) []))) (.inr ((k : Int), P)) (.inl ((k : Int), P))) := by
    rw [rs_Code_Check_v1_l0]
    refine it_all (b := rs_Code_Check_v1_b0 N) (fun p => (S, (m : Int), ((p : Nat) : Int), (k : Int), P)) m (fun p => decide (enc (P.getD p []) = enc (S.getD (k + p) []))) (fun p hp hpp nx => ?_) (fun p hp hpp nx => ?_) (fun nx => ?_) N (by omega)
    all_goals
      first
      | have y1 : (p : Int) < (m : Int) := by omega
        have y2 : (0 : Int) ≤ (p : Int) := by omega
        have y3 : (p : Int) < ((P.length : Nat) : Int) := by omega
        have y4 : p < P.length := by omega
        have y5 : wrapF .i64 ((k : Int) + (p : Int)) = ((k + p : Nat) : Int) := by rw [show (k : Int) + (p : Int) = ((k + p : Nat) : Int) by omega]; exact wrap_nat (by omega)
        have y6 : (0 : Int) ≤ ((k + p : Nat) : Int) := by omega
        have y7 : ((k + p : Nat) : Int) < ((S.length : Nat) : Int) := by omega
        unfold rs_Code_Check_v1_b0
        dsimp only
        rw [dT y1, cond_true, dT y2, dT y3, Bool.and_self, cond_true, Int.toNat_natCast, dT y4, cond_true, y5, dT y6, dT y7, Bool.and_self, cond_true, Int.toNat_natCast]
      | skip
    · have hp' : decide ((List.map (fun (n : Int) => UInt8.ofNat n.toNat) (List.getD P p (EK.dflt (.sl (.int .u8))))) = (List.map (fun (n : Int) => UInt8.ofNat n.toNat) (List.getD S (k + p) (EK.dflt (.sl (.int .u8)))))) = true := hpp
      rw [hp', Bool.not_true, cond_false, wrap_succ (show p ≤ 1000000 by omega)]
    · have hp' : decide ((List.map (fun (n : Int) => UInt8.ofNat n.toNat) (List.getD P p (EK.dflt (.sl (.int .u8))))) = (List.map (fun (n : Int) => UInt8.ofNat n.toNat) (List.getD S (k + p) (EK.dflt (.sl (.int .u8)))))) = false := hpp
      rw [hp', Bool.not_false, cond_true]
    · have h1 : ¬ ((m : Int) < (m : Int)) := by omega
      simp only [rs_Code_Check_v1_b0, dF h1, cond_false]
  rw [e0] at key
  refine ⟨(List.range m).all fun p => decide (enc (P.getD p []) = enc (S.getD (k + p) [])), ?_, ?_⟩
  · have z5 : ((P.length : Nat) : Int) = (m : Int) := by omega
    unfold rs_Code_Check_v1
    dsimp only
    rw [w1, z1, dT rfl, Bool.not_true, cond_false, even_ok (K := k + m) (by omega) (by omega) (by omega) hS, if_pos hn, Option.bind_some]
    dsimp only
    rw [dT rfl, Bool.not_true, cond_false, dT z2, dT z3, Bool.and_self, cond_true, Int.toNat_natCast, List.drop_zero, q1, Option.bind_some]
    dsimp only
    rw [z5, key, Option.bind_some]
    cases (List.range m).all fun p => decide (enc (P.getD p []) = enc (S.getD (k + p) [])) <;> rfl
  · simp only [List.all_eq_true, List.mem_range, decide_eq_true_eq]
    constructor
    · intro h p hp x hx
      exact enc_inj (q2.row p hp) (hS.row (k + p) (by omega)) (h p hp) x hx
    · intro h p hp
      have : P.getD p [] = S.getD (k + p) [] := (q2.row p hp).ext (hS.row (k + p) (by omega)) (fun x hx => h p hp x hx)
      rw [this]

/-! Few shards turned -/

theorem Mat.set {K n : Nat} {S : List (List Int)} {W : Nat → Nat → G} (h : Mat K n S W) {r : Nat} (hr : r < K) {V : List Int} {v : Nat → G} (hV : Vec n V v) : Mat K n (S.set r V) (fun i => if i = r then v else W i) := by
  have hl := h.len
  refine ⟨by rw [List.length_set]; exact hl, fun i hi => ?_⟩
  rw [List.getD_eq_getElem?_getD, List.getElem?_set]
  by_cases e : r = i
  · subst e; rw [if_pos rfl, if_pos (by omega)]; simpa using hV
  · rw [if_neg e, ← List.getD_eq_getElem?_getD]
    simp only [if_neg (Ne.symm e)]
    exact h.row i hi

theorem wrong_loop {N k m n K : Nat} (hK : K = k + m) (hk : 1 ≤ k) (hk2 : k ≤ 16) (hm : m ≤ 8) (hn1 : 1 ≤ n) (hn : n ≤ 4096) {Ls : List Int} (hLs : Ls.length ≤ 30) {s : Nat → Nat → G} :
    ∀ (d f i c : Nat) (S : List (List Int)) (W : Nat → Nat → G) (B : List Bool), i + d = Ls.length → d < f → Mat K n S W → B.length = K → (∀ q, q < K → B.getD q false = false → ∀ x, x < n → W q x = shard k s q x) → (∀ q, q < K → B.getD q false = true → ∃ x, x < n ∧ W q x ≠ shard k s q x) →
      cnt K (fun q => !(B.getD q false)) + c = K → c ≤ m →
      ∃ (c' : Nat) (S' : List (List Int)) (W' : Nat → Nat → G) (B' : List Bool), loopF (granarylaw03_wrong_b0 N) f ((k : Int), (m : Int), Ls, (c : Int), (i : Int), S, B) = some ((c' : Int), S', B') ∧ Mat K n S' W' ∧ (∀ q, q < K → B'.getD q false = false → ∀ x, x < n → W' q x = shard k s q x) ∧ (∀ q, q < K → B'.getD q false = true → ∃ x, x < n ∧ W' q x ≠ shard k s q x) ∧
        cnt K (fun q => !(B'.getD q false)) + c' = K ∧ c' ≤ m := by
  intro d
  induction d with
  | zero =>
    intro f i c S W B hi hf hS hB h0 h1 hc hcm
    obtain ⟨f, rfl⟩ : ∃ g, f = g + 1 := ⟨f - 1, by omega⟩
    have z1 : ¬ ((i : Int) < ((Ls.length : Nat) : Int)) := by omega
    exact ⟨c, S, W, B, by simp only [loopF, granarylaw03_wrong_b0, dF z1, cond_false, Option.bind_some], hS, h0, h1, hc, hcm⟩
  | succ d ih =>
    intro f i c S W B hi hf hS hB h0 h1 hc hcm
    obtain ⟨f, rfl⟩ : ∃ g, f = g + 1 := ⟨f - 1, by omega⟩
    have z1 : ((i : Int) < ((Ls.length : Nat) : Int)) := by omega
    by_cases z2 : (c : Int) < (m : Int)
    · have z3 : (0 : Int) ≤ (i : Int) := by omega
      have w1 : wrapF .i64 ((k : Int) + (m : Int)) = (K : Int) := by rw [show (k : Int) + (m : Int) = (K : Int) by omega]; exact wrap_nat (by omega)
      have z4 : ¬ ((K : Int) = 0) := by omega
      obtain ⟨r, hr, hrK⟩ : ∃ r : Nat, (cond (decide (Int.tmod (List.getD Ls i (EK.dflt (.int .i64))) (K : Int) < (0 : Int))) (some (wrapF .i64 ((wrapF .i64 (Int.tmod (List.getD Ls i (EK.dflt (.int .i64))) (K : Int) + (k : Int))) + (m : Int)))) (some (Int.tmod (List.getD Ls i (EK.dflt (.int .i64))) (K : Int)))) = some (r : Int) ∧ r < K := by
        generalize List.getD Ls i (EK.dflt (.int .i64)) = y
        have hb1 : Int.tmod y (K : Int) < (K : Int) := Int.tmod_lt_of_pos y (by omega)
        have hb2 : -(K : Int) < Int.tmod y (K : Int) := Int.lt_tmod_of_pos y (by omega)
        by_cases hn : Int.tmod y (K : Int) < 0
        · refine ⟨(Int.tmod y (K : Int) + (K : Int)).toNat, ?_, by omega⟩
          rw [dT hn, cond_true, wrapF_i64 (n := Int.tmod y (K : Int) + (k : Int)) (by omega) (by omega), wrapF_i64 (by omega) (by omega)]
          congr 1; omega
        · refine ⟨(Int.tmod y (K : Int)).toNat, ?_, by omega⟩
          rw [dF hn, cond_false]
          congr 1; omega
      have hlS := hS.len
      have z5 : (0 : Int) ≤ (r : Int) := by omega
      have z6 : (r : Int) < ((B.length : Nat) : Int) := by omega
      have z7 : r < B.length := by omega
      have z8 : (r : Int) < ((S.length : Nat) : Int) := by omega
      have z9 : r < S.length := by omega
      have hrow := hS.row r hrK
      have hlr := hrow.len
      have hd1 : List.getD B r (EK.dflt .bool) = B.getD r false := rfl
      cases hb : B.getD r false
      · -- turned now
        have hcu := cnt_upd (p := fun q => !(B.getD q false)) (r := r) (by rw [hb]; rfl) K
        rw [if_pos hrK] at hcu
        have hBs : ∀ q, (B.set r true).getD q false = if q = r then true else B.getD q false := by
          intro q
          rw [List.getD_eq_getElem?_getD, List.getElem?_set]
          by_cases h : r = q
          · subst h; rw [if_pos rfl, if_pos rfl, if_pos (by omega)]; rfl
          · rw [if_neg h, if_neg (Ne.symm h), ← List.getD_eq_getElem?_getD]
        have hfe : (fun q => !((B.set r true).getD q false)) = (fun q => if q = r then false else !(B.getD q false)) := funext fun q => by
          rw [hBs]
          by_cases h : q = r
          · rw [if_pos h, if_pos h]; rfl
          · rw [if_neg h, if_neg h]
        obtain ⟨t, ht⟩ : ∃ t, (r + i) % n = t := ⟨_, rfl⟩
        have htn : t < n := by rw [← ht]; exact Nat.mod_lt _ (by omega)
        have hpos : (G.of (1 + r)).n = 1 + r := G.of_n (by omega)
        have hset := hrow.set htn (W r t + G.of (1 + r))
        have hS2 := Mat.set hS hrK hset
        obtain ⟨c', S', W', B', e1, e2⟩ := ih f (i + 1) (c + 1) _ _ (B.set r true) (by omega) (by omega) hS2 (by rw [List.length_set]; exact hB) (fun q hq hbq x hx => by
          rw [hBs] at hbq
          by_cases h : q = r
          · rw [if_pos h] at hbq; cases hbq
          · rw [if_neg h] at hbq
            simp only [if_neg h]
            exact h0 q hq hbq x hx) (fun q hq hbq => by
          rw [hBs] at hbq
          by_cases h : q = r
          · subst h
            refine ⟨t, htn, fun e => ?_⟩
            simp only [if_true] at e
            rw [h0 q hq hb t htn] at e
            have e4 : G.of (1 + q) = 0 := by
              have e5 : shard k s q t + (shard k s q t + G.of (1 + q)) = shard k s q t + shard k s q t := congrArg (shard k s q t + ·) e
              rw [← G.add_assoc, G.add_self, G.zero_add] at e5
              exact e5
            have := congrArg G.n e4
            rw [hpos, G.zero_n] at this
            omega
          · rw [if_neg h] at hbq
            simp only [if_neg h]
            exact h1 q hq hbq) (by rw [hfe]; omega) (by omega)
        refine ⟨c', S', W', B', ?_, e2⟩
        rw [← e1]
        have y1 : ¬ (((List.getD S r []).length : Nat) : Int) = 0 := by omega
        have w2 : wrapF .i64 ((r : Int) + (i : Int)) = ((r + i : Nat) : Int) := by rw [show (r : Int) + (i : Int) = ((r + i : Nat) : Int) by omega]; exact wrap_nat (by omega)
        have w3 : Int.tmod ((r + i : Nat) : Int) (((List.getD S r []).length : Nat) : Int) = (t : Int) := by
          rw [hlr, ← ht]; rfl
        have y2 : (0 : Int) ≤ (t : Int) := by omega
        have y3 : (t : Int) < (((List.getD S r []).length : Nat) : Int) := by omega
        have y4 : t < (List.getD S r []).length := by omega
        have w4 : wrapF .u8 (wrapF .i64 ((1 : Int) + (r : Int))) = ((G.of (1 + r)).n : Int) := by
          rw [hpos, wrapF_i64 (by omega) (by omega), wrapF_u8 (by omega) (by omega)]; omega
        have w5 : xorF .u8 (List.getD (List.getD S r []) t 0) ((G.of (1 + r)).n : Int) = (((W r t + G.of (1 + r)).n : Nat) : Int) := by
          rw [hrow.get t htn, xorG]
        show granarylaw03_wrong_b0 N (loopF (granarylaw03_wrong_b0 N) f) _ = _
        generalize loopF (granarylaw03_wrong_b0 N) f = nx
        unfold granarylaw03_wrong_b0
        dsimp only
        rw [dT z1, cond_true, dT z2, Option.bind_some, cond_true, dT z3, Bool.and_self, cond_true, w1, dF z4, Bool.not_false, cond_true, Int.toNat_natCast, hr, Option.bind_some, dT z5, dT z6, Bool.and_self, cond_true, Int.toNat_natCast, dT z7, cond_true, hd1, hb, Bool.not_false, cond_true, cond_true, cond_true, dT z8, Bool.and_self, cond_true, dT z9, cond_true, cond_true, cond_true, dF y1, Bool.not_false, cond_true, w2, w3, cond_true, cond_true, cond_true, cond_true, cond_true, dT y2, dT y3, Bool.and_self, cond_true, Int.toNat_natCast, dT y4, cond_true, cond_true, cond_true, Option.bind_some, wrap_succ (show i ≤ 1000000 by omega), wrap_succ (show c ≤ 1000000 by omega), w4, w5]
      · obtain ⟨c', S', W', B', e1, e2⟩ := ih f (i + 1) c S W B (by omega) (by omega) hS hB h0 h1 hc hcm
        refine ⟨c', S', W', B', ?_, e2⟩
        rw [← e1]
        show granarylaw03_wrong_b0 N (loopF (granarylaw03_wrong_b0 N) f) _ = _
        generalize loopF (granarylaw03_wrong_b0 N) f = nx
        unfold granarylaw03_wrong_b0
        dsimp only
        rw [dT z1, cond_true, dT z2, Option.bind_some, cond_true, dT z3, Bool.and_self, cond_true, w1, dF z4, Bool.not_false, cond_true, Int.toNat_natCast, hr, Option.bind_some, dT z5, dT z6, Bool.and_self, cond_true, Int.toNat_natCast, dT z7, cond_true, hd1, hb, Bool.not_true, cond_false, Option.bind_some, wrap_succ (show i ≤ 1000000 by omega)]
    · exact ⟨c, S, W, B, by simp only [loopF, granarylaw03_wrong_b0, dT z1, dF z2, cond_true, cond_false, Option.bind_some], hS, h0, h1, hc, hcm⟩

theorem cnt_ex {K : Nat} {p : Nat → Bool} (h : cnt K p < K) : ∃ q, q < K ∧ p q = false := by
  refine Classical.byContradiction fun hn => ?_
  have : cnt K p = K := by
    unfold cnt
    rw [List.filter_eq_self.2 (fun q hq => ?_), List.length_range]
    cases hp : p q with
    | true => rfl
    | false => exact absurd ⟨q, List.mem_range.1 hq, hp⟩ hn
  omega
theorem cnt_full {K : Nat} {p : Nat → Bool} (h : cnt K p = K) : ∀ q, q < K → p q = true := by
  intro q hq
  unfold cnt at h
  have h2 : (List.range K).filter p = List.range K := List.Sublist.eq_of_length (List.filter_sublist) (by rw [h, List.length_range])
  have h3 : q ∈ (List.range K).filter p := by rw [h2]; exact List.mem_range.2 hq
  exact (List.mem_filter.1 h3).2

theorem wrong_ok {N k m n : Nat} (hN : 20000 ≤ N) (hk : 1 ≤ k) (hk2 : k ≤ 16) (hm : m ≤ 8) (hn : n ≤ 4096) {Ls : List Int} (hLs : Ls.length ≤ 30) {s : Nat → Nat → G} {A : List (List Int)} (hA : Mat (k + m) n A (shard k s)) :
    granarylaw03_wrong N ((k : Int), (m : Int), A, Ls, (k : Int), (m : Int), rowsF k m) = some (true, (k : Int), (m : Int), rowsF k m) := by
  have e0 : ((0 : Nat) : Int) = 0 := rfl
  have hlA := hA.len
  have h0l : (A.getD 0 []).length = n := (hA.row 0 (by omega)).len
  have z1 : (0 : Int) < ((A.length : Nat) : Int) := by omega
  have hsm := Mat.sm hA (by omega) (by omega)
  unfold granarylaw03_wrong
  dsimp only
  rw [dT z1, cond_true]
  by_cases hn0 : n = 0
  · have z2 : ((List.length (List.getD A 0 (EK.dflt (.sl (.int .u8)))) : Nat) : Int) = 0 := by
      show (((A.getD 0 []).length : Nat) : Int) = 0
      omega
    rw [dT z2, cond_true]
  · have z2 : ¬ ((List.length (List.getD A 0 (EK.dflt (.sl (.int .u8)))) : Nat) : Int) = 0 := by
      show ¬ (((A.getD 0 []).length : Nat) : Int) = 0
      omega
    have w1 : wrapF .i64 ((k : Int) + (m : Int)) = ((k + m : Nat) : Int) := by rw [show (k : Int) + (m : Int) = ((k + m : Nat) : Int) by omega]; exact wrap_nat (by omega)
    have z3 : (0 : Int) ≤ ((k + m : Nat) : Int) := by omega
    have f1 : fits 1 (k + m) = true := by simp [fits]; omega
    have hrep : ∀ q, (List.replicate (k + m) false).getD q false = false := fun q => by
      rw [List.getD_eq_getElem?_getD, List.getElem?_replicate]
      by_cases h : q < k + m
      · rw [if_pos h]; rfl
      · rw [if_neg h]; rfl
    have hc0 : cnt (k + m) (fun q => !((List.replicate (k + m) false).getD q false)) = k + m := by
      have : (fun q => !((List.replicate (k + m) false).getD q false)) = fun _ => true := funext fun q => by rw [hrep]; rfl
      rw [this, cnt_all]
    obtain ⟨c', S', W', B', a1, a2, a3, a4, a5, a6⟩ := wrong_loop (N := N) rfl hk hk2 hm (by omega) hn hLs (s := s) Ls.length N 0 0 A _ (List.replicate (k + m) false) (by omega) (by omega) hA (by simp) (fun q _ _ x _ => rfl) (fun q _ h => by rw [hrep] at h; cases h) (by omega) (by omega)
    rw [e0] at a1
    obtain ⟨b, b1, b2⟩ := check_mat (N := N) (by omega) hn hk hk2 hm a2
    have hb : b = decide ((c' : Int) = 0) := by
      by_cases hc : c' = 0
      · subst hc
        rw [dT (show ((0 : Nat) : Int) = 0 from rfl), b2]
        have hall := cnt_full (K := k + m) (p := fun q => !(B'.getD q false)) (by omega)
        have hW : ∀ q, q < k + m → ∀ x, x < n → W' q x = shard k s q x := fun q hq x hx => a3 q hq (by have := hall q hq; simpa using this) x hx
        intro p hp x hx
        rw [hW (k + p) (by omega) x hx]
        unfold shard
        exact sum_congr (fun l hl => by rw [hW l (by omega) x hx, shard_data hl])
      · rw [dF (show ¬ ((c' : Int) = 0) by omega)]
        cases hbb : b with
        | false => rfl
        | true =>
          exfalso
          rw [b2] at hbb
          obtain ⟨q, hq, hqb⟩ := cnt_ex (K := k + m) (p := fun q => !(B'.getD q false)) (by omega)
          obtain ⟨x, hx, hne⟩ := a4 q hq (by simpa using hqb)
          refine hne (code_same (K := k + m) hk2 (by omega) (p := fun q => !(B'.getD q false)) (by omega) (x := x) (fun i hi => ?_) (fun i hi hp => a3 i hi (by simpa using hp) x hx) q hq)
          by_cases h : i < k
          · rw [shard_data h]
          · obtain ⟨p, rfl⟩ : ∃ p, i = k + p := ⟨i - k, by omega⟩
            exact (hbb p (by omega) x hx).symm
    rw [dF z2, cond_false, lentV_ok (by omega) hsm, Option.bind_some, w1, dT z3, Int.toNat_natCast, f1, Bool.and_self, cond_true, granarylaw03_wrong_l0, show (EK.dflt .bool) = false from rfl, a1, Option.bind_some]
    dsimp only
    rw [b1, Option.bind_some]
    dsimp only
    have hnum : granarylaw03_num 0 = some 0 := rfl
    rw [hnum, Option.bind_some, dT rfl, cond_true, Option.bind_some, hb, beS]

end Go.Rf.W.Pure
