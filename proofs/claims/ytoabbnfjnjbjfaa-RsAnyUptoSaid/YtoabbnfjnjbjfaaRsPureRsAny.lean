/-
  Any m shards are lost, and all come back: the plain law.
-/
import Derived.Test.YtoabbnfjnjbjfaaRsFRsAny
import Derived.Test.YtoabbnfjnjbjfaaPlRsCode2
import Derived.Test.YtoabbnfjnjbjfaaPlRs
import Derived.Test.YtoabbnfjnjbjfaaRfC
set_option linter.unusedVariables false
set_option linter.unusedSimpArgs false
set_option maxRecDepth 10000
namespace Go.Rf.W.Pure
open Go Go.Rf Go.Rf.W Go.Rf.Lin

theorem rs_live10 : granarylaw03_live 10000 () = some true := by decide +kernel
theorem num_eq (x : Int) : granarylaw03_num x = some x := rfl

/-! Shards out of bytes -/

theorem cut_vec {n k j : Nat} {P : List Int} (hP : ∀ x, x ∈ P → 0 ≤ x ∧ x < 256) (hj : j * n + n ≤ P.length) : ∃ v, Vec n (List.take n (List.drop (j * n) P)) v := by
  have h1 : (List.take n (List.drop (j * n) P)).length = n := by simp; omega
  have h2 := Vec.of (L := List.take n (List.drop (j * n) P)) (fun x hx => hP x (List.mem_of_mem_drop (List.mem_of_mem_take hx)))
  rw [h1] at h2
  exact ⟨_, h2⟩

theorem shards_loop {N k n : Nat} {P : List Int} (hP : ∀ x, x ∈ P → 0 ≤ x ∧ x < 256) (hlen : P.length ≤ 9000) (hk2 : k ≤ 16) (hn : k * n ≤ P.length) :
    ∀ (d f j : Nat) (O : List (List Int)) (s : Nat → Nat → G), j + d = k → d < f → Mat j n O s → ∃ O' s', loopF (granarylaw03_shards_b0 N) f ((k : Int), P, (n : Int), (j : Int), O) = some O' ∧ Mat k n O' s' := by
  intro d
  induction d with
  | zero =>
    intro f j O s hj hf hO
    obtain ⟨f, rfl⟩ : ∃ g, f = g + 1 := ⟨f - 1, by omega⟩
    have : j = k := by omega
    subst this
    exact ⟨O, s, by simp [loopF, granarylaw03_shards_b0], hO⟩
  | succ d ih =>
    intro f j O s hj hf hO
    obtain ⟨f, rfl⟩ : ∃ g, f = g + 1 := ⟨f - 1, by omega⟩
    have hlt : j < k := by omega
    have hlO := hO.len
    have he : (j + 1) * n = j * n + n := by rw [Nat.add_mul, Nat.one_mul]
    have hle : j * n + n ≤ k * n := by rw [← he]; exact Nat.mul_le_mul_right n hlt
    obtain ⟨v, hv⟩ := cut_vec (n := n) (k := k) (j := j) hP (by omega)
    obtain ⟨O', s', e1, e2⟩ := ih f (j + 1) _ _ (by omega) (by omega) (hO.append hv)
    refine ⟨O', s', ?_, e2⟩
    rw [← e1]
    have q1 : wrapF .i64 ((j : Int) * (n : Int)) = ((j * n : Nat) : Int) := wrap_mul (by omega)
    have q2 : wrapF .i64 ((wrapF .i64 ((j : Int) + 1)) * (n : Int)) = ((j * n + n : Nat) : Int) := by
      rw [wrap_succ (show j ≤ 1000000 by omega), wrap_mul (a := j + 1) (b := n) (by omega), he]
    have z1 : (j : Int) < (k : Int) := by omega
    have z2 : (0 : Int) ≤ ((j * n : Nat) : Int) := by omega
    have z3 : ((j * n : Nat) : Int) ≤ ((j * n + n : Nat) : Int) := by omega
    have z4 : ((j * n + n : Nat) : Int) ≤ ((P.length : Nat) : Int) := by omega
    have hl : (List.take n (List.drop (j * n) P)).length = n := hv.len
    have f1 : fits 1 n = true := by simp [fits]; omega
    have g1 : ∀ q, q ≤ 20 → fits 24 (q + 1) = true := fun q hq => by simp [fits]; omega
    show granarylaw03_shards_b0 N (loopF (granarylaw03_shards_b0 N) f) _ = _
    generalize loopF (granarylaw03_shards_b0 N) f = nx
    unfold granarylaw03_shards_b0
    dsimp only
    rw [dT z1, cond_true, q1, q2, dT z2, dT z3, dT z4, Bool.and_self, Bool.and_self, cond_true, Int.toNat_natCast, Int.toNat_natCast, show j * n + n - j * n = n by omega, hl, f1, cond_true, List.length_cons, List.length_nil, Nat.zero_add, g1 O.length (by omega), cond_true, wrap_succ (show j ≤ 1000000 by omega)]

theorem shards_ok {N k : Nat} (hN : 100 ≤ N) (hk : 1 ≤ k) (hk2 : k ≤ 16) {P : List Int} (hP : ∀ x, x ∈ P → 0 ≤ x ∧ x < 256) (hlen : P.length ≤ 9000) :
    ∃ O s, granarylaw03_shards N ((k : Int), P) = some O ∧ Mat k (P.length / k) O s := by
  have e0 : ((0 : Nat) : Int) = 0 := rfl
  obtain ⟨O, s, a1, a2⟩ := shards_loop (N := N) (n := P.length / k) hP hlen hk2 (Nat.mul_div_le _ _) k N 0 [] (fun _ _ => 0) (by omega) (by omega) (Mat.nil _ _)
  rw [e0] at a1
  refine ⟨O, s, ?_, a2⟩
  have z1 : ¬ ((k : Int) = 0) := by omega
  have hd : P.length / k ≤ P.length := Nat.div_le_self _ _
  have w1 : wrapF .i64 (Int.tdiv ((P.length : Nat) : Int) (k : Int)) = ((P.length / k : Nat) : Int) := by
    rw [show Int.tdiv ((P.length : Nat) : Int) (k : Int) = ((P.length / k : Nat) : Int) from rfl]
    exact wrap_nat (by omega)
  unfold granarylaw03_shards
  dsimp only
  rw [dF z1, Bool.not_false, cond_true, w1, granarylaw03_shards_l0, a1, Option.bind_some]

/-! lent -/

theorem lent_loop {N K n : Nat} (hK : K ≤ 100) (hn : n ≤ 10000) {S : List (List Int)} {s : Nat → Nat → G} (hS : Mat K n S s) :
    ∀ (d f i : Nat), i + d = K → d < f → loopF (granarylaw03_lent_b0 N) f (S, (i : Int), List.take i S) = some S := by
  have hlS := hS.len
  intro d
  induction d with
  | zero =>
    intro f i hi hf
    obtain ⟨f, rfl⟩ : ∃ g, f = g + 1 := ⟨f - 1, by omega⟩
    have h1 : ¬ ((i : Int) < ((S.length : Nat) : Int)) := by omega
    have h2 : List.take i S = S := List.take_of_length_le (by omega)
    simp only [loopF, granarylaw03_lent_b0, dF h1, cond_false, h2]
  | succ d ih =>
    intro f i hi hf
    obtain ⟨f, rfl⟩ : ∃ g, f = g + 1 := ⟨f - 1, by omega⟩
    have hlt : i < K := by omega
    have hv := (hS.getK hlt).len
    rw [← ih f (i + 1) (by omega) (by omega)]
    have z1 : (i : Int) < ((S.length : Nat) : Int) := by omega
    have z2 : (0 : Int) ≤ (i : Int) := by omega
    have g1 : ∀ q, q ≤ 10002 → fits 1 q = true := fun q hq => by simp [fits]; omega
    have g2 : ∀ q, q ≤ 200 → fits 24 q = true := fun q hq => by simp [fits]; omega
    have f1 := g1 n (by omega)
    have f2 := g1 (n + 2) (by omega)
    obtain ⟨X, hX⟩ : ∃ X, List.getD S i (EK.dflt (.sl (.int .u8))) = X := ⟨_, rfl⟩
    rw [hX] at hv
    have z3 : (0 : Int) ≤ (n : Int) := by omega
    have z4 : (n : Int) ≤ ((n + 2 : Nat) : Int) := by omega
    have z5 : (0 + n) ≤ n + 2 := by omega
    have hap : (X ++ ([9, 9] : List Int)).length = n + 2 := by simp [hv]
    have htk : List.take n (X ++ ([9, 9] : List Int)) = X := by rw [List.take_append_of_le_length (by omega), List.take_of_length_le (by omega)]
    have f3 := g2 ((List.take i S).length + 1) (by simp; omega)
    have hnx : List.take i S ++ [X] = List.take (i + 1) S := by
      have h5 : S[i]? = some X := by
        rw [List.getD_eq_getElem?_getD, List.getElem?_eq_getElem (by omega)] at hX
        rw [List.getElem?_eq_getElem (by omega)]
        exact congrArg some hX
      rw [List.take_add_one, h5]; rfl
    have t2 : List.take 2 (List.drop 0 ([9, 9] : List Int)) = [9, 9] := rfl
    have l2 : (2 ≤ ([9, 9] : List Int).length) := by decide
    have l3 : ([9, 9] : List Int).length = 2 := rfl
    show granarylaw03_lent_b0 N (loopF (granarylaw03_lent_b0 N) f) _ = _
    generalize loopF (granarylaw03_lent_b0 N) f = nx
    unfold granarylaw03_lent_b0
    dsimp only
    rw [dT z1, cond_true, dT z2, Bool.and_self, cond_true, Int.toNat_natCast, hX, hv, f1, cond_true, dT l2, t2, l3, f2, Bool.and_self, cond_true, hap, dT z3, dT z4, Bool.and_self, cond_true, Int.toNat_natCast, dT z5, Bool.and_self, Bool.and_self, cond_true, List.drop_zero, htk, List.length_cons, List.length_nil, Nat.zero_add, f3, cond_true, hnx, wrap_succ (show i ≤ 1000000 by omega), cond_true]

theorem lent_ok {N K n : Nat} (hN : 200 ≤ N) (hK : K ≤ 100) (hn : n ≤ 10000) {S : List (List Int)} {s : Nat → Nat → G} (hS : Mat K n S s) : granarylaw03_lent N S = some S := by
  have a1 := lent_loop (N := N) hK hn hS K N 0 (by omega) (by omega)
  have e0 : ((0 : Nat) : Int) = 0 := rfl
  rw [e0, List.take_zero] at a1
  unfold granarylaw03_lent
  rw [granarylaw03_lent_l0, a1, Option.bind_some]

/-! Same -/

theorem same_loop {N : Nat} (S : List (List Int)) (hS : S.length ≤ 1000) : ∀ (d f i : Nat), i + d = S.length → d < f → loopF (granaryref03_Same_v1_b0 N) f (S, S, (i : Int)) = some (.inr ()) := by
  intro d
  induction d with
  | zero =>
    intro f i hi hf
    obtain ⟨f, rfl⟩ : ∃ g, f = g + 1 := ⟨f - 1, by omega⟩
    have h1 : ¬ ((i : Int) < ((S.length : Nat) : Int)) := by omega
    simp only [loopF, granaryref03_Same_v1_b0, dF h1, cond_false]
  | succ d ih =>
    intro f i hi hf
    obtain ⟨f, rfl⟩ : ∃ g, f = g + 1 := ⟨f - 1, by omega⟩
    rw [← ih f (i + 1) (by omega) (by omega)]
    have z1 : (i : Int) < ((S.length : Nat) : Int) := by omega
    have z2 : (0 : Int) ≤ (i : Int) := by omega
    simp only [loopF, granaryref03_Same_v1_b0, dT z1, dT z2, cond_true, Bool.and_self, decide_true, Bool.not_true, cond_false, wrap_succ (show i ≤ 1000000 by omega)]

theorem same_ok {N : Nat} (S : List (List Int)) (hS : S.length ≤ 100) (hN : 200 ≤ N) : granaryref03_Same_v1 N (S, S) = some true := by
  have a1 := same_loop (N := N) S (by omega) S.length N 0 (by omega) (by omega)
  have e0 : ((0 : Nat) : Int) = 0 := rfl
  rw [e0] at a1
  unfold granaryref03_Same_v1
  dsimp only
  rw [dT rfl, Bool.not_true, cond_false, granaryref03_Same_v1_l0, a1, Option.bind_some]

/-! Check -/

theorem check_loop {N k m : Nat} (hm : m ≤ 8) (hk2 : k ≤ 16) {S Q : List (List Int)} (hQ : Q.length = m) (hS : S.length = k + m) (he : ∀ p, p < m → Q.getD p [] = S.getD (k + p) []) :
    ∀ (d f p : Nat), p + d = m → d < f → loopF (rs_Code_Check_v1_b0 N) f (S, (m : Int), (p : Int), (k : Int), Q) = some (.inr ((k : Int), Q)) := by
  intro d
  induction d with
  | zero =>
    intro f p hp hf
    obtain ⟨f, rfl⟩ : ∃ g, f = g + 1 := ⟨f - 1, by omega⟩
    have : p = m := by omega
    subst this
    simp [loopF, rs_Code_Check_v1_b0]
  | succ d ih =>
    intro f p hp hf
    obtain ⟨f, rfl⟩ : ∃ g, f = g + 1 := ⟨f - 1, by omega⟩
    rw [← ih f (p + 1) (by omega) (by omega)]
    have hlt : p < m := by omega
    have z1 : (p : Int) < (m : Int) := by omega
    have z2 : (0 : Int) ≤ (p : Int) := by omega
    have z3 : (p : Int) < ((Q.length : Nat) : Int) := by omega
    have z4 : p < Q.length := by omega
    have w1 : wrapF .i64 ((k : Int) + (p : Int)) = ((k + p : Nat) : Int) := by rw [show (k : Int) + (p : Int) = ((k + p : Nat) : Int) by omega]; exact wrap_nat (by omega)
    have z5 : (0 : Int) ≤ ((k + p : Nat) : Int) := by omega
    have z6 : ((k + p : Nat) : Int) < ((S.length : Nat) : Int) := by omega
    have e1 : List.getD Q p (EK.dflt (.sl (.int .u8))) = List.getD S (k + p) (EK.dflt (.sl (.int .u8))) := he p hlt
    show rs_Code_Check_v1_b0 N (loopF (rs_Code_Check_v1_b0 N) f) _ = _
    generalize loopF (rs_Code_Check_v1_b0 N) f = nx
    unfold rs_Code_Check_v1_b0
    dsimp only
    rw [dT z1, cond_true, dT z2, dT z3, Bool.and_self, cond_true, Int.toNat_natCast, dT z4, cond_true, w1, dT z5, dT z6, Bool.and_self, cond_true, Int.toNat_natCast, e1, dT rfl, Bool.not_true, cond_false, wrap_succ (show p ≤ 1000000 by omega)]

theorem check_ok' {N k m n : Nat} (hN : n + 200 ≤ N) (hn : n ≤ 4096) (hk : 1 ≤ k) (hk2 : k ≤ 16) (hm : m ≤ 8) {S : List (List Int)} {s : Nat → Nat → G} (hS : Mat (k + m) n S (shard k s)) :
    rs_Code_Check_v1 N (S, (k : Int), (m : Int), rowsF k m) = some (true, 0, (k : Int), (m : Int), rowsF k m) := by
  have e0 : ((0 : Nat) : Int) = 0 := rfl
  have hT : Mat k n (List.take k S) s := (hS.take (by omega)).congr (fun i hi t ht => shard_data hi t)
  obtain ⟨Q, q1, q2⟩ := encode_ok (N := N) hN hn hk hk2 hm hT
  have hlS := hS.len
  have hlQ := q2.len
  have hc := check_loop (N := N) hm hk2 hlQ hlS (fun p hp => (q2.row p hp).ext (hS.row (k + p) (by omega)) (fun _ _ => rfl)) m N 0 (by omega) (by omega)
  rw [e0] at hc
  have w1 : wrapF .i64 ((k : Int) + (m : Int)) = ((k + m : Nat) : Int) := by rw [show (k : Int) + (m : Int) = ((k + m : Nat) : Int) by omega]; exact wrap_nat (by omega)
  have z1 : ((S.length : Nat) : Int) = ((k + m : Nat) : Int) := by omega
  have z2 : (0 : Int) ≤ (k : Int) := by omega
  have z3 : (k : Int) ≤ ((k + m : Nat) : Int) := by omega
  have z4 : ((Q.length : Nat) : Int) = (m : Int) := by omega
  unfold rs_Code_Check_v1
  dsimp only
  rw [w1, z1, dT rfl, Bool.not_true, cond_false, even_ok (K := k + m) (by omega) (by omega) (by omega) hS, if_pos hn, Option.bind_some]
  dsimp only
  rw [dT rfl, Bool.not_true, cond_false, dT z2, dT z3, Bool.and_self, cond_true, Int.toNat_natCast, List.drop_zero, q1, Option.bind_some]
  dsimp only
  rw [z4, rs_Code_Check_v1_l0, hc, Option.bind_some]

/-! The law's loops -/

theorem all_loop {N K : Nat} (hK : K ≤ 100) {a1 a2 : Int} {a3 : List Int} {a4 : List (List Int)} : ∀ (d f i : Nat) (B : List Bool), i + d = K → d < f → B.length = K → (∀ q, q < i → B.getD q false = true) →
    ∃ B', loopF (granarylaw03_RsAny_b0 N) f (a1, a2, a3, a4, (i : Int), B) = some B' ∧ B'.length = K ∧ ∀ q, q < K → B'.getD q false = true := by
  intro d
  induction d with
  | zero =>
    intro f i B hi hf hB hT
    obtain ⟨f, rfl⟩ : ∃ g, f = g + 1 := ⟨f - 1, by omega⟩
    have : i = K := by omega
    subst this
    have h1 : ¬ ((i : Int) < ((B.length : Nat) : Int)) := by omega
    exact ⟨B, by simp only [loopF, granarylaw03_RsAny_b0, dF h1, cond_false], hB, hT⟩
  | succ d ih =>
    intro f i B hi hf hB hT
    obtain ⟨f, rfl⟩ : ∃ g, f = g + 1 := ⟨f - 1, by omega⟩
    obtain ⟨B', e1, e2⟩ := ih f (i + 1) (B.set i true) (by omega) (by omega) (by rw [List.length_set]; exact hB) (fun q hq => by
      rw [List.getD_eq_getElem?_getD, List.getElem?_set]
      by_cases h : i = q
      · subst h; rw [if_pos rfl, if_pos (by omega)]; rfl
      · rw [if_neg h, ← List.getD_eq_getElem?_getD]; exact hT q (by omega))
    refine ⟨B', ?_, e2⟩
    rw [← e1]
    have z1 : (i : Int) < ((B.length : Nat) : Int) := by omega
    have z2 : (0 : Int) ≤ (i : Int) := by omega
    have z3 : i < B.length := by omega
    simp only [loopF, granarylaw03_RsAny_b0, dT z1, dT z2, dT z3, cond_true, Bool.and_self, Int.toNat_natCast, wrap_succ (show i ≤ 1000000 by omega)]

theorem lost_loop {N k m K : Nat} (hK : K = k + m) (hk : 1 ≤ k) (hk2 : k ≤ 16) (hm : m ≤ 8) {Ls : List Int} (hLs : Ls.length ≤ 30) {A : List (List Int)} (hLb : ∀ x, x ∈ Ls → -9223372036854775808 ≤ x ∧ x < 9223372036854775808) :
    ∀ (d f i gone : Nat) (S : List (List Int)) (B : List Bool), i + d = Ls.length → d < f → S.length = K → B.length = K → (∀ q, q < K → B.getD q false = true → S.getD q [] = A.getD q []) → cnt K (fun q => B.getD q false) + gone = K → gone ≤ m →
      ∃ S' B', loopF (granarylaw03_RsAny_b2 N) f ((k : Int), (m : Int), Ls, A, (gone : Int), (i : Int), S, B) = some (S', B') ∧ S'.length = K ∧ B'.length = K ∧ (∀ q, q < K → B'.getD q false = true → S'.getD q [] = A.getD q []) ∧ k ≤ cnt K (fun q => B'.getD q false) := by
  intro d
  induction d with
  | zero =>
    intro f i gone S B hi hf hS hB hA hc hg
    obtain ⟨f, rfl⟩ : ∃ g, f = g + 1 := ⟨f - 1, by omega⟩
    have h1 : ¬ ((i : Int) < ((Ls.length : Nat) : Int)) := by omega
    exact ⟨S, B, by simp only [loopF, granarylaw03_RsAny_b2, dF h1, cond_false, Option.bind_some], hS, hB, hA, by omega⟩
  | succ d ih =>
    intro f i gone S B hi hf hS hB hA hc hg
    obtain ⟨f, rfl⟩ : ∃ g, f = g + 1 := ⟨f - 1, by omega⟩
    have h1 : ((i : Int) < ((Ls.length : Nat) : Int)) := by omega
    by_cases h2 : (gone : Int) < (m : Int)
    · have z2 : (0 : Int) ≤ (i : Int) := by omega
      have w1 : wrapF .i64 ((k : Int) + (m : Int)) = (K : Int) := by rw [show (k : Int) + (m : Int) = (K : Int) by omega]; exact wrap_nat (by omega)
      have z3 : ¬ ((K : Int) = 0) := by omega
      -- where
      obtain ⟨r, hr, hrK⟩ : ∃ r : Nat, (cond (decide (Int.tmod (List.getD Ls i (EK.dflt (.int .i64))) (K : Int) < (0 : Int))) (some (wrapF .i64 ((wrapF .i64 (Int.tmod (List.getD Ls i (EK.dflt (.int .i64))) (K : Int) + (k : Int))) + (m : Int)))) (some (Int.tmod (List.getD Ls i (EK.dflt (.int .i64))) (K : Int)))) = some (r : Int) ∧ r < K := by
        generalize List.getD Ls i (EK.dflt (.int .i64)) = y
        have hb1 : Int.tmod y (K : Int) < (K : Int) := Int.tmod_lt_of_pos y (by omega)
        have hb2 : -(K : Int) < Int.tmod y (K : Int) := Int.lt_tmod_of_pos y (by omega)
        by_cases hn : Int.tmod y (K : Int) < 0
        · refine ⟨(Int.tmod y (K : Int) + (K : Int)).toNat, ?_, by omega⟩
          rw [dT hn, cond_true, wrapF_i64 (n := Int.tmod y (K : Int) + (k : Int)) (by omega) (by omega), wrapF_i64 (by omega) (by omega)]
          congr 1; omega
        · refine ⟨(Int.tmod y (K : Int)).toNat, ?_, by omega⟩
          rw [dF hn, cond_false]
          congr 1; omega
      have z4 : (0 : Int) ≤ (r : Int) := by omega
      have z5 : (r : Int) < ((B.length : Nat) : Int) := by omega
      have z6 : r < B.length := by omega
      have z7 : (r : Int) < ((S.length : Nat) : Int) := by omega
      have z8 : r < S.length := by omega
      have hd1 : List.getD B r (EK.dflt .bool) = B.getD r false := rfl
      have l4 : (4 ≤ ([(108 : Int), (111 : Int), (115 : Int), (116 : Int)] : List Int).length) := by decide
      cases hb : B.getD r false
      · obtain ⟨S', B', e1, e2⟩ := ih f (i + 1) gone S B (by omega) (by omega) hS hB hA hc hg
        refine ⟨S', B', ?_, e2⟩
        rw [← e1]
        show granarylaw03_RsAny_b2 N (loopF (granarylaw03_RsAny_b2 N) f) _ = _
        generalize loopF (granarylaw03_RsAny_b2 N) f = nx
        unfold granarylaw03_RsAny_b2
        dsimp only
        rw [dT h1, cond_true, dT h2, Option.bind_some, cond_true, dT z2, Bool.and_self, cond_true, w1, dF z3, Bool.not_false, cond_true, Int.toNat_natCast, hr, Option.bind_some, dT z4, dT z5, Bool.and_self, cond_true, Int.toNat_natCast, dT z6, cond_true, hd1, hb, cond_false, Option.bind_some, wrap_succ (show i ≤ 1000000 by omega)]
      · have hcu := cnt_upd (p := fun q => B.getD q false) (r := r) hb K
        rw [if_pos hrK] at hcu
        have hBs : ∀ q, (B.set r false).getD q false = if q = r then false else B.getD q false := by
          intro q
          rw [List.getD_eq_getElem?_getD, List.getElem?_set]
          by_cases h : r = q
          · subst h; rw [if_pos rfl, if_pos rfl, if_pos (by omega)]; rfl
          · rw [if_neg h, if_neg (Ne.symm h), ← List.getD_eq_getElem?_getD]
        have hfe : (fun q => (B.set r false).getD q false) = (fun q => if q = r then false else B.getD q false) := funext hBs
        obtain ⟨S', B', e1, e2⟩ := ih f (i + 1) (gone + 1) (S.set r [108, 111, 115, 116]) (B.set r false) (by omega) (by omega) (by rw [List.length_set]; exact hS) (by rw [List.length_set]; exact hB) (fun q hq hbq => by
          rw [hBs] at hbq
          by_cases h : q = r
          · rw [if_pos h] at hbq; cases hbq
          · rw [if_neg h] at hbq
            rw [List.getD_eq_getElem?_getD, List.getElem?_set, if_neg (Ne.symm h), ← List.getD_eq_getElem?_getD]
            exact hA q hq hbq) (by rw [hfe]; omega) (by omega)
        refine ⟨S', B', ?_, e2⟩
        rw [← e1]
        show granarylaw03_RsAny_b2 N (loopF (granarylaw03_RsAny_b2 N) f) _ = _
        generalize loopF (granarylaw03_RsAny_b2 N) f = nx
        unfold granarylaw03_RsAny_b2
        dsimp only
        rw [dT h1, cond_true, dT h2, Option.bind_some, cond_true, dT z2, Bool.and_self, cond_true, w1, dF z3, Bool.not_false, cond_true, Int.toNat_natCast, hr, Option.bind_some, dT z4, dT z5, Bool.and_self, cond_true, Int.toNat_natCast, dT z6, cond_true, hd1, hb, cond_true, dT z7, Bool.and_self, cond_true, dT l4, dT z8, Bool.and_self, cond_true, cond_true, cond_true, Option.bind_some, wrap_succ (show i ≤ 1000000 by omega), wrap_succ (show gone ≤ 1000000 by omega)]
        rfl
    · exact ⟨S, B, by simp only [loopF, granarylaw03_RsAny_b2, dT h1, dF h2, cond_true, cond_false, Option.bind_some], hS, hB, hA, by omega⟩

theorem new_bad {N : Nat} {k m : Int} (h : k < 1 ∨ 16 < k ∨ m < 0 ∨ 8 < m) : rs_New N (k, m) = some (.inl ()) ∧ granaryref03_New (k, m) = some (.inl ()) := by
  unfold rs_New granaryref03_New
  dsimp only
  by_cases h1 : k < 1
  · rw [dT h1]; exact ⟨rfl, rfl⟩
  by_cases h2 : 16 < k
  · rw [dF h1, dT h2]; exact ⟨rfl, rfl⟩
  by_cases h3 : m < 0
  · rw [dF h1, dF h2, dT h3]; exact ⟨rfl, rfl⟩
  by_cases h4 : 8 < m
  · rw [dF h1, dF h2, dF h3, dT h4]; exact ⟨rfl, rfl⟩
  · omega

theorem rsAny (x : EKs [(.int .i64), (.int .i64), (.sl (.int .u8)), (.sl (.int .i64))]) (hw : wfs [(.int .i64), (.int .i64), (.sl (.int .u8)), (.sl (.int .i64))] x) (hb : bulks [(.int .i64), (.int .i64), (.sl (.int .u8)), (.sl (.int .i64))] x ≤ 1048576) : ∃ N, granarylaw03_RsAny N (x.1, x.2.1, x.2.2.1, x.2.2.2) = some true := by
  obtain ⟨k, m, P, Ls⟩ := x
  change Int at k m
  change List Int at P Ls
  have hP := wf_bytes (l := P) hw.2.2.1
  have hLb : ∀ x, x ∈ Ls → -9223372036854775808 ≤ x ∧ x < 9223372036854775808 := by
    intro x hx
    have h1 : EK.wf (.sl (.int .i64)) Ls := hw.2.2.2
    exact wf_i64 (h1.2 x hx)
  refine ⟨10000, ?_⟩
  show granarylaw03_RsAny 10000 (k, m, P, Ls) = some true
  by_cases hg : k < 1 ∨ 16 < k ∨ m < 0 ∨ 8 < m
  · obtain ⟨a1, a2⟩ := new_bad (N := 10000) hg
    have hbo : granarylaw03_both 10000 (k, m) = some (.inl true) := by
      unfold granarylaw03_both
      dsimp only
      rw [a1, Option.bind_some]
      dsimp only
      rw [a2, Option.bind_some]
      rfl
    unfold granarylaw03_RsAny
    dsimp only
    rw [hbo, Option.bind_some, rs_live10]
    dsimp only
    cases decide ((9000 : Int) < ((P.length : Nat) : Int)) <;> rfl
  obtain ⟨k, rfl⟩ : ∃ a : Nat, k = a := ⟨k.toNat, by omega⟩
  obtain ⟨m, rfl⟩ : ∃ a : Nat, m = a := ⟨m.toNat, by omega⟩
  have hk : 1 ≤ k := by omega
  have hk2 : k ≤ 16 := by omega
  have hm : m ≤ 8 := by omega
  have a1 := new_ok (N := 10000) (k := k) (m := m) (by omega) hk hk2 hm
  have a2 : granaryref03_New ((k : Int), (m : Int)) = some (.inr ((k : Int), (m : Int))) := by
    unfold granaryref03_New
    dsimp only
    rw [dF (show ¬ ((k : Int) < 1) by omega), cond_false, dF (show ¬ ((16 : Int) < (k : Int)) by omega), cond_false, dF (show ¬ ((m : Int) < 0) by omega), cond_false, dF (show ¬ ((8 : Int) < (m : Int)) by omega), Option.bind_some, cond_false]
  have hbo : granarylaw03_both 10000 ((k : Int), (m : Int)) = some (.inr (.inr (.inr (true, (k : Int), (m : Int), (k : Int), (m : Int), rowsF k m)))) := by
    unfold granarylaw03_both
    dsimp only
    rw [a1, Option.bind_some]
    dsimp only
    rw [a2, Option.bind_some]
    rfl
  unfold granarylaw03_RsAny
  dsimp only
  rw [hbo, Option.bind_some, rs_live10]
  dsimp only
  by_cases hp : (9000 : Int) < ((P.length : Nat) : Int)
  · rw [dT hp]; rfl
  by_cases hls : (30 : Int) < ((Ls.length : Nat) : Int)
  · rw [dF hp, dT hls]; rfl
  rw [Bool.not_true, cond_false, dF hp, cond_false, dF hls, cond_false]
  obtain ⟨D, s, d1, d2⟩ := shards_ok (N := 10000) (by omega) hk hk2 hP (by omega)
  obtain ⟨n, hn⟩ : ∃ n, P.length / k = n := ⟨_, rfl⟩
  have hnP : n ≤ 9000 := by have := Nat.div_le_self P.length k; omega
  rw [hn] at d2
  rw [d1, Option.bind_some]
  have hlD := d2.len
  by_cases hn2 : 4096 < n
  · rw [encode_long (by omega) hn2 hk hk2 d2, Option.bind_some]
    dsimp only
    rw [num_eq, Option.bind_some, dF (show ¬ ((1 : Int) = 0) by omega), Bool.not_false, cond_true, Option.bind_some, cond_true]
    have h0 := (d2.getK (show 0 < k by omega)).len
    rw [dT (show (0 : Int) < ((D.length : Nat) : Int) by omega), cond_true, h0, dT (show (4096 : Int) < (n : Int) by omega), cond_true]
    rfl
  obtain ⟨Q, q1, q2⟩ := encode_ok (N := 10000) (by omega) (show n ≤ 4096 by omega) hk hk2 hm d2
  have hlQ := q2.len
  rw [q1, Option.bind_some]
  dsimp only
  have hall : Mat (k + m) n (D ++ Q) (shard k s) := (d2.appendM q2).congr (fun i hi t ht => by
    by_cases h : i < k
    · rw [if_pos h, shard_data h]
    · rw [if_neg h, show k + (i - k) = i by omega])
  have hla := hall.len
  have g1 : ∀ q, q ≤ 100 → fits 24 q = true := fun q hq => by simp [fits]; omega
  have w1 : wrapF .i64 ((k : Int) + (m : Int)) = ((k + m : Nat) : Int) := by rw [show (k : Int) + (m : Int) = ((k + m : Nat) : Int) by omega]; exact wrap_nat (by omega)
  have e0 : ((0 : Nat) : Int) = 0 := rfl
  have f2 : fits 1 (k + m) = true := by simp [fits]; omega
  obtain ⟨B, b1, b2, b3⟩ := all_loop (N := 10000) (K := k + m) (by omega) (a1 := (k : Int)) (a2 := (m : Int)) (a3 := Ls) (a4 := D ++ Q) (k + m) 10000 0 (List.replicate (k + m) false) (by omega) (by omega) (by simp) (fun q hq => absurd hq (by omega))
  have hcB : cnt (k + m) (fun q => B.getD q false) = k + m := by
    have : cnt (k + m) (fun q => B.getD q false) = cnt (k + m) (fun _ => true) := by
      unfold cnt
      congr 1
      exact List.filter_congr (fun q hq => b3 q (List.mem_range.1 hq))
    rw [this, cnt_all]
  obtain ⟨S', B', c1, c2, c3, c4, c5⟩ := lost_loop (N := 10000) (K := k + m) rfl hk hk2 hm (Ls := Ls) (by omega) (A := D ++ Q) hLb Ls.length 10000 0 0 (D ++ Q) B (by omega) (by omega) hla b2 (fun _ _ _ => rfl) (by omega) (by omega)
  obtain ⟨O, o1, o2⟩ := rebuild_ok (N := 10000) (by omega) (show n ≤ 4096 by omega) hk hk2 hm rfl (S := S') (B := B') (s := s) c2 c3 (fun i hi hb => by rw [c4 i hi hb]; exact hall.row i hi) c5
  obtain rfl : O = D ++ Q := o2.ext hall (fun _ _ _ _ => rfl)
  rw [e0] at b1 c1
  rw [num_eq, Option.bind_some, dT rfl, Bool.not_true, cond_false, dT (show ((Q.length : Nat) : Int) = (m : Int) by omega), Bool.not_true, Option.bind_some, cond_false, g1 D.length (by omega), cond_true, g1 (D.length + Q.length) (by omega), cond_true,
    lent_ok (by omega) (by omega) (show n ≤ 10000 by omega) hall, Option.bind_some, w1, dT (show (0 : Int) ≤ ((k + m : Nat) : Int) by omega), Int.toNat_natCast, f2, Bool.and_self, cond_true, granarylaw03_RsAny_l0]
  rw [show (EK.dflt .bool : Bool) = false from rfl, b1, Option.bind_some, granarylaw03_RsAny_l2, c1, Option.bind_some]
  dsimp only
  rw [o1, Option.bind_some]
  dsimp only
  rw [check_ok' (by omega) (show n ≤ 4096 by omega) hk hk2 hm hall, Option.bind_some]
  dsimp only
  rw [num_eq, Option.bind_some, dT rfl, cond_true, same_ok _ (by omega) (by omega), Option.bind_some, cond_true]
  rfl

end Go.Rf.W.Pure
