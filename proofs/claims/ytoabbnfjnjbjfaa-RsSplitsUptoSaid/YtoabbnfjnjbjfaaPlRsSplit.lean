/-
  Package rs: Split and Join, the program's and the document's.
-/
import Derived.Test.YtoabbnfjnjbjfaaPlRsGen
set_option linter.unusedVariables false
set_option linter.unusedSimpArgs false
set_option maxRecDepth 10000
namespace Go.Rf.W.Pure
open Go Go.Rf Go.Rf.W Go.Rf.Lin

/-- The j-th shard of n bytes. -/
def piece (P : List Int) (n j : Nat) : List Int := List.take (min (P.length - j * n) n) (List.drop (j * n) P) ++ List.replicate (n - min (P.length - j * n) n) 0
def pieces (P : List Int) (n j : Nat) : List (List Int) := (List.range j).map (piece P n)

theorem piece_length (P : List Int) (n j : Nat) : (piece P n j).length = n := by
  unfold piece
  simp only [List.length_append, List.length_take, List.length_drop, List.length_replicate]
  omega
theorem pieces_length (P : List Int) (n j : Nat) : (pieces P n j).length = j := by simp [pieces]
theorem pieces_succ (P : List Int) (n j : Nat) : pieces P n (j + 1) = pieces P n j ++ [piece P n j] := by
  simp [pieces, List.range_succ]
theorem pieces_get {P : List Int} {n k i : Nat} (h : i < k) : (pieces P n k).getD i [] = piece P n i := by
  unfold pieces
  rw [List.getD_eq_getElem?_getD, List.getElem?_map, List.getElem?_range h]; rfl
theorem pieces_flat (P : List Int) (n : Nat) : ∀ j, (pieces P n j).flatten = List.take (j * n) P ++ List.replicate (j * n - P.length) 0 := by
  intro j
  induction j with
  | zero => simp [pieces]
  | succ j ih =>
    rw [pieces_succ, List.flatten_append, ih, List.flatten_singleton]
    have he : (j + 1) * n = j * n + n := by rw [Nat.add_mul, Nat.one_mul]
    rw [he]
    unfold piece
    by_cases h : j * n ≤ P.length
    · rw [show j * n - P.length = 0 by omega, List.replicate_zero, List.append_nil, ← List.append_assoc, ← List.take_add]
      by_cases h2 : n ≤ P.length - j * n
      · rw [Nat.min_eq_right h2, show j * n + n - P.length = 0 by omega, Nat.sub_self]
      · rw [Nat.min_eq_left (by omega), show j * n + (P.length - j * n) = P.length by omega, List.take_length, List.take_of_length_le (by omega), show n - (P.length - j * n) = j * n + n - P.length by omega]
    · rw [show P.length - j * n = 0 by omega, Nat.zero_min, List.take_zero, List.nil_append, List.take_of_length_le (by omega), List.take_of_length_le (by omega), List.append_assoc, List.replicate_append_replicate]
      congr 2
      omega

theorem piece_bytes {P : List Int} (hP : ∀ x, x ∈ P → 0 ≤ x ∧ x < 256) {n j : Nat} : ∀ x, x ∈ piece P n j → 0 ≤ x ∧ x < 256 := by
  intro x hx
  rcases List.mem_append.1 hx with h | h
  · exact hP x (List.mem_of_mem_drop (List.mem_of_mem_take h))
  · have := List.eq_of_mem_replicate h
    omega

theorem pieces_sm {P : List Int} (hP : ∀ x, x ∈ P → 0 ≤ x ∧ x < 256) {n k : Nat} (hk : k ≤ 60) (hn : n ≤ 10000) : Sm (pieces P n k) := by
  refine ⟨by rw [pieces_length]; exact hk, fun r hr => ?_, fun r hr => ?_⟩
  · simp only [pieces, List.mem_map] at hr
    obtain ⟨i, _, rfl⟩ := hr
    rw [piece_length]; exact hn
  · simp only [pieces, List.mem_map] at hr
    obtain ⟨i, _, rfl⟩ := hr
    exact piece_bytes hP

theorem split_l0 {N k n : Nat} (hN : 100 ≤ N) (hk2 : k ≤ 16) (hn : n ≤ 4096) {P : List Int} (hP : P.length ≤ 69632) : rs_Code_Split_v1_l0 N (P, (n : Int), (k : Int), 0, []) = some (pieces P n k) := by
  have key : rs_Code_Split_v1_l0 N (P, (n : Int), (k : Int), ((0 : Nat) : Int), pieces P n 0) = some (pieces P n k) := by
    rw [rs_Code_Split_v1_l0]
    refine it_st (b := rs_Code_Split_v1_b0 N) (fun j => (P, (n : Int), (k : Int), ((j : Nat) : Int), pieces P n j)) k (fun j hj nx => ?_) (fun nx => ?_) N (by omega)
    · have hjn : j * n ≤ 16 * 4096 := Nat.mul_le_mul (by omega) hn
      have z1 : (j : Int) < (k : Int) := by omega
      have z2 : (0 : Int) ≤ (n : Int) := by omega
      have f1 : fits 1 n = true := by simp [fits]; omega
      have w1 : wrapF .i64 ((j : Int) * (n : Int)) = ((j * n : Nat) : Int) := wrap_mul (by omega)
      have hv5 : (if ((P.length : Nat) : Int) < ((j * n : Nat) : Int) then ((P.length : Nat) : Int) else ((j * n : Nat) : Int)) = ((min P.length (j * n) : Nat) : Int) := by
        by_cases h : P.length < j * n
        · rw [if_pos (by omega), Nat.min_eq_left (by omega)]
        · rw [if_neg (by omega), Nat.min_eq_right (by omega)]
      have z3 : (0 : Int) ≤ ((min P.length (j * n) : Nat) : Int) := by omega
      have z4 : ((min P.length (j * n) : Nat) : Int) ≤ ((P.length : Nat) : Int) := by omega
      have z5 : ((P.length : Nat) : Int) ≤ ((P.length : Nat) : Int) := Int.le_refl _
      have hd : List.take (P.length - min P.length (j * n)) (List.drop (min P.length (j * n)) P) = List.drop (j * n) P := by
        rw [List.take_of_length_le (by simp)]
        by_cases h : P.length < j * n
        · rw [Nat.min_eq_left (by omega), List.drop_length, List.drop_eq_nil_of_le (by omega)]
        · rw [Nat.min_eq_right (by omega)]
      have z6 : (0 + (List.replicate n (0 : Int)).length) ≤ (List.replicate n (0 : Int)).length := by omega
      have hpc : List.take 0 (List.replicate n (0 : Int)) ++ List.take (min (List.drop (j * n) P).length (List.replicate n (0 : Int)).length) (List.drop (j * n) P) ++ List.drop (0 + (min (List.drop (j * n) P).length (List.replicate n (0 : Int)).length)) (List.replicate n (0 : Int)) = piece P n j := by
        unfold piece
        rw [List.take_zero, List.nil_append, List.length_drop, List.length_replicate, Nat.zero_add, List.drop_replicate]
      have hl := pieces_length P n j
      have f2 : fits 24 ((pieces P n j).length + [piece P n j].length) = true := by rw [hl]; simp [fits]; omega
      unfold rs_Code_Split_v1_b0
      dsimp only
      rw [dT z1, cond_true, dT z2, Int.toNat_natCast, f1, Bool.and_self, cond_true, w1, hv5, dT z3, dT z4, dT z5, Bool.and_self, Bool.and_self, cond_true, Int.toNat_natCast, hd, show (EK.dflt (.int .u8) : Int) = 0 from rfl, dT z6, cond_true, hpc, f2, cond_true, wrap_succ (show j ≤ 1000000 by omega), pieces_succ]
    · have z1 : ¬ ((k : Int) < (k : Int)) := by omega
      simp only [rs_Code_Split_v1_b0, dF z1, cond_false]
  exact key

theorem rsplit_l2 {N n j : Nat} (hN : n + 100 ≤ N) (hj : j ≤ 16) (hn : n ≤ 4096) {P : List Int} (hP : P.length ≤ 69632) : granaryref03_Code_Split_l2 N (P, (n : Int), (j : Int), 0, List.replicate n 0) = some (piece P n j) := by
  have hjn : j * n ≤ 16 * 4096 := Nat.mul_le_mul hj hn
  let T := min (P.length - j * n) n
  have hT : T ≤ n ∧ T ≤ P.length - j * n := ⟨Nat.min_le_right _ _, Nat.min_le_left _ _⟩
  let O : Nat → List Int := fun t => List.take t (List.drop (j * n) P) ++ List.replicate (n - t) 0
  have key : granaryref03_Code_Split_l2 N (P, (n : Int), (j : Int), ((0 : Nat) : Int), O 0) = some (O T) := by
    rw [granaryref03_Code_Split_l2]
    refine it_st (b := granaryref03_Code_Split_b2 N) (fun t => (P, (n : Int), (j : Int), ((t : Nat) : Int), O t)) T (fun t ht nx => ?_) (fun nx => ?_) N (by omega)
    · have w1 : wrapF .i64 ((j : Int) * (n : Int)) = ((j * n : Nat) : Int) := wrap_mul (by omega)
      have w2 : wrapF .i64 (((j * n : Nat) : Int) + (t : Int)) = ((j * n + t : Nat) : Int) := by
        rw [show ((j * n : Nat) : Int) + (t : Int) = ((j * n + t : Nat) : Int) by omega]; exact wrap_nat (by omega)
      have z1 : (t : Int) < (n : Int) := by omega
      have z2 : ((j * n + t : Nat) : Int) < ((P.length : Nat) : Int) := by omega
      have z3 : (0 : Int) ≤ ((j * n + t : Nat) : Int) := by omega
      have z4 : (0 : Int) ≤ (t : Int) := by omega
      have hOl : (O t).length = n := by simp only [O, List.length_append, List.length_take, List.length_drop, List.length_replicate]; omega
      have z5 : (t : Int) < (((O t).length : Nat) : Int) := by omega
      have z6 : t < (O t).length := by omega
      have hset : List.set (O t) t (List.getD P (j * n + t) (EK.dflt (.int .u8))) = O (t + 1) := by
        have hX : (List.drop (j * n) P)[t]? = some (List.getD P (j * n + t) (EK.dflt (.int .u8))) := by
          rw [List.getElem?_drop, List.getD_eq_getElem?_getD, List.getElem?_eq_getElem (by omega)]; rfl
        have hl : (List.take t (List.drop (j * n) P)).length = t := by rw [List.length_take, List.length_drop]; omega
        show List.set (List.take t (List.drop (j * n) P) ++ List.replicate (n - t) 0) t _ = List.take (t + 1) (List.drop (j * n) P) ++ List.replicate (n - (t + 1)) 0
        rw [List.set_append_right _ _ (by omega), hl, Nat.sub_self, show n - t = (n - (t + 1)) + 1 by omega, List.replicate_succ, List.set_cons_zero, List.take_add_one, hX]
        simp
      unfold granaryref03_Code_Split_b2
      dsimp only
      rw [dT z1, cond_true, w1, w2, dT z2, Option.bind_some, cond_true, dT z3, Bool.and_self, cond_true, dT z4, dT z5, Bool.and_self, cond_true, Int.toNat_natCast, dT z6, cond_true, Int.toNat_natCast, hset, wrap_succ (show t ≤ 1000000 by omega)]
    · have w1 : wrapF .i64 ((j : Int) * (n : Int)) = ((j * n : Nat) : Int) := wrap_mul (by omega)
      have w2 : wrapF .i64 (((j * n : Nat) : Int) + (T : Int)) = ((j * n + T : Nat) : Int) := by
        rw [show ((j * n : Nat) : Int) + (T : Int) = ((j * n + T : Nat) : Int) by omega]; exact wrap_nat (by omega)
      unfold granaryref03_Code_Split_b2
      dsimp only
      by_cases h : T = n
      · have z1 : ¬ ((T : Int) < (n : Int)) := by omega
        rw [dF z1, cond_false, Option.bind_some, cond_false]
      · have hTl : T = P.length - j * n := by simp only [T] at h ⊢; omega
        have z1 : ((T : Int) < (n : Int)) := by omega
        have z2 : ¬ ((j * n + T : Nat) : Int) < ((P.length : Nat) : Int) := by omega
        rw [dT z1, cond_true, w1, w2, dF z2, Option.bind_some, cond_false]
  have hO0 : O 0 = List.replicate n 0 := by simp [O]
  rw [hO0] at key
  exact key

theorem rsplit_l0 {N k n : Nat} (hN : n + 100 ≤ N) (hk2 : k ≤ 16) (hn : n ≤ 4096) {P : List Int} (hP : P.length ≤ 69632) : granaryref03_Code_Split_l0 N (P, (n : Int), 0, (k : Int), []) = some ((k : Int), pieces P n k) := by
  have key : granaryref03_Code_Split_l0 N (P, (n : Int), ((0 : Nat) : Int), (k : Int), pieces P n 0) = some ((k : Int), pieces P n k) := by
    rw [granaryref03_Code_Split_l0]
    refine it_st (b := granaryref03_Code_Split_b0 N) (fun j => (P, (n : Int), ((j : Nat) : Int), (k : Int), pieces P n j)) k (fun j hj nx => ?_) (fun nx => ?_) N (by omega)
    · have z1 : (j : Int) < (k : Int) := by omega
      have z2 : (0 : Int) ≤ (n : Int) := by omega
      have f1 : fits 1 n = true := by simp [fits]; omega
      have hl := pieces_length P n j
      have f2 : fits 24 ((pieces P n j).length + [piece P n j].length) = true := by rw [hl]; simp [fits]; omega
      unfold granaryref03_Code_Split_b0
      dsimp only
      rw [dT z1, cond_true, dT z2, Int.toNat_natCast, f1, Bool.and_self, cond_true, show (EK.dflt (.int .u8) : Int) = 0 from rfl, rsplit_l2 hN (by omega) hn hP, Option.bind_some, f2, cond_true, wrap_succ (show j ≤ 1000000 by omega), pieces_succ]
    · have z1 : ¬ ((k : Int) < (k : Int)) := by omega
      simp only [granaryref03_Code_Split_b0, dF z1, cond_false]
  exact key

/-- Both Splits. -/
theorem split_both {N k : Nat} {m : Int} {R : List Int} (hN : 20000 ≤ N) (hk : 1 ≤ k) (hk2 : k ≤ 16) {P : List Int} (hP : P.length ≤ 69632) :
    (∃ n, n ≤ 4096 ∧ P.length ≤ k * n ∧ rs_Code_Split_v1 N (P, (k : Int), m, R) = some (0, (k : Int), m, R, pieces P n k) ∧ granaryref03_Code_Split N (P, (k : Int), m) = some (0, (k : Int), m, pieces P n k)) ∨
    (rs_Code_Split_v1 N (P, (k : Int), m, R) = some (1, (k : Int), m, R, []) ∧ granaryref03_Code_Split N (P, (k : Int), m) = some (1, (k : Int), m, [])) := by
  have z0 : ¬ ((k : Int) = 0) := by omega
  have w : wrapF .i64 (Int.tdiv (wrapF .i64 ((wrapF .i64 (((P.length : Nat) : Int) + (k : Int))) - (1 : Int))) (k : Int)) = (((P.length + k - 1) / k : Nat) : Int) := by
    rw [show ((P.length : Nat) : Int) + (k : Int) = ((P.length + k : Nat) : Int) by omega, wrap_nat (by omega), show ((P.length + k : Nat) : Int) - 1 = ((P.length + k - 1 : Nat) : Int) by omega, wrap_nat (by omega),
      show Int.tdiv ((P.length + k - 1 : Nat) : Int) (k : Int) = (((P.length + k - 1) / k : Nat) : Int) from rfl]
    have := Nat.div_le_self (P.length + k - 1) k
    exact wrap_nat (by omega)
  obtain ⟨n, hn⟩ : ∃ n, (P.length + k - 1) / k = n := ⟨_, rfl⟩
  rw [hn] at w
  by_cases h : n ≤ 4096
  · left
    refine ⟨n, h, ?_, ?_, ?_⟩
    · have h1 := Nat.div_add_mod (P.length + k - 1) k
      have h2 := Nat.mod_lt (P.length + k - 1) (show 0 < k by omega)
      rw [hn] at h1
      omega
    · have z1 : ¬ ((4096 : Int) < (n : Int)) := by omega
      unfold rs_Code_Split_v1
      dsimp only
      rw [dF z0, Bool.not_false, cond_true, w, dF z1, cond_false, split_l0 (by omega) hk2 h hP, Option.bind_some]
    · have z1 : ¬ ((4096 : Int) < (n : Int)) := by omega
      unfold granaryref03_Code_Split
      dsimp only
      rw [dF z0, Bool.not_false, cond_true, w, dF z1, cond_false, rsplit_l0 (by omega) hk2 h hP, Option.bind_some]
  · right
    have z1 : ((4096 : Int) < (n : Int)) := by omega
    refine ⟨?_, ?_⟩
    · unfold rs_Code_Split_v1
      dsimp only
      rw [dF z0, Bool.not_false, cond_true, w, dT z1, cond_true]
    · unfold granaryref03_Code_Split
      dsimp only
      rw [dF z0, Bool.not_false, cond_true, w, dT z1, cond_true]

/-! Join -/

theorem flat_take {S : List (List Int)} {i : Nat} (h : i < S.length) : (List.take (i + 1) S).flatten = (List.take i S).flatten ++ S.getD i [] := by
  rw [List.take_add_one, List.getElem?_eq_getElem h, List.getD_eq_getElem?_getD, List.getElem?_eq_getElem h, List.flatten_append]
  show _ ++ [S[i]].flatten = _
  rw [List.flatten_singleton]; rfl
theorem flat_len {S : List (List Int)} (hS : Sm S) : ∀ i, i ≤ S.length → (List.take i S).flatten.length ≤ i * 10000 := by
  intro i
  induction i with
  | zero => intro _; simp
  | succ i ih =>
    intro hi
    have h1 := ih (by omega)
    have h2 := hS.get (i := i) (by omega)
    rw [flat_take (by omega), List.length_append, Nat.add_mul]
    omega

theorem join_l0 {N : Nat} (hN : 200 ≤ N) {S : List (List Int)} (hS : Sm S) (c : Int) : rs_Code_Join_v1_l0 N (S, c, S, ((S.length : Nat) : Int), 0, []) = some (cond (evenB S) (.inr S.flatten) (.inl ())) := by
  have hl := hS.len
  have key : rs_Code_Join_v1_l0 N (S, c, S, ((S.length : Nat) : Int), ((0 : Nat) : Int), (List.take 0 S).flatten) = some (cond (evenB S) (.inr (List.take S.length S).flatten) (.inl ())) := by
    rw [rs_Code_Join_v1_l0]
    refine it_all (b := rs_Code_Join_v1_b0 N) (fun i => (S, c, S, ((S.length : Nat) : Int), ((i : Nat) : Int), (List.take i S).flatten)) S.length (fun i => decide ((S.getD i []).length = (S.getD 0 []).length)) (fun i hi hp nx => ?_) (fun i hi hp nx => ?_) (fun nx => ?_) N (by omega)
    all_goals
      first
      | have z1 : (i : Int) < ((S.length : Nat) : Int) := by omega
        have z2 : (0 : Int) ≤ (i : Int) := by omega
        have z3 : (0 : Int) < ((S.length : Nat) : Int) := by omega
        unfold rs_Code_Join_v1_b0
        dsimp only
        rw [dT z1, cond_true, dT z2, Bool.and_self, cond_true, dT z3, cond_true, Int.toNat_natCast]
      | skip
    · have hp' : (S.getD i []).length = (S.getD 0 []).length := by simpa using hp
      have z5 : ((List.length (List.getD S i (EK.dflt (.sl (.int .u8)))) : Nat) : Int) = ((List.length (List.getD S 0 (EK.dflt (.sl (.int .u8)))) : Nat) : Int) := congrArg _ hp'
      have h1 := flat_len hS i (by omega)
      have h2 := hS.get hi
      have h3 : i * 10000 ≤ 60 * 10000 := Nat.mul_le_mul_right _ (by omega)
      have f1 : fits 1 ((List.take i S).flatten.length + (List.getD S i (EK.dflt (.sl (.int .u8)))).length) = true := by
        show fits 1 ((List.take i S).flatten.length + (S.getD i []).length) = true
        simp only [fits, Bool.and_eq_true, decide_eq_true_eq]
        omega
      have hf := flat_take hi
      rw [dT z5, Bool.not_true, cond_false, f1, cond_true, hf, wrap_succ (show i ≤ 1000000 by omega)]
      rfl
    · have hp' : ¬ (S.getD i []).length = (S.getD 0 []).length := by simpa using hp
      have z5 : ¬ ((List.length (List.getD S i (EK.dflt (.sl (.int .u8)))) : Nat) : Int) = ((List.length (List.getD S 0 (EK.dflt (.sl (.int .u8)))) : Nat) : Int) := fun e => hp' (Int.ofNat.inj e)
      rw [dF z5, Bool.not_false, cond_true]
    · have h1 : ¬ (((S.length : Nat) : Int) < ((S.length : Nat) : Int)) := by omega
      simp only [rs_Code_Join_v1_b0, dF h1, cond_false]
  rw [List.take_length] at key
  exact key

theorem rjoin_l0 {N k : Nat} (hN : 200 ≤ N) {S : List (List Int)} (hS : Sm S) (hk : S.length = k) (c : Int) : granaryref03_Code_Join_l0 N (S, c, 0, (k : Int), []) = some ((k : Int), S.flatten) := by
  have hl := hS.len
  have key : granaryref03_Code_Join_l0 N (S, c, ((0 : Nat) : Int), (k : Int), (List.take 0 S).flatten) = some ((k : Int), (List.take S.length S).flatten) := by
    rw [granaryref03_Code_Join_l0]
    refine it_st (b := granaryref03_Code_Join_b0 N) (fun i => (S, c, ((i : Nat) : Int), (k : Int), (List.take i S).flatten)) S.length (fun i hi nx => ?_) (fun nx => ?_) N (by omega)
    · have z1 : (i : Int) < (k : Int) := by omega
      have z1' : (i : Int) < ((S.length : Nat) : Int) := by omega
      have z2 : (0 : Int) ≤ (i : Int) := by omega
      have h1 := flat_len hS i (by omega)
      have h2 := hS.get hi
      have h3 : i * 10000 ≤ 60 * 10000 := Nat.mul_le_mul_right _ (by omega)
      have f1 : fits 1 ((List.take i S).flatten.length + (List.getD S i (EK.dflt (.sl (.int .u8)))).length) = true := by
        show fits 1 ((List.take i S).flatten.length + (S.getD i []).length) = true
        simp only [fits, Bool.and_eq_true, decide_eq_true_eq]
        omega
      have hf := flat_take hi
      unfold granaryref03_Code_Join_b0
      dsimp only
      rw [dT z1, cond_true, dT z2, dT z1', Bool.and_self, cond_true, Int.toNat_natCast, f1, cond_true, hf, wrap_succ (show i ≤ 1000000 by omega)]
      rfl
    · have h1 : ¬ (((S.length : Nat) : Int) < (k : Int)) := by omega
      simp only [granaryref03_Code_Join_b0, dF h1, cond_false]
  rw [List.take_length] at key
  exact key

theorem flat_even {S : List (List Int)} {n : Nat} : ∀ {S : List (List Int)}, (∀ r, r ∈ S → r.length = n) → S.flatten.length = S.length * n
  | [], _ => by simp
  | r :: S, h => by
    rw [List.flatten_cons, List.length_append, flat_even (S := S) (fun r' hr => h r' (by simp [hr])), h r (by simp), List.length_cons, Nat.add_mul]
    omega

/-- Both Joins, of any shards. -/
theorem join_both {N k : Nat} {m : Int} {R : List Int} (hN : 20000 ≤ N) (hk : 1 ≤ k) (hk2 : k ≤ 16) {S : List (List Int)} (hS : Sm S) (c : Int) :
    ∃ (e : Int) (q : Nat) (L : List Int), rs_Code_Join_v1 N (S, c, (k : Int), m, R) = some (0, q, e, (k : Int), m, R, L) ∧ granaryref03_Code_Join N (S, c, (k : Int), m) = some (0, q, e, (k : Int), m, L) ∧ q ≤ L.length ∧
      (S.length = k → evenB S = true → 0 ≤ c → c ≤ ((S.flatten.length : Nat) : Int) → e = 0 ∧ q = c.toNat ∧ L = S.flatten) := by
  have hl := hS.len
  have hrev := revenG (N := N) (K := k) (by omega) hl (by omega)
  by_cases hlen : S.length = k
  · have z1 : ((S.length : Nat) : Int) = (k : Int) := by omega
    by_cases hc : c < 0
    · refine ⟨2, 0, [], ?_, ?_, by simp, fun _ _ h => by omega⟩
      · unfold rs_Code_Join_v1
        dsimp only
        rw [dT z1, Bool.not_true, cond_false, dT hc]; rfl
      · unfold granaryref03_Code_Join
        dsimp only
        rw [hrev, dT hlen, Bool.true_and, Option.bind_some]
        cases evenB S
        · rfl
        · rw [Bool.not_true, cond_false, dT hc]; rfl
    · have hj := join_l0 (N := N) (by omega) hS c
      cases hev : evenB S with
      | false =>
        rw [hev, cond_false] at hj
        refine ⟨2, 0, [], ?_, ?_, by simp, fun _ h => by cases h⟩
        · unfold rs_Code_Join_v1
          dsimp only
          rw [dT z1, Bool.not_true, cond_false, dF hc, Option.bind_some, cond_false, ← z1, hj, Option.bind_some]
        · unfold granaryref03_Code_Join
          dsimp only
          rw [hrev, dT hlen, Bool.true_and, hev]
          rfl
      | true =>
        rw [hev, cond_true] at hj
        have hfl : S.flatten.length = k * (S.getD 0 []).length := by
          rw [evenB_iff] at hev
          rw [← hlen]
          refine flat_even (S := S) (n := (S.getD 0 []).length) (fun r hr => ?_)
          obtain ⟨i, hi, e⟩ := List.mem_iff_getElem.1 hr
          have := hev i hi
          rw [List.getD_eq_getElem?_getD, List.getElem?_eq_getElem hi] at this
          rw [← e]; exact this
        have h0 : (S.getD 0 []).length ≤ 10000 := hS.get (by omega)
        have hb : k * (S.getD 0 []).length ≤ 16 * 10000 := Nat.mul_le_mul hk2 h0
        have w1 : wrapF .i64 ((k : Int) * ((List.length (List.getD S 0 (EK.dflt (.sl (.int .u8)))) : Nat) : Int)) = ((k * (S.getD 0 []).length : Nat) : Int) := by
          show wrapF .i64 ((k : Int) * (((S.getD 0 []).length : Nat) : Int)) = _
          exact wrap_mul (by omega)
        have z3 : (0 : Int) < ((S.length : Nat) : Int) := by omega
        by_cases hgt : ((S.flatten.length : Nat) : Int) < c
        · refine ⟨2, 0, [], ?_, ?_, by simp, fun _ _ _ h => by omega⟩
          · unfold rs_Code_Join_v1
            dsimp only
            rw [dT z1, Bool.not_true, cond_false, dF hc, Option.bind_some, cond_false, ← z1, hj, Option.bind_some]
            dsimp only
            rw [dT hgt, cond_true]
          · unfold granaryref03_Code_Join
            dsimp only
            rw [hrev, dT hlen, Bool.true_and, hev, Option.bind_some, Bool.not_true, cond_false, dF hc, cond_false, dT z3, cond_true, w1, dT (by omega), Option.bind_some, cond_true]
        · have z4 : (0 : Int) ≤ c := by omega
          have z5 : c ≤ c := Int.le_refl _
          have z6 : c ≤ ((S.flatten.length : Nat) : Int) := by omega
          refine ⟨0, c.toNat, S.flatten, ?_, ?_, by omega, fun _ _ _ _ => ⟨rfl, rfl, rfl⟩⟩
          · unfold rs_Code_Join_v1
            dsimp only
            rw [dT z1, Bool.not_true, cond_false, dF hc, Option.bind_some, cond_false, ← z1, hj, Option.bind_some]
            dsimp only
            rw [dF hgt, cond_false, dT z4, dT z5, dT z6, Bool.and_self, Bool.and_self, cond_true]
          · unfold granaryref03_Code_Join
            dsimp only
            rw [hrev, dT hlen, Bool.true_and, hev, Option.bind_some, Bool.not_true, cond_false, dF hc, cond_false, dT z3, cond_true, w1, dF (by omega), Option.bind_some, cond_false, rjoin_l0 (by omega) hS hlen, Option.bind_some]
            dsimp only
            rw [dT z4, dT z6, Bool.and_self, cond_true]
  · have z1 : ¬ ((S.length : Nat) : Int) = (k : Int) := by omega
    refine ⟨2, 0, [], ?_, ?_, by simp, fun h => absurd h hlen⟩
    · unfold rs_Code_Join_v1
      dsimp only
      rw [dF z1]; rfl
    · unfold granaryref03_Code_Join
      dsimp only
      rw [hrev, dF hlen, Bool.false_and]
      rfl

end Go.Rf.W.Pure
