/-
  Package rs: Rebuild, the program's and the document's.
-/
import Derived.Test.YtoabbnfjnjbjfaaPlRsMix1
import Derived.Test.YtoabbnfjnjbjfaaPlRsRefInv
set_option linter.unusedVariables false
set_option linter.unusedSimpArgs false
set_option maxRecDepth 10000
namespace Go.Rf.W.Pure
open Go Go.Rf Go.Rf.W Go.Rf.Lin

theorem rebuild_v : rs_Code_Rebuild_v2 = rs_Code_Rebuild := rfl

/-! Which are there -/

def Fi (H : List Bool) (i : Nat) : List Nat := (List.range i).filter (fun q => H.getD q false)
theorem Fi_succ (H : List Bool) (i : Nat) : Fi H (i + 1) = if H.getD i false = true then Fi H i ++ [i] else Fi H i := by
  unfold Fi
  rw [List.range_succ, List.filter_append]
  by_cases h : H.getD i false = true
  · rw [if_pos h, List.filter_cons, if_pos h]; rfl
  · rw [if_neg h, List.filter_cons, if_neg h]; simp
theorem Fi_le (H : List Bool) (i : Nat) : (Fi H i).length ≤ i := by
  have := List.length_filter_le (fun q => H.getD q false) (List.range i)
  simpa [Fi] using this
theorem Fi_pre (H : List Bool) : ∀ {i j : Nat}, i ≤ j → ∃ t, Fi H j = Fi H i ++ t := by
  intro i j hij
  induction j with
  | zero => have : i = 0 := by omega
            subst this; exact ⟨[], by simp⟩
  | succ j ih =>
    by_cases e : i = j + 1
    · subst e; exact ⟨[], by simp⟩
    · obtain ⟨t, ht⟩ := ih (by omega)
      rw [Fi_succ]
      split
      · exact ⟨t ++ [j], by rw [ht, List.append_assoc]⟩
      · exact ⟨t, ht⟩
/-- The i-th number is at its place. -/
theorem Fi_at {H : List Bool} {i K : Nat} (hi : i < K) (h : H.getD i false = true) : (Fi H K).getD (Fi H i).length 0 = i := by
  obtain ⟨t, ht⟩ := Fi_pre H (show i + 1 ≤ K by omega)
  rw [ht, Fi_succ, if_pos h, List.append_assoc, List.getD_eq_getElem?_getD, List.getElem?_append_right (Nat.le_refl _), Nat.sub_self]
  rfl
theorem Fi_mem {H : List Bool} {K i : Nat} (hi : i < (Fi H K).length) : (Fi H K).getD i 0 < K ∧ H.getD ((Fi H K).getD i 0) false = true := by
  have h1 := List.getElem_mem (l := Fi H K) hi
  have h2 : (Fi H K).getD i 0 = (Fi H K)[i] := by rw [List.getD_eq_getElem?_getD, List.getElem?_eq_getElem hi]; rfl
  rw [h2]
  exact ⟨List.mem_range.1 (List.mem_filter.1 h1).1, (List.mem_filter.1 h1).2⟩
theorem Fi_lt {H : List Bool} {K i j : Nat} (hij : i < j) (hj : j < (Fi H K).length) : (Fi H K).getD i 0 < (Fi H K).getD j 0 := by
  have hp : (Fi H K).Pairwise (· < ·) := filter_lt
  have := List.pairwise_iff_getElem.1 hp i j (by omega) hj hij
  rw [List.getD_eq_getElem?_getD, List.getD_eq_getElem?_getD, List.getElem?_eq_getElem hj, List.getElem?_eq_getElem (show i < (Fi H K).length by omega)]
  exact this

def thereL (S : List (List Int)) (H : List Bool) (i : Nat) : List (List Int) := (Fi H i).map (fun q => S.getD q [])
theorem thereL_get {S : List (List Int)} {H : List Bool} {K i : Nat} (hi : i < (Fi H K).length) : (thereL S H K).getD i [] = S.getD ((Fi H K).getD i 0) [] := by
  unfold thereL
  rw [List.getD_eq_getElem?_getD, List.getElem?_map, List.getElem?_eq_getElem hi, List.getD_eq_getElem?_getD (l := Fi H K), List.getElem?_eq_getElem hi]; rfl

/-! The program's: solve, then the shards -/

theorem solve_gen {N k m n : Nat} (hN : n + 200 ≤ N) (hn : n ≤ 4096) (hk : 1 ≤ k) (hk2 : k ≤ 16) (hm : m ≤ 8) {T : List (List Int)} {t : Nat → Nat → G} {Wl : List Int} {W : Nat → Nat} (hWl : Wl.length = k) (hW : ∀ i, i < k → Wl.getD i 0 = (W i : Int) ∧ W i < k + m)
    (hd : ∀ i j, i < j → j < k → W i ≠ W j) (hT : Mat k n T t) :
    ∃ O I, rs_Code_solve N (T, Wl, (n : Int), (k : Int), (m : Int), rowsF k m) = some (0, (k : Int), (m : Int), rowsF k m, O) ∧ IsInv k (fun a b => gen k (W a) b) I ∧ Mat k n O (fun q x => sum k (fun l => I q l * t l x)) := by
  have e0 : ((0 : Nat) : Int) = 0 := rfl
  have hkk : k * k ≤ 16 * 16 := Nat.mul_le_mul hk2 hk2
  obtain ⟨L, a1, a2⟩ := solve_l0 (N := N) hk hk2 hm (T := T) (a1 := (n : Int)) hWl hW k N 0 [] (by omega) (by omega) ⟨by simp, fun i hi => absurd hi (by omega)⟩
  obtain ⟨r, b1, b2⟩ := inverse_ok (N := N) (by omega) hk (by omega) a2
  have hr : r = k := gen_full (by omega) (fun i hi => by have := (hW i hi).2; omega) hd (fun i hi j hj => rfl) b1
  rcases b2 with ⟨b3, _⟩ | ⟨_, V, I, b4, b5, b6⟩
  · omega
  obtain ⟨O, c1, c2⟩ := solve_l2 (N := N) hN hn hk2 hT b5 k N 0 [] (by omega) (by omega) (Mat.nil n _)
  rw [e0] at a1 c1
  refine ⟨O, I, ?_, b6, c2⟩
  have w1 : wrapF .i64 ((k : Int) * (k : Int)) = ((k * k : Nat) : Int) := wrap_mul (by omega)
  have z1 : (0 : Int) ≤ ((k * k : Nat) : Int) := by omega
  have z2 : fits 1 (k * k) = true := by simp [fits]; omega
  have z3 : ((Wl.length : Nat) : Int) = (k : Int) := by omega
  unfold rs_Code_solve
  dsimp only
  rw [w1, dT z1, Int.toNat_natCast, z2, Bool.and_self, cond_true, z3, List.replicate_zero, rs_Code_solve_l0, a1, Option.bind_some]
  dsimp only
  rw [b4, Option.bind_some]
  dsimp only
  rw [dT rfl, Bool.not_true, cond_false, rs_Code_solve_l2, c1, Option.bind_some]

/-- What comes back. -/
def back (k : Nat) (H : List Bool) (sv dd : Nat → Nat → G) (i x : Nat) : G := if H.getD i false = true then sv i x else sum k (fun l => gen k i l * dd l x)

theorem reb_l3 {N k m n K : Nat} (hN : n + 200 ≤ N) (hn : n ≤ 4096) (hk : 1 ≤ k) (hk2 : k ≤ 16) (hm : m ≤ 8) (hK : K = k + m) {S : List (List Int)} {H : List Bool} {sv dd : Nat → Nat → G} (hS : S.length = K) (hB : H.length = K)
    (hG : ∀ i, i < K → H.getD i false = true → Vec n (S.getD i []) (sv i)) {D : List (List Int)} (hD : Mat k n D dd) :
    ∃ O', rs_Code_Rebuild_l3 N (S, (n : Int), H, (K : Int), 0, (k : Int), (m : Int), rowsF k m, D, []) = some ((k : Int), (m : Int), rowsF k m, D, O') ∧ Mat K n O' (back k H sv dd) := by
  have e0 : ((0 : Nat) : Int) = 0 := rfl
  obtain ⟨r, a1, a2⟩ := it_ex (b := rs_Code_Rebuild_b3 N) (fun i a => ∃ O, a = (S, (n : Int), H, (K : Int), (i : Int), (k : Int), (m : Int), rowsF k m, D, O) ∧ Mat i n O (back k H sv dd)) K
    (Q := fun (r : Int × Int × List Int × List (List Int) × List (List Int)) => ∃ O, r = ((k : Int), (m : Int), rowsF k m, D, O) ∧ Mat K n O (back k H sv dd)) (fun i a hlt ha => by
    obtain ⟨O, rfl, hO⟩ := ha
    have hlO := hO.len
    have z1 : (i : Int) < (K : Int) := by omega
    have z2 : (0 : Int) ≤ (i : Int) := by omega
    have z3 : (i : Int) < ((H.length : Nat) : Int) := by omega
    have z4 : (i : Int) < ((S.length : Nat) : Int) := by omega
    have z5 : (0 : Int) ≤ (n : Int) := by omega
    have z6 : fits 1 n = true := by simp [fits]; omega
    have z7 : (0 + n) ≤ n := by omega
    have hcopy : ∀ X : List Int, X.length = n → List.take 0 (List.replicate n (0 : Int)) ++ List.take (min X.length n) X ++ List.drop (0 + (min X.length n)) (List.replicate n (0 : Int)) = X := by
      intro X hX
      rw [hX, Nat.min_self, Nat.zero_add, List.take_zero, List.nil_append, List.take_of_length_le (by omega), List.drop_eq_nil_of_le (by simp), List.append_nil]
    have hd1 : List.getD H i (EK.dflt .bool) = H.getD i false := rfl
    have hd2 : List.getD S i (EK.dflt (.sl (.int .u8))) = S.getD i [] := rfl
    have key : ∃ X, Vec n X (back k H sv dd i) ∧ ∀ nx, rs_Code_Rebuild_b3 N nx (S, (n : Int), H, (K : Int), (i : Int), (k : Int), (m : Int), rowsF k m, D, O) = nx (S, (n : Int), H, (K : Int), ((i + 1 : Nat) : Int), (k : Int), (m : Int), rowsF k m, D, O ++ [X]) := by
      cases hb : H.getD i false
      · have hv := rowS_vec (k := k) (i := i) hk2 (by omega)
        obtain ⟨X, a1, a2⟩ := mixed_ok (N := N) hN hn (by omega) hv hD
        refine ⟨X, a2.congr (fun x hx => by unfold back; rw [hb]; simp), fun nx => ?_⟩
        have f3 : fits 24 (O.length + [X].length) = true := by simp [fits]; omega
        unfold rs_Code_Rebuild_b3
        dsimp only
        rw [dT z1, cond_true, dT z2, dT z3, Bool.and_self, cond_true, dT z5, Int.toNat_natCast, z6, Bool.and_self, cond_true, Int.toNat_natCast, hd1, hb, cond_false, rsrow_ok hk hk2 hm (by omega), Option.bind_some]
        dsimp only
        rw [mixed_v, a1, Option.bind_some, List.length_replicate, dT z7, cond_true, Option.bind_some]
        dsimp only
        rw [show (EK.dflt (.int .u8) : Int) = 0 from rfl, hcopy X a2.len, f3, cond_true, wrap_succ (show i ≤ 1000000 by omega)]
      · have hv := hG i hlt hb
        refine ⟨S.getD i [], hv.congr (fun x hx => by unfold back; rw [hb]; simp), fun nx => ?_⟩
        have f3 : fits 24 (O.length + [S.getD i []].length) = true := by simp [fits]; omega
        unfold rs_Code_Rebuild_b3
        dsimp only
        rw [dT z1, cond_true, dT z2, dT z3, Bool.and_self, cond_true, dT z5, Int.toNat_natCast, z6, Bool.and_self, cond_true, Int.toNat_natCast, hd1, hb, cond_true, dT z4, Bool.and_self, cond_true, List.length_replicate, dT z7, cond_true, Option.bind_some]
        dsimp only
        rw [show (EK.dflt (.int .u8) : Int) = 0 from rfl, hd2, hcopy _ hv.len, f3, cond_true, wrap_succ (show i ≤ 1000000 by omega)]
    obtain ⟨X, hX, hs⟩ := key
    refine ⟨_, ⟨O ++ [X], rfl, (hO.append hX).congr (fun a ha x hx => ?_)⟩, hs⟩
    by_cases h : a = i
    · subst h; rw [if_pos rfl]
    · rw [if_neg h]) (fun a ha => by
    obtain ⟨O, rfl, hO⟩ := ha
    have z1 : ¬ ((K : Int) < (K : Int)) := by omega
    refine ⟨_, ⟨O, rfl, hO⟩, fun nx => ?_⟩
    unfold rs_Code_Rebuild_b3
    dsimp only
    rw [dF z1, cond_false]) N (S, (n : Int), H, (K : Int), ((0 : Nat) : Int), (k : Int), (m : Int), rowsF k m, D, []) (by omega) ⟨[], rfl, Mat.nil _ _⟩
  obtain ⟨O, rfl, hO⟩ := a2
  rw [e0] at a1
  exact ⟨O, a1, hO⟩

/-! The document's -/

/-- The length of the first that is there. -/
def n0 (S : List (List Int)) (H : List Bool) (K : Nat) : Nat := ((thereL S H K).getD 0 []).length
def nn (S : List (List Int)) (H : List Bool) (K i : Nat) : Int := if Fi H i = [] then -1 else (n0 S H K : Int)
def cellsL (k : Nat) (H : List Bool) (i : Nat) : List Int := (((Fi H i).take k).map (rowS k)).flatten
def givenL (k : Nat) (S : List (List Int)) (H : List Bool) (i : Nat) : List (List Int) := ((Fi H i).take k).map (fun q => S.getD q [])

theorem n0_first {S : List (List Int)} {H : List Bool} {K i : Nat} (hi : i < K) (h : H.getD i false = true) (he : Fi H i = []) : n0 S H K = (S.getD i []).length := by
  have h1 := Fi_at hi h
  rw [he, List.length_nil] at h1
  obtain ⟨t, ht⟩ := Fi_pre H (show i + 1 ≤ K by omega)
  have h2 : 0 < (Fi H K).length := by rw [ht, Fi_succ, if_pos h]; simp; omega
  unfold n0
  rw [thereL_get h2, h1]

theorem cellsL_len {k : Nat} (hk2 : k ≤ 16) {H : List Bool} {K : Nat} (hK : K ≤ 30) : ∀ c, c ≤ (Fi H K).length → Is c k ((((Fi H K).take c).map (rowS k)).flatten) (fun a b => gen k ((Fi H K).getD a 0) b) := by
  intro c
  induction c with
  | zero => intro _; exact ⟨by simp, fun i hi => absurd hi (by omega)⟩
  | succ c ih =>
    intro hc
    have h1 := ih (by omega)
    have h2 := (Fi_mem (H := H) (K := K) (i := c) (by omega)).1
    have hv := rowS_vec (k := k) (i := (Fi H K).getD c 0) hk2 (by omega)
    have e : (Fi H K).take (c + 1) = (Fi H K).take c ++ [(Fi H K).getD c 0] := by
      rw [List.take_add_one, List.getElem?_eq_getElem (show c < (Fi H K).length by omega), List.getD_eq_getElem?_getD, List.getElem?_eq_getElem (show c < (Fi H K).length by omega)]; rfl
    rw [e, List.map_append, List.flatten_append]
    have e2 : (List.map (rowS k) [(Fi H K).getD c 0]).flatten = rowS k ((Fi H K).getD c 0) := by simp
    rw [e2]
    refine (Is.append h1 hv).congr (fun a ha b hb => ?_)
    by_cases h : a = c
    · subst h; simp
    · simp [h]

theorem rreb_l0 {N k m K : Nat} (hN : 20000 ≤ N) (hk : 1 ≤ k) (hk2 : k ≤ 16) (hm : m ≤ 8) (hK : K = k + m) {S : List (List Int)} {H : List Bool} (hSm : Sm S) (hS : S.length = K) (hB : H.length = K) :
    granaryref03_Code_Rebuild_l0 N (S, H, (K : Int), -1, 0, 0, (k : Int), (m : Int), [], []) =
      some (cond (evenB (thereL S H K)) (.inr (nn S H K K, (((Fi H K).length : Nat) : Int), (k : Int), (m : Int), cellsL k H K, givenL k S H K)) (.inl ((k : Int), (m : Int)))) := by
  have e0 : ((0 : Nat) : Int) = 0 := rfl
  let p : Nat → Bool := fun i => !(H.getD i false) || decide ((S.getD i []).length = n0 S H K)
  let st : Nat → _ := fun i => (S, H, (K : Int), nn S H K i, (((Fi H i).length : Nat) : Int), ((i : Nat) : Int), (k : Int), (m : Int), cellsL k H i, givenL k S H i)
  have key : loopF (granaryref03_Code_Rebuild_b0 N) N (st 0) = some (cond ((List.range K).all p) (.inr (nn S H K K, (((Fi H K).length : Nat) : Int), (k : Int), (m : Int), cellsL k H K, givenL k S H K)) (.inl ((k : Int), (m : Int)))) := by
    refine it_all (b := granaryref03_Code_Rebuild_b0 N) st K p (fun i hi hp nx => ?_) (fun i hi hp nx => ?_) (fun nx => ?_) N (by omega)
    · have z1 : (i : Int) < (K : Int) := by omega
      have z2 : (0 : Int) ≤ (i : Int) := by omega
      have z3 : (i : Int) < ((H.length : Nat) : Int) := by omega
      have z4 : (i : Int) < ((S.length : Nat) : Int) := by omega
      have hd1 : List.getD H i (EK.dflt .bool) = H.getD i false := rfl
      show granaryref03_Code_Rebuild_b0 N nx (S, H, (K : Int), nn S H K i, (((Fi H i).length : Nat) : Int), ((i : Nat) : Int), (k : Int), (m : Int), cellsL k H i, givenL k S H i) = nx (st (i + 1))
      unfold granaryref03_Code_Rebuild_b0
      dsimp only
      rw [dT z1, cond_true, dT z2, dT z3, Bool.and_self, cond_true, Int.toNat_natCast, hd1]
      cases hb : H.getD i false with
      | false =>
        have hF : Fi H (i + 1) = Fi H i := by rw [Fi_succ, hb]; simp
        rw [Bool.not_false, cond_true, Option.bind_some]
        dsimp only
        rw [wrap_succ (show i ≤ 1000000 by omega)]
        simp only [st, nn, cellsL, givenL, hF]
      | true =>
        have hF : Fi H (i + 1) = Fi H i ++ [i] := by rw [Fi_succ, hb]; simp
        have hFl := Fi_le H i
        have hne : Fi H (i + 1) ≠ [] := by rw [hF]; simp
        have hlen : (S.getD i []).length = n0 S H K := by
          have : (!(H.getD i false) || decide ((S.getD i []).length = n0 S H K)) = true := hp
          rw [hb] at this
          simpa using this
        have hlI : ((List.length (List.getD S i (EK.dflt (.sl (.int .u8)))) : Nat) : Int) = (n0 S H K : Int) := congrArg _ hlen
        have hr8 : (cond (decide ((0 : Int) ≤ nn S H K i)) (cond (true && true) (some (!(decide (((List.length (List.getD S i (EK.dflt (.sl (.int .u8)))) : Nat) : Int) = nn S H K i)))) none) (some false)) = some false := by
          by_cases he : Fi H i = []
          · have : nn S H K i = -1 := if_pos he
            rw [this]; rfl
          · have h5 : nn S H K i = (n0 S H K : Int) := if_neg he
            have h6 : (0 : Int) ≤ (n0 S H K : Int) := by omega
            rw [h5, hlI, dT h6, dT rfl]; rfl
        have hnn : nn S H K (i + 1) = (n0 S H K : Int) := if_neg hne
        have hcl : (((Fi H i).take k).map (fun q => S.getD q [])).length = min k (Fi H i).length := by simp
        have hwc : wrapF .i64 ((((Fi H i).length : Nat) : Int) + 1) = (((Fi H (i + 1)).length : Nat) : Int) := by
          rw [hF, List.length_append]; exact wrap_succ (show (Fi H i).length ≤ 1000000 by omega)
        have hr19 : (cond (decide (((List.length (givenL k S H i) : Nat) : Int) < (k : Int)))
            (cond (true && true)
            (cond ((decide (1 ≤ List.length ([(List.getD S i (EK.dflt (.sl (.int .u8))))] : List (List Int)))) && (fits 24 ((List.length (givenL k S H i)) + (List.length (List.take 1 (List.drop 0 ([(List.getD S i (EK.dflt (.sl (.int .u8))))] : List (List Int))))))))
            (Option.bind (granaryref03_Code_Row N ((i : Int), (k : Int), (m : Int))) fun r17 =>
            (cond (fits 1 ((List.length (cellsL k H i)) + (List.length r17.2.2)))
            (some (r17.1, r17.2.1, (cellsL k H i ++ r17.2.2), (givenL k S H i ++ (List.take 1 (List.drop 0 ([(List.getD S i (EK.dflt (.sl (.int .u8))))] : List (List Int)))))))
            none)) none) none)
            (some ((k : Int), (m : Int), cellsL k H i, givenL k S H i))) = some ((k : Int), (m : Int), cellsL k H (i + 1), givenL k S H (i + 1)) := by
          by_cases hlt : (Fi H i).length < k
          · have y1 : ((List.length (givenL k S H i) : Nat) : Int) < (k : Int) := by
              show ((List.length (((Fi H i).take k).map (fun q => S.getD q [])) : Nat) : Int) < _
              rw [hcl, Nat.min_eq_right (by omega)]; omega
            have y2 : fits 24 ((List.length (givenL k S H i)) + 1) = true := by
              show fits 24 ((List.length (((Fi H i).take k).map (fun q => S.getD q []))) + 1) = true
              rw [hcl]; simp [fits]; omega
            have y3 : (cellsL k H i).length ≤ 16 * 16 := by
              unfold cellsL
              have hIs := (cellsL_len (k := k) hk2 (H := H) (K := i) (by omega) (Fi H i).length (Nat.le_refl _)).len
              rw [List.take_of_length_le (Nat.le_refl _)] at hIs
              rw [List.take_of_length_le (by omega), hIs]
              exact Nat.mul_le_mul (by omega) hk2
            have y4 : (rowS k i).length = k := (rowS_vec (k := k) (i := i) hk2 (by omega)).len
            have y5 : fits 1 ((cellsL k H i).length + (rowS k i).length) = true := by simp [fits]; omega
            have y6 : (1 ≤ List.length ([(List.getD S i (EK.dflt (.sl (.int .u8))))] : List (List Int))) := Nat.le_refl 1
            have y7 : List.take 1 (List.drop 0 ([(List.getD S i (EK.dflt (.sl (.int .u8))))] : List (List Int))) = [S.getD i []] := rfl
            have c1 : cellsL k H (i + 1) = cellsL k H i ++ rowS k i := by
              unfold cellsL
              rw [hF, List.take_of_length_le (by simp; omega), List.take_of_length_le (by omega), List.map_append, List.flatten_append]
              simp
            have c2 : givenL k S H (i + 1) = givenL k S H i ++ [S.getD i []] := by
              unfold givenL
              rw [hF, List.take_of_length_le (by simp; omega), List.take_of_length_le (by omega), List.map_append]
              rfl
            rw [dT y1, cond_true, Bool.and_self, cond_true, dT y6, y7, show ([S.getD i []] : List (List Int)).length = 1 from rfl, y2, Bool.and_self, cond_true, rrow_ok (N := N) (by omega) hk hk2 hm (by omega), Option.bind_some]
            dsimp only
            rw [y5, cond_true, c1, c2]
          · have y1 : ¬ ((List.length (givenL k S H i) : Nat) : Int) < (k : Int) := by
              show ¬ ((List.length (((Fi H i).take k).map (fun q => S.getD q [])) : Nat) : Int) < _
              rw [hcl, Nat.min_eq_left (by omega)]; omega
            have ht : (Fi H (i + 1)).take k = (Fi H i).take k := by rw [hF, List.take_append_of_le_length (by omega)]
            have c1 : cellsL k H (i + 1) = cellsL k H i := by unfold cellsL; rw [ht]
            have c2 : givenL k S H (i + 1) = givenL k S H i := by unfold givenL; rw [ht]
            rw [dF y1, cond_false, c1, c2]
        rw [Bool.not_true, cond_false, dT z4]
        erw [hr8]
        rw [Option.bind_some, cond_false, Bool.and_self, cond_true]
        have hst : st (i + 1) = (S, H, (K : Int), ((List.length (List.getD S i (EK.dflt (.sl (.int .u8)))) : Nat) : Int), (((Fi H (i + 1)).length : Nat) : Int), ((i + 1 : Nat) : Int), (k : Int), (m : Int), cellsL k H (i + 1), givenL k S H (i + 1)) := by
          simp only [st, hnn]
          rw [hlI]
        rw [Bool.and_self] at hr19
        erw [hr19]
        rw [Option.bind_some, Option.bind_some, hst]
        dsimp only
        rw [hwc, wrap_succ (show i ≤ 1000000 by omega)]
    · have z1 : (i : Int) < (K : Int) := by omega
      have z2 : (0 : Int) ≤ (i : Int) := by omega
      have z3 : (i : Int) < ((H.length : Nat) : Int) := by omega
      have z4 : (i : Int) < ((S.length : Nat) : Int) := by omega
      have hd1 : List.getD H i (EK.dflt .bool) = H.getD i false := rfl
      have hp' : (!(H.getD i false) || decide ((S.getD i []).length = n0 S H K)) = false := hp
      have hb : H.getD i false = true := by
        cases hb : H.getD i false with
        | true => rfl
        | false => rw [hb] at hp'; simp at hp'
      have hlen : ¬ (S.getD i []).length = n0 S H K := by
        rw [hb] at hp'
        simpa using hp'
      have he : ¬ Fi H i = [] := fun he => hlen (n0_first hi hb he).symm
      have h5 : nn S H K i = (n0 S H K : Int) := if_neg he
      have h6 : (0 : Int) ≤ (n0 S H K : Int) := by omega
      have hlI : ¬ ((List.length (List.getD S i (EK.dflt (.sl (.int .u8)))) : Nat) : Int) = (n0 S H K : Int) := fun e => hlen (Int.ofNat.inj e)
      show granaryref03_Code_Rebuild_b0 N nx (S, H, (K : Int), nn S H K i, (((Fi H i).length : Nat) : Int), ((i : Nat) : Int), (k : Int), (m : Int), cellsL k H i, givenL k S H i) = _
      unfold granaryref03_Code_Rebuild_b0
      dsimp only
      rw [dT z1, cond_true, dT z2, dT z3, Bool.and_self, cond_true, Int.toNat_natCast, hd1, hb, Bool.not_true, cond_false, dT z4, h5, dT h6, cond_true, Bool.and_self, cond_true, dF hlI, Bool.not_false, Option.bind_some, cond_true, Option.bind_some]
    · have z1 : ¬ ((K : Int) < (K : Int)) := by omega
      show granaryref03_Code_Rebuild_b0 N nx (S, H, (K : Int), nn S H K K, (((Fi H K).length : Nat) : Int), ((K : Nat) : Int), (k : Int), (m : Int), cellsL k H K, givenL k S H K) = _
      unfold granaryref03_Code_Rebuild_b0
      dsimp only
      rw [dF z1, cond_false]
  have hev : evenB (thereL S H K) = (List.range K).all p := by
    rw [Bool.eq_iff_iff, evenB_iff]
    have hl : (thereL S H K).length = (Fi H K).length := by simp [thereL]
    constructor
    · intro h
      rw [List.all_eq_true]
      intro i hi
      have hi := List.mem_range.1 hi
      show (!(H.getD i false) || decide ((S.getD i []).length = n0 S H K)) = true
      cases hb : H.getD i false with
      | false => rfl
      | true =>
        have h1 := Fi_at hi hb
        obtain ⟨t, ht⟩ := Fi_pre H (show i + 1 ≤ K by omega)
        have h2 : (Fi H i).length < (Fi H K).length := by rw [ht, Fi_succ, if_pos hb]; simp
        have h3 := h (Fi H i).length (by omega)
        rw [thereL_get h2, h1] at h3
        have h4 : (S.getD i []).length = n0 S H K := h3
        rw [h4]; simp
    · intro h j hj
      rw [hl] at hj
      obtain ⟨h1, h2⟩ := Fi_mem hj
      have h3 := List.all_eq_true.1 h _ (List.mem_range.2 h1)
      have h4 : (!(H.getD ((Fi H K).getD j 0) false) || decide ((S.getD ((Fi H K).getD j 0) []).length = n0 S H K)) = true := h3
      rw [h2] at h4
      rw [thereL_get hj]
      exact of_decide_eq_true (by rw [Bool.not_true, Bool.false_or] at h4; exact h4)
  have hs0 : st 0 = (S, H, (K : Int), -1, 0, 0, (k : Int), (m : Int), [], []) := by
    have f0 : Fi H 0 = [] := rfl
    simp only [st, nn, cellsL, givenL, f0, if_true, List.length_nil, List.take_nil, List.map_nil, List.flatten_nil]
    rfl
  rw [hs0] at key
  rw [hev, granaryref03_Code_Rebuild_l0]
  exact key

theorem rreb_l2 {N k n : Nat} (hN : n + 200 ≤ N) (hn : n ≤ 4096) (hk2 : k ≤ 16) {T : List (List Int)} {t : Nat → Nat → G} (hT : Mat k n T t) {V : List Int} {I : Mt} (hV : Is k k V I) (S : List (List Int)) (H : List Bool) (K : Int) :
    ∃ O, granaryref03_Code_Rebuild_l2 N (S, H, K, (n : Int), 0, (k : Int), T, V, (k : Int), (k : Int), []) = some ((k : Int), T, V, (k : Int), (k : Int), O) ∧ Mat k n O (fun q x => sum k (fun l => I q l * t l x)) := by
  have e0 : ((0 : Nat) : Int) = 0 := rfl
  have hlV := hV.len
  have hkk : k * k ≤ 16 * 16 := Nat.mul_le_mul hk2 hk2
  obtain ⟨r, a1, a2⟩ := it_ex (b := granaryref03_Code_Rebuild_b2 N) (fun j a => ∃ O, a = (S, H, K, (n : Int), (j : Int), (k : Int), T, V, (k : Int), (k : Int), O) ∧ Mat j n O (fun q x => sum k (fun l => I q l * t l x))) k
    (Q := fun (r : Int × List (List Int) × List Int × Int × Int × List (List Int)) => ∃ O, r = ((k : Int), T, V, (k : Int), (k : Int), O) ∧ Mat k n O (fun q x => sum k (fun l => I q l * t l x))) (fun j a hlt ha => by
    obtain ⟨O, rfl, hO⟩ := ha
    have hlO := hO.len
    have he : (j + 1) * k = j * k + k := by rw [Nat.add_mul, Nat.one_mul]
    have hle : j * k + k ≤ k * k := by rw [← he]; exact Nat.mul_le_mul_right k hlt
    obtain ⟨X, b1, b2⟩ := mixv_ok (N := N) hN hn (by omega) (hV.rowV hlt) hT
    refine ⟨_, ⟨O ++ [X], rfl, (hO.append b2).congr (fun i hi x hx => ?_)⟩, fun nx => ?_⟩
    · by_cases h : i = j
      · subst h; rw [if_pos rfl]
      · rw [if_neg h]
    · have q1 : wrapF .i64 ((j : Int) * (k : Int)) = ((j * k : Nat) : Int) := wrap_mul (by omega)
      have q2 : wrapF .i64 ((wrapF .i64 ((j : Int) + 1)) * (k : Int)) = ((j * k + k : Nat) : Int) := by
        rw [wrap_succ (show j ≤ 1000000 by omega), wrap_mul (a := j + 1) (b := k) (by omega), he]
      have z1 : (j : Int) < (k : Int) := by omega
      have z2 : (0 : Int) ≤ ((j * k : Nat) : Int) := by omega
      have z3 : ((j * k : Nat) : Int) ≤ ((j * k + k : Nat) : Int) := by omega
      have z4 : ((j * k + k : Nat) : Int) ≤ ((V.length : Nat) : Int) := by omega
      have z6 : j * k + k ≤ V.length := by omega
      have z7 : fits 24 (O.length + [X].length) = true := by simp [fits]; omega
      unfold granaryref03_Code_Rebuild_b2
      dsimp only
      rw [dT z1, cond_true, q1, q2, dT z2, dT z3, dT z4, Bool.and_self, Bool.and_self, cond_true, Int.toNat_natCast, Int.toNat_natCast, show j * k + k - j * k = k by omega, dT z6, cond_true, cond_true, b1, Option.bind_some, z7, cond_true, wrap_succ (show j ≤ 1000000 by omega)]) (fun a ha => by
    obtain ⟨O, rfl, hO⟩ := ha
    have z1 : ¬ ((k : Int) < (k : Int)) := by omega
    refine ⟨_, ⟨O, rfl, hO⟩, fun nx => ?_⟩
    unfold granaryref03_Code_Rebuild_b2
    dsimp only
    rw [dF z1, cond_false]) N (S, H, K, (n : Int), ((0 : Nat) : Int), (k : Int), T, V, (k : Int), (k : Int), []) (by omega) ⟨[], rfl, Mat.nil _ _⟩
  obtain ⟨O, rfl, hO⟩ := a2
  rw [e0] at a1
  exact ⟨O, a1, hO⟩

theorem rreb_l4 {N k m n K : Nat} (hN : n + 400 ≤ N) (hn : n ≤ 4096) (hk : 1 ≤ k) (hk2 : k ≤ 16) (hm : m ≤ 8) (hK : K = k + m) {S : List (List Int)} {H : List Bool} {sv dd : Nat → Nat → G} (hS : S.length = K) (hB : H.length = K)
    (hG : ∀ i, i < K → H.getD i false = true → Vec n (S.getD i []) (sv i)) {D : List (List Int)} (hD : Mat k n D dd) :
    ∃ O', granaryref03_Code_Rebuild_l4 N (S, H, (K : Int), (n : Int), 0, (k : Int), (m : Int), D, []) = some ((k : Int), (m : Int), D, O') ∧ Mat K n O' (back k H sv dd) := by
  have e0 : ((0 : Nat) : Int) = 0 := rfl
  obtain ⟨r, a1, a2⟩ := it_ex (b := granaryref03_Code_Rebuild_b4 N) (fun i a => ∃ O, a = (S, H, (K : Int), (n : Int), (i : Int), (k : Int), (m : Int), D, O) ∧ Mat i n O (back k H sv dd)) K
    (Q := fun (r : Int × Int × List (List Int) × List (List Int)) => ∃ O, r = ((k : Int), (m : Int), D, O) ∧ Mat K n O (back k H sv dd)) (fun i a hlt ha => by
    obtain ⟨O, rfl, hO⟩ := ha
    have hlO := hO.len
    have z1 : (i : Int) < (K : Int) := by omega
    have z2 : (0 : Int) ≤ (i : Int) := by omega
    have z3 : (i : Int) < ((H.length : Nat) : Int) := by omega
    have z4 : (i : Int) < ((S.length : Nat) : Int) := by omega
    have hd1 : List.getD H i (EK.dflt .bool) = H.getD i false := rfl
    have hd2 : List.getD S i (EK.dflt (.sl (.int .u8))) = S.getD i [] := rfl
    have key : ∃ X, Vec n X (back k H sv dd i) ∧ ∀ nx, granaryref03_Code_Rebuild_b4 N nx (S, H, (K : Int), (n : Int), (i : Int), (k : Int), (m : Int), D, O) = nx (S, H, (K : Int), (n : Int), ((i + 1 : Nat) : Int), (k : Int), (m : Int), D, O ++ [X]) := by
      cases hb : H.getD i false
      · obtain ⟨X, b1, b2⟩ := mixv_ok (N := N) (by omega) hn (by omega) (rowS_vec (k := k) (i := i) hk2 (by omega)) hD
        refine ⟨X, b2.congr (fun x hx => by unfold back; rw [hb]; simp), fun nx => ?_⟩
        have f3 : fits 24 (O.length + [X].length) = true := by simp [fits]; omega
        unfold granaryref03_Code_Rebuild_b4
        dsimp only
        rw [dT z1, cond_true, dT z2, dT z3, Bool.and_self, cond_true, Int.toNat_natCast, hd1, hb, cond_false, rrow_ok (N := N) (by omega) hk hk2 hm (by omega), Option.bind_some]
        dsimp only
        rw [b1, Option.bind_some, f3, cond_true, Option.bind_some, wrap_succ (show i ≤ 1000000 by omega)]
      · have hv := hG i hlt hb
        refine ⟨S.getD i [], hv.congr (fun x hx => by unfold back; rw [hb]; simp), fun nx => ?_⟩
        have f1 : fits 1 (S.getD i []).length = true := by rw [hv.len]; simp [fits]; omega
        have f3 : fits 24 (O.length + [S.getD i []].length) = true := by simp [fits]; omega
        unfold granaryref03_Code_Rebuild_b4
        dsimp only
        rw [dT z1, cond_true, dT z2, dT z3, Bool.and_self, cond_true, Int.toNat_natCast, hd1, hb, cond_true, dT z4, Bool.and_self, cond_true, hd2, f1, cond_true, f3, cond_true, Option.bind_some, wrap_succ (show i ≤ 1000000 by omega)]
    obtain ⟨X, hX, hs⟩ := key
    refine ⟨_, ⟨O ++ [X], rfl, (hO.append hX).congr (fun a ha x hx => ?_)⟩, hs⟩
    by_cases h : a = i
    · subst h; rw [if_pos rfl]
    · rw [if_neg h]) (fun a ha => by
    obtain ⟨O, rfl, hO⟩ := ha
    have z1 : ¬ ((K : Int) < (K : Int)) := by omega
    refine ⟨_, ⟨O, rfl, hO⟩, fun nx => ?_⟩
    unfold granaryref03_Code_Rebuild_b4
    dsimp only
    rw [dF z1, cond_false]) N (S, H, (K : Int), (n : Int), ((0 : Nat) : Int), (k : Int), (m : Int), D, []) (by omega) ⟨[], rfl, Mat.nil _ _⟩
  obtain ⟨O, rfl, hO⟩ := a2
  rw [e0] at a1
  exact ⟨O, a1, hO⟩

/-- Both Rebuilds, whatever comes in. -/
theorem reb_both {N k m : Nat} (hN : 20000 ≤ N) (hk : 1 ≤ k) (hk2 : k ≤ 16) (hm : m ≤ 8) {S : List (List Int)} (hSm : Sm S) {H : List Bool} (hHl : H.length ≤ 30) :
    ∃ (e : Int) (P : List (List Int)), rs_Code_Rebuild N (S, H, (k : Int), (m : Int), rowsF k m) = some (e, (k : Int), (m : Int), rowsF k m, P) ∧ granaryref03_Code_Rebuild N (S, H, (k : Int), (m : Int)) = some (e, (k : Int), (m : Int), P) ∧ Sm P ∧ P.length ≤ 30 := by
  have hnil : Sm ([] : List (List Int)) := ⟨by simp, fun r hr => (by cases hr), fun r hr => (by cases hr)⟩
  have e0 : ((0 : Nat) : Int) = 0 := rfl
  have w1 : wrapF .i64 ((k : Int) + (m : Int)) = ((k + m : Nat) : Int) := by rw [show (k : Int) + (m : Int) = ((k + m : Nat) : Int) by omega]; exact wrap_nat (by omega)
  by_cases h1 : S.length = k + m
  · by_cases h2 : H.length = k + m
    · obtain ⟨K, hK⟩ : ∃ K, K = k + m := ⟨_, rfl⟩
      rw [← hK] at h1 h2 w1
      have z1 : ((S.length : Nat) : Int) = (K : Int) := by omega
      have z2 : ((H.length : Nat) : Int) = (K : Int) := by omega
      have a1 := rebuild_l0 (N := N) (by omega) (Bx := H) h1 h2 K N 0 (by omega) (by omega)
      rw [e0, List.range_zero, List.filter_nil, List.map_nil, List.map_nil] at a1
      have a1' : rs_Code_Rebuild_l0 N (S, H, H, (K : Int), 0, [], []) = some (thereL S H K, (Fi H K).map (fun q : Nat => (q : Int))) := a1
      have b1 := rreb_l0 hN hk hk2 hm hK hSm h1 h2
      have hTl : (thereL S H K).length = (Fi H K).length := by simp [thereL]
      have hFK := Fi_le H K
      have hTsm : Sm (thereL S H K) := by
        refine ⟨by omega, fun r hr => ?_, fun r hr => ?_⟩
        · simp only [thereL, List.mem_map] at hr
          obtain ⟨q, hq, rfl⟩ := hr
          have := List.mem_range.1 (List.mem_filter.1 hq).1
          exact hSm.get (by omega)
        · simp only [thereL, List.mem_map] at hr
          obtain ⟨q, hq, rfl⟩ := hr
          have := List.mem_range.1 (List.mem_filter.1 hq).1
          exact hSm.byt _ (getD_mem (by omega))
      have hev := evenG (N := N) (by omega) hTsm
      rw [show ((thereL S H K).getD 0 []).length = n0 S H K from rfl] at hev
      -- the heads of both
      have hrs : rs_Code_Rebuild N (S, H, (k : Int), (m : Int), rowsF k m) = (Option.bind (rs_even N (thereL S H K)) fun r10 =>
          (cond (!(decide (r10.2 = (0 : Int)))) (some (r10.2, (k : Int), (m : Int), rowsF k m, ([] : List (List Int))))
          (cond (decide ((((List.length (thereL S H K)) : Nat) : Int) < (k : Int))) (some ((30 : Int), (k : Int), (m : Int), rowsF k m, ([] : List (List Int))))
          (cond ((decide ((0 : Int) ≤ (k : Int))) && (decide ((k : Int) ≤ (((List.length (thereL S H K)) : Nat) : Int))))
          (cond ((decide ((0 : Int) ≤ (k : Int))) && (decide ((k : Int) ≤ (((List.length ((Fi H K).map (fun q : Nat => (q : Int)))) : Nat) : Int))))
          (cond (((decide ((0 + Int.toNat (k : Int)) ≤ (List.length (thereL S H K)))) && ((decide ((0 + Int.toNat (k : Int)) ≤ (List.length ((Fi H K).map (fun q : Nat => (q : Int)))))) && true)) && true)
          (Option.bind (rs_Code_solve N ((List.take (Int.toNat (k : Int)) (List.drop 0 (thereL S H K))), (List.take (Int.toNat (k : Int)) (List.drop 0 ((Fi H K).map (fun q : Nat => (q : Int))))), r10.1, (k : Int), (m : Int), rowsF k m)) fun r16 =>
          (cond (!(decide (r16.1 = (0 : Int)))) (some (r16.1, r16.2.1, r16.2.2.1, r16.2.2.2.1, ([] : List (List Int))))
          (Option.bind (rs_Code_Rebuild_l3 N (S, r10.1, H, (((List.length H) : Nat) : Int), (0 : Int), r16.2.1, r16.2.2.1, r16.2.2.2.1, r16.2.2.2.2, ([] : List (List Int)))) fun r20 =>
          (some ((0 : Int), r20.1, r20.2.1, r20.2.2.1, r20.2.2.2.2))))) none) none) none)))) := by
        unfold rs_Code_Rebuild
        dsimp only
        rw [w1, z1, z2, dT rfl, Bool.not_true, cond_false, Option.bind_some, cond_false, a1', Option.bind_some]
        rfl
      have hrf : granaryref03_Code_Rebuild N (S, H, (k : Int), (m : Int)) = (cond (evenB (thereL S H K))
          (cond (decide ((4096 : Int) < nn S H K K)) (some ((1 : Int), (k : Int), (m : Int), ([] : List (List Int))))
          (cond (decide ((((Fi H K).length : Nat) : Int) < (k : Int))) (some ((30 : Int), (k : Int), (m : Int), ([] : List (List Int))))
          (Option.bind (granaryref02_Inverse N ((k : Int), (k : Int), cellsL k H K)) fun r12 =>
          (Option.bind (granaryref03_Code_Rebuild_l2 N (S, H, (K : Int), nn S H K K, (0 : Int), (k : Int), givenL k S H K, r12.2.2.2, r12.1, r12.2.1, ([] : List (List Int)))) fun r13 =>
          (Option.bind (granaryref03_Code_Rebuild_l4 N (S, H, (K : Int), nn S H K K, (0 : Int), r13.1, (m : Int), r13.2.2.2.2.2, ([] : List (List Int)))) fun r14 =>
          (some ((0 : Int), r14.1, r14.2.1, r14.2.2.2)))))))
          (some ((2 : Int), (k : Int), (m : Int), ([] : List (List Int))))) := by
        unfold granaryref03_Code_Rebuild
        dsimp only
        rw [w1, z1, z2, dT rfl, Bool.not_true, cond_false, Option.bind_some, cond_false, b1, Option.bind_some]
        cases evenB (thereL S H K) <;> rfl
      rw [hrs, hrf, hev]
      cases hb : evenB (thereL S H K) with
      | false => exact ⟨2, [], rfl, rfl, hnil, by simp⟩
      | true =>
        rw [cond_true, cond_true]
        have hn0 : nn S H K K ≤ (n0 S H K : Int) := by
          unfold nn
          split <;> omega
        by_cases hn : n0 S H K ≤ 4096
        · rw [if_pos hn, Option.bind_some, dF (show ¬ (4096 : Int) < nn S H K K by omega), cond_false]
          dsimp only
          rw [dT rfl, Bool.not_true, cond_false, hTl]
          by_cases hfew : (Fi H K).length < k
          · have z3 : (((Fi H K).length : Nat) : Int) < (k : Int) := by omega
            rw [dT z3]
            exact ⟨30, [], rfl, rfl, hnil, by simp⟩
          · have z3 : ¬ (((Fi H K).length : Nat) : Int) < (k : Int) := by omega
            have hne : ¬ Fi H K = [] := fun e => by rw [e] at hfew; simp at hfew; omega
            have hnn : nn S H K K = (n0 S H K : Int) := if_neg hne
            obtain ⟨s, hM⟩ := Mat.of hTsm hb
            rw [hTl, show ((thereL S H K).getD 0 []).length = n0 S H K from rfl] at hM
            have hMk := hM.take (show k ≤ (Fi H K).length by omega)
            have hWh : ∀ i, i < k → (List.take k ((Fi H K).map (fun q : Nat => (q : Int)))).getD i 0 = (((Fi H K).getD i 0 : Nat) : Int) ∧ (Fi H K).getD i 0 < k + m := by
              intro i hi
              have hi2 : i < (Fi H K).length := by omega
              refine ⟨?_, by have := (Fi_mem (H := H) (K := K) hi2).1; omega⟩
              rw [List.getD_eq_getElem?_getD, List.getElem?_take_of_lt hi, List.getElem?_map, List.getElem?_eq_getElem hi2, List.getD_eq_getElem?_getD, List.getElem?_eq_getElem hi2]; rfl
            obtain ⟨D, I, d1, d2, d3⟩ := solve_gen (N := N) (by omega) hn hk hk2 hm (Wl := List.take k ((Fi H K).map (fun q : Nat => (q : Int)))) (W := fun i => (Fi H K).getD i 0) (by simp; omega) hWh (fun i j hij hj => Nat.ne_of_lt (Fi_lt hij (by omega))) hMk
            -- the document's inverse
            have hC := cellsL_len (k := k) hk2 (H := H) (K := K) (by omega) k (by omega)
            obtain ⟨r, r1, r2⟩ := refInverse_ok (N := N) (by omega) hk (by omega) hC
            obtain rfl := d2.rank r1
            rcases r2 with ⟨r3, _⟩ | ⟨_, V, J, r4, r5, r6⟩
            · omega
            have r5' := r5.congr (r6.unique d2)
            have hgl : givenL r S H K = List.take r (thereL S H K) := by unfold givenL thereL; rw [List.map_take]
            obtain ⟨D2, f1, f2⟩ := rreb_l2 (N := N) (by omega) hn hk2 hMk r5' S H (K : Int)
            have hDD : D2 = D := f2.ext d3 (fun _ _ _ _ => rfl)
            subst hDD
            have hG : ∀ i, i < K → H.getD i false = true → Vec (n0 S H K) (S.getD i []) (fun j => G.of ((S.getD i []).getD j 0).toNat) := by
              intro i hi hbi
              have h3 := Fi_at hi hbi
              obtain ⟨t, ht⟩ := Fi_pre H (show i + 1 ≤ K by omega)
              have h4 : (Fi H i).length < (Fi H K).length := by rw [ht, Fi_succ, if_pos hbi]; simp
              have h5 := (hM.row _ h4).len
              rw [thereL_get h4, h3] at h5
              have h6 := Vec.of (L := S.getD i []) (hSm.byt _ (getD_mem (by omega)))
              rw [h5] at h6
              exact h6
            obtain ⟨O, o1, o2⟩ := reb_l3 (N := N) (by omega) hn hk hk2 hm hK h1 h2 hG d3
            obtain ⟨O2, p1, p2⟩ := rreb_l4 (N := N) (by omega) hn hk hk2 hm hK h1 h2 hG d3
            have hOO : O2 = O := p2.ext o2 (fun _ _ _ _ => rfl)
            subst hOO
            have z4 : (0 : Int) ≤ (r : Int) := by omega
            have z5 : (r : Int) ≤ (((Fi H K).length : Nat) : Int) := by omega
            have z6 : (r : Int) ≤ (((List.length ((Fi H K).map (fun q : Nat => (q : Int)))) : Nat) : Int) := by rw [List.length_map]; omega
            have z7 : (0 + r) ≤ (Fi H K).length := by omega
            have z8 : (0 + r) ≤ (List.length ((Fi H K).map (fun q : Nat => (q : Int)))) := by rw [List.length_map]; omega
            refine ⟨0, O2, ?_, ?_, Mat.sm o2 (by omega) (by omega), by rw [o2.len]; omega⟩
            · rw [dF z3, cond_false, dT z4, dT z5, Bool.and_self, cond_true, dT z6, Bool.and_self, cond_true, Int.toNat_natCast, dT z7, dT z8, Bool.and_self, Bool.and_self, Bool.and_self, cond_true, List.drop_zero, List.drop_zero, d1, Option.bind_some]
              dsimp only
              rw [dT rfl, Bool.not_true, cond_false, z2, o1, Option.bind_some]
            · rw [dF z3, cond_false, show cellsL r H K = (((Fi H K).take r).map (rowS r)).flatten from rfl, r4, Option.bind_some]
              dsimp only
              rw [hnn, hgl, f1, Option.bind_some]
              dsimp only
              rw [p1, Option.bind_some]
        · have hne : ¬ Fi H K = [] := fun e => by
            have : n0 S H K = 0 := by unfold n0 thereL; rw [e]; rfl
            omega
          have hnn : nn S H K K = (n0 S H K : Int) := if_neg hne
          rw [if_neg hn, Option.bind_some, hnn, dT (show (4096 : Int) < (n0 S H K : Int) by omega)]
          exact ⟨1, [], rfl, rfl, hnil, by simp⟩
    · have z1 : ((S.length : Nat) : Int) = ((k + m : Nat) : Int) := by omega
      have z2 : ¬ ((H.length : Nat) : Int) = ((k + m : Nat) : Int) := by omega
      refine ⟨2, [], ?_, ?_, hnil, by simp⟩
      · unfold rs_Code_Rebuild
        dsimp only
        rw [w1, dT z1, Bool.not_true, cond_false, dF z2]; rfl
      · unfold granaryref03_Code_Rebuild
        dsimp only
        rw [w1, dT z1, Bool.not_true, cond_false, dF z2]; rfl
  · have z1 : ¬ ((S.length : Nat) : Int) = ((k + m : Nat) : Int) := by omega
    refine ⟨2, [], ?_, ?_, hnil, by simp⟩
    · unfold rs_Code_Rebuild
      dsimp only
      rw [w1, dF z1]; rfl
    · unfold granaryref03_Code_Rebuild
      dsimp only
      rw [w1, dF z1]; rfl

end Go.Rf.W.Pure
