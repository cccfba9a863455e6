/-
  Package rs: a code's rows (out of the law of rows).
-/
import Derived.Test.YtoabbnfjnjbjfaaPlRsLog
import Derived.Test.YtoabbnfjnjbjfaaPlBase
set_option linter.unusedVariables false
set_option maxRecDepth 10000
namespace Go.Rf.W.Pure
open Go Go.Rf Go.Rf.W

theorem rs_iter {A R : Type} {b : (A → Option R) → A → Option R} (st : Nat → A) (n : Nat) {r : R} (hs : ∀ i, i < n → ∀ nx, b nx (st i) = nx (st (i + 1))) (he : ∀ nx, b nx (st n) = some r) : ∀ f, n < f → loopF b f (st 0) = some r := by
  have key : ∀ d i f, i + d = n → d < f → loopF b f (st i) = some r := by
    intro d
    induction d with
    | zero =>
      intro i f hi hf
      obtain ⟨f, rfl⟩ : ∃ g, f = g + 1 := ⟨f - 1, by omega⟩
      have : i = n := by omega
      subst this
      exact he _
    | succ d ih =>
      intro i f hi hf
      obtain ⟨f, rfl⟩ : ∃ g, f = g + 1 := ⟨f - 1, by omega⟩
      show b (loopF b f) (st i) = _
      rw [hs i (by omega)]
      exact ih (i + 1) f (by omega) (by omega)
  exact fun f hf => key n 0 f (by omega) hf

def iv (a : Nat) : Int := if a = 0 then 0 else ((Gf.pow a 254 : Nat) : Int)
/-- The rows of parity. -/
def rowsF (k m : Nat) : List Int := (List.range (m * k)).map fun q => iv ((k + q / k) ^^^ (q % k))
def tk (L : List Int) (q : Nat) : List Int := L.take q ++ List.replicate (L.length - q) 0

theorem tk_length (L : List Int) {q : Nat} (h : q ≤ L.length) : (tk L q).length = L.length := by unfold tk; simp; omega
theorem tk_set {L : List Int} {q : Nat} (h : q < L.length) : (tk L q).set q (L.getD q 0) = tk L (q + 1) := by
  unfold tk
  have t : L.take (q + 1) = L.take q ++ [L.getD q 0] := by
    rw [List.take_add_one, List.getD, List.getElem?_eq_getElem h]; rfl
  rw [t, List.set_append_right _ _ (by simp; omega), List.length_take, Nat.min_eq_left (by omega), Nat.sub_self, show L.length - q = (L.length - (q + 1)) + 1 by omega, List.replicate_succ, List.set_cons_zero]
  simp
theorem tk_zero (L : List Int) : tk L 0 = List.replicate L.length 0 := by simp [tk]
theorem tk_all (L : List Int) : tk L L.length = L := by simp [tk]

theorem rowsF_length (k m : Nat) : (rowsF k m).length = m * k := by simp [rowsF]
theorem rowsF_get {k m p j : Nat} (hp : p < m) (hj : j < k) : p * k + j < m * k ∧ (rowsF k m).getD (p * k + j) 0 = iv ((k + p) ^^^ j) := by
  have h1 : (p + 1) * k ≤ m * k := Nat.mul_le_mul_right k hp
  rw [Nat.add_mul, Nat.one_mul] at h1
  have h2 : p * k + j < m * k := by omega
  refine ⟨h2, ?_⟩
  unfold rowsF
  rw [List.getD, List.getElem?_map, List.getElem?_range h2]
  show iv ((k + (p * k + j) / k) ^^^ ((p * k + j) % k)) = _
  have e1 : (p * k + j) / k = p := by
    rw [Nat.mul_comm, Nat.mul_add_div (by omega), Nat.div_eq_of_lt hj, Nat.add_zero]
  have e2 : (p * k + j) % k = j := by
    rw [Nat.mul_comm, Nat.mul_add_mod, Nat.mod_eq_of_lt hj]
  rw [e1, e2]

theorem x8 {a b : Nat} (ha : a < 256) (hb : b < 256) : a ^^^ b < 256 := Nat.xor_lt_two_pow (n := 8) ha hb
theorem inv_iv {N a : Nat} (hN : 300 < N) (ha : a < 256) : ∃ e, gf_Inv N (a : Int) = some (iv a, e) := by
  rw [gf_Inv_eq (by omega) ha]
  unfold iv
  by_cases h : a = 0
  · rw [if_pos h, if_pos h]; exact ⟨20, rfl⟩
  · rw [if_neg h, if_neg h]; exact ⟨0, rfl⟩
theorem new_l2 {N k m p : Nat} (hN : 300 < N) (hk : 1 ≤ k) (hk2 : k ≤ 16) (hm : m ≤ 8) (hp : p < m) :
    rs_New_l2 N ((k : Int), (p : Int), (m : Int), (p : Int), (k : Int), 0, tk (rowsF k m) (p * k), (k : Int), (m : Int)) = some (tk (rowsF k m) ((p + 1) * k), (k : Int), (m : Int)) := by
  have hpk : p * k ≤ 128 := Nat.le_trans (Nat.mul_le_mul (by omega : p ≤ 8) hk2) (by decide)
  have hmk : m * k ≤ 128 := Nat.le_trans (Nat.mul_le_mul hm hk2) (by decide)
  have hl := rowsF_length k m
  have he : (p + 1) * k = p * k + k := by rw [Nat.add_mul, Nat.one_mul]
  have hle : p * k + k ≤ m * k := by rw [← he]; exact Nat.mul_le_mul_right k hp
  rw [he]
  refine rs_iter (b := rs_New_b2 N) (r := (tk (rowsF k m) (p * k + k), (k : Int), (m : Int))) (fun j => ((k : Int), (p : Int), (m : Int), (p : Int), (k : Int), (j : Int), tk (rowsF k m) (p * k + j), (k : Int), (m : Int))) k (fun j hj nx => ?_) (fun nx => ?_) N (by omega)
  · obtain ⟨h1, h2⟩ := rowsF_get hp hj
    have hx : (k + p) ^^^ j < 256 := x8 (by omega) (by omega)
    obtain ⟨e, hi⟩ := inv_iv (N := N) hN hx
    have e1 : wrapF .i64 (wrapF .i64 ((p : Int) * (k : Int)) + (j : Int)) = ((p * k + j : Nat) : Int) := by
      have : (p : Int) * (k : Int) = ((p * k : Nat) : Int) := by simp
      rw [this, wrapF_i64 (n := ((p * k : Nat) : Int)) (by omega) (by omega), wrapF_i64 (by omega) (by omega)]; omega
    have e2 : wrapF .u8 (wrapF .i64 ((k : Int) + (p : Int))) = ((k + p : Nat) : Int) := by
      rw [wrapF_i64 (by omega) (by omega), wrapF_u8 (by omega) (by omega)]; omega
    have e3 : wrapF .u8 (j : Int) = (j : Int) := wrapF_u8 (by omega) (by omega)
    have e4 : wrapF .i64 ((j : Int) + 1) = ((j + 1 : Nat) : Int) := by rw [wrapF_i64 (by omega) (by omega)]; omega
    have hlt : (tk (rowsF k m) (p * k + j)).length = m * k := by rw [tk_length _ (by omega), hl]
    unfold rs_New_b2
    dsimp only
    rw [deT (p := (j : Int) < (k : Int)) (by omega), cond_true, e1, e2, e3, gf_Add_eq (by omega) (by omega), Option.bind_some, hi, Option.bind_some, deT (p := (0 : Int) ≤ ((p * k + j : Nat) : Int)) (by omega), deT (by rw [hlt]; omega), Bool.and_self, cond_true, Int.toNat_natCast, deT (by rw [hlt]; exact h1), cond_true, e4]
    dsimp only
    rw [← h2, tk_set (by omega)]
    rfl
  · unfold rs_New_b2
    dsimp only
    rw [deF (p := (k : Int) < (k : Int)) (by omega), cond_false]

theorem new_ok {N k m : Nat} (hN : 300 < N) (hk : 1 ≤ k) (hk2 : k ≤ 16) (hm : m ≤ 8) : rs_New N ((k : Int), (m : Int)) = some (.inr ((k : Int), (m : Int), rowsF k m)) := by
  have hmk : m * k ≤ 128 := Nat.le_trans (Nat.mul_le_mul hm hk2) (by decide)
  have hl := rowsF_length k m
  have key : rs_New_l0 N ((k : Int), (m : Int), 0, List.replicate (m * k) 0, (k : Int), (m : Int)) = some (rowsF k m, (k : Int), (m : Int)) := by
    have h := rs_iter (b := rs_New_b0 N) (r := (tk (rowsF k m) (m * k), (k : Int), (m : Int))) (fun p => ((k : Int), (m : Int), (p : Int), tk (rowsF k m) (p * k), (k : Int), (m : Int))) m (fun p hp nx => ?_) (fun nx => ?_) N (by omega)
    · rw [show tk (rowsF k m) (m * k) = rowsF k m by rw [← hl]; exact tk_all _] at h
      rw [← h]
      show _ = loopF (rs_New_b0 N) N ((k : Int), (m : Int), ((0 : Nat) : Int), tk (rowsF k m) (0 * k), (k : Int), (m : Int))
      rw [Nat.zero_mul, tk_zero, hl]
      rfl
    · unfold rs_New_b0
      dsimp only
      rw [deT (p := (p : Int) < (m : Int)) (by omega), cond_true, new_l2 hN hk hk2 hm hp, Option.bind_some, wrapF_i64 (by omega) (by omega)]
      rfl
    · unfold rs_New_b0
      dsimp only
      rw [deF (p := (m : Int) < (m : Int)) (by omega), cond_false]
  unfold rs_New
  dsimp only
  have e1 : wrapF .i64 ((m : Int) * (k : Int)) = ((m * k : Nat) : Int) := by
    have : (m : Int) * (k : Int) = ((m * k : Nat) : Int) := by simp
    rw [this, wrapF_i64 (by omega) (by omega)]
  have hf : fits 1 (m * k) = true := by simp [fits]; omega
  rw [deF (p := (k : Int) < 1) (by omega), cond_false, deF (p := (16 : Int) < (k : Int)) (by omega), cond_false, deF (p := (m : Int) < 0) (by omega), cond_false, deF (p := (8 : Int) < (m : Int)) (by omega), Option.bind_some, cond_false, e1, deT (p := (0 : Int) ≤ ((m * k : Nat) : Int)) (by omega), Int.toNat_natCast, hf, Bool.and_self, cond_true, show (EK.dflt (.int .u8)) = (0 : Int) from rfl, key]
  rfl

/-- A row. -/
def rowS (k i : Nat) : List Int := if i < k then (List.replicate k 0).set i 1 else (List.range k).map fun j => iv (i ^^^ j)

theorem rsrow_ok {k m i : Nat} (hk : 1 ≤ k) (hk2 : k ≤ 16) (hm : m ≤ 8) (hi : i < k + m) : rs_Code_Row ((i : Int), (k : Int), (m : Int), rowsF k m) = some ((k : Int), (m : Int), rowsF k m, rowS k i) := by
  have hmk : m * k ≤ 128 := Nat.le_trans (Nat.mul_le_mul hm hk2) (by decide)
  have hl := rowsF_length k m
  unfold rs_Code_Row rowS
  dsimp only
  have hf : fits 1 k = true := by simp [fits]; omega
  rw [deF (p := (i : Int) < 0) (by omega), cond_false, wrapF_i64 (by omega) (by omega), deF (p := (k : Int) + (m : Int) ≤ (i : Int)) (by omega), Option.bind_some, cond_false, deT (p := (0 : Int) ≤ (k : Int)) (by omega), Int.toNat_natCast, hf, Bool.and_self, cond_true, show (EK.dflt (.int .u8)) = (0 : Int) from rfl]
  by_cases h : i < k
  · rw [deT (p := (i : Int) < (k : Int)) (by omega), cond_true, if_pos h, deT (p := (0 : Int) ≤ (i : Int)) (by omega), deT (by rw [List.length_replicate]; omega), Bool.and_self, cond_true, Int.toNat_natCast, deT (by rw [List.length_replicate]; exact h), cond_true]
  · rw [deF (p := (i : Int) < (k : Int)) (by omega), cond_false, if_neg h]
    obtain ⟨p, rfl⟩ : ∃ p, i = k + p := ⟨i - k, by omega⟩
    have hp : p < m := by omega
    have he : (p + 1) * k = p * k + k := by rw [Nat.add_mul, Nat.one_mul]
    have hle : p * k + k ≤ m * k := by rw [← he]; exact Nat.mul_le_mul_right k hp
    have ep : wrapF .i64 (((k + p : Nat) : Int) - (k : Int)) = (p : Int) := by rw [wrapF_i64 (by omega) (by omega)]; omega
    have hpar : rs_Code_parity ((p : Int), (k : Int), (m : Int), rowsF k m) = some (p * k, k, (k : Int), (m : Int), rowsF k m) := by
      have q1 : (p : Int) * (k : Int) = ((p * k : Nat) : Int) := by simp
      have q2 : wrapF .i64 ((p : Int) + 1) * (k : Int) = ((p * k + k : Nat) : Int) := by
        rw [wrapF_i64 (by omega) (by omega), Int.add_mul, q1, Int.one_mul]; omega
      unfold rs_Code_parity
      dsimp only
      rw [q1, q2, wrapF_i64 (n := ((p * k : Nat) : Int)) (by omega) (by omega), wrapF_i64 (n := ((p * k + k : Nat) : Int)) (by omega) (by omega), hl]
      simp only [Int.toNat_natCast]
      rw [deT (p := (0 : Int) ≤ ((p * k : Nat) : Int)) (by omega), deT (p := ((p * k : Nat) : Int) ≤ ((p * k + k : Nat) : Int)) (by omega), deT (p := ((p * k + k : Nat) : Int) ≤ ((m * k : Nat) : Int)) (by omega)]
      simp
    have hX : List.take k (List.drop (p * k) (rowsF k m)) = (List.range k).map fun j => iv ((k + p) ^^^ j) := by
      apply List.ext_getElem?
      intro j
      rw [List.getElem?_take, List.getElem?_map]
      by_cases hj : j < k
      · obtain ⟨h1, h2⟩ := rowsF_get hp hj
        rw [if_pos hj, List.getElem?_drop, List.getElem?_range hj, List.getElem?_eq_getElem (by omega)]
        rw [List.getD, List.getElem?_eq_getElem (by omega)] at h2
        exact congrArg some h2
      · rw [if_neg hj, List.getElem?_eq_none (by simp; omega)]; rfl
    rw [ep, hpar, Option.bind_some]
    dsimp only
    rw [hX]
    simp only [List.length_map, List.length_range, List.length_replicate, Nat.min_self, List.take_zero, List.nil_append, Nat.zero_add]
    rw [deT (by omega), deT (Nat.le_refl k), Bool.and_self, cond_true, List.take_of_length_le (by simp), List.drop_of_length_le (by simp), List.append_nil]


end Go.Rf.W.Pure
