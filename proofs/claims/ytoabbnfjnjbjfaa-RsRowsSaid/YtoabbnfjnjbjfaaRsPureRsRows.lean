/-
  RsRows, plain: every code, every row.
-/
import Derived.Test.YtoabbnfjnjbjfaaRsFRsRows
import Derived.Test.YtoabbnfjnjbjfaaPlRsLog
import Derived.Test.YtoabbnfjnjbjfaaPlRs
import Derived.Test.YtoabbnfjnjbjfaaRfC
set_option linter.unusedVariables false
set_option maxRecDepth 10000
namespace Go.Rf.W.Pure
open Go Go.Rf Go.Rf.W

theorem rs_iter {A R : Type} {b : (A → Option R) → A → Option R} (st : Nat → A) (n : Nat) {r : R} (hs : ∀ i, i < n → ∀ nx, b nx (st i) = nx (st (i + 1))) (he : ∀ nx, b nx (st n) = some r) : ∀ f, n < f → loopF b f (st 0) = some r := by
  have key : ∀ d i f, i + d = n → d < f → loopF b f (st i) = some r := by
    intro d
    induction d with
    | zero =>
      intro i f hi hf
      obtain ⟨f, rfl⟩ : ∃ g, f = g + 1 := ⟨f - 1, by omega⟩
      have : i = n := by omega
      subst this
      exact he _
    | succ d ih =>
      intro i f hi hf
      obtain ⟨f, rfl⟩ : ∃ g, f = g + 1 := ⟨f - 1, by omega⟩
      show b (loopF b f) (st i) = _
      rw [hs i (by omega)]
      exact ih (i + 1) f (by omega) (by omega)
  exact fun f hf => key n 0 f (by omega) hf

def iv (a : Nat) : Int := if a = 0 then 0 else ((Gf.pow a 254 : Nat) : Int)
/-- The rows of parity. -/
def rowsF (k m : Nat) : List Int := (List.range (m * k)).map fun q => iv ((k + q / k) ^^^ (q % k))
def tk (L : List Int) (q : Nat) : List Int := L.take q ++ List.replicate (L.length - q) 0

theorem tk_length (L : List Int) {q : Nat} (h : q ≤ L.length) : (tk L q).length = L.length := by unfold tk; simp; omega
theorem tk_set {L : List Int} {q : Nat} (h : q < L.length) : (tk L q).set q (L.getD q 0) = tk L (q + 1) := by
  unfold tk
  have t : L.take (q + 1) = L.take q ++ [L.getD q 0] := by
    rw [List.take_add_one, List.getD, List.getElem?_eq_getElem h]; rfl
  rw [t, List.set_append_right _ _ (by simp; omega), List.length_take, Nat.min_eq_left (by omega), Nat.sub_self, show L.length - q = (L.length - (q + 1)) + 1 by omega, List.replicate_succ, List.set_cons_zero]
  simp
theorem tk_zero (L : List Int) : tk L 0 = List.replicate L.length 0 := by simp [tk]
theorem tk_all (L : List Int) : tk L L.length = L := by simp [tk]

theorem rowsF_length (k m : Nat) : (rowsF k m).length = m * k := by simp [rowsF]
theorem rowsF_get {k m p j : Nat} (hp : p < m) (hj : j < k) : p * k + j < m * k ∧ (rowsF k m).getD (p * k + j) 0 = iv ((k + p) ^^^ j) := by
  have h1 : (p + 1) * k ≤ m * k := Nat.mul_le_mul_right k hp
  rw [Nat.add_mul, Nat.one_mul] at h1
  have h2 : p * k + j < m * k := by omega
  refine ⟨h2, ?_⟩
  unfold rowsF
  rw [List.getD, List.getElem?_map, List.getElem?_range h2]
  show iv ((k + (p * k + j) / k) ^^^ ((p * k + j) % k)) = _
  have e1 : (p * k + j) / k = p := by
    rw [Nat.mul_comm, Nat.mul_add_div (by omega), Nat.div_eq_of_lt hj, Nat.add_zero]
  have e2 : (p * k + j) % k = j := by
    rw [Nat.mul_comm, Nat.mul_add_mod, Nat.mod_eq_of_lt hj]
  rw [e1, e2]

theorem x8 {a b : Nat} (ha : a < 256) (hb : b < 256) : a ^^^ b < 256 := Nat.xor_lt_two_pow (n := 8) ha hb
theorem inv_iv {N a : Nat} (hN : 300 < N) (ha : a < 256) : ∃ e, gf_Inv N (a : Int) = some (iv a, e) := by
  rw [gf_Inv_eq (by omega) ha]
  unfold iv
  by_cases h : a = 0
  · rw [if_pos h, if_pos h]; exact ⟨20, rfl⟩
  · rw [if_neg h, if_neg h]; exact ⟨0, rfl⟩
theorem rinv_iv {N a : Nat} (hN : 300 < N) (ha : a < 256) : ∃ e, granaryref02_Inv N (a : Int) = some (iv a, e) := by
  rw [refInv_eq (by omega) ha]
  unfold iv
  by_cases h : a = 0
  · rw [if_pos h, if_pos h]; exact ⟨20, rfl⟩
  · rw [if_neg h, if_neg h]; exact ⟨0, rfl⟩

theorem new_l2 {N k m p : Nat} (hN : 300 < N) (hk : 1 ≤ k) (hk2 : k ≤ 16) (hm : m ≤ 8) (hp : p < m) :
    rs_New_l2 N ((k : Int), (p : Int), (m : Int), (p : Int), (k : Int), 0, tk (rowsF k m) (p * k), (k : Int), (m : Int)) = some (tk (rowsF k m) ((p + 1) * k), (k : Int), (m : Int)) := by
  have hpk : p * k ≤ 128 := Nat.le_trans (Nat.mul_le_mul (by omega : p ≤ 8) hk2) (by decide)
  have hmk : m * k ≤ 128 := Nat.le_trans (Nat.mul_le_mul hm hk2) (by decide)
  have hl := rowsF_length k m
  have he : (p + 1) * k = p * k + k := by rw [Nat.add_mul, Nat.one_mul]
  have hle : p * k + k ≤ m * k := by rw [← he]; exact Nat.mul_le_mul_right k hp
  rw [he]
  refine rs_iter (b := rs_New_b2 N) (r := (tk (rowsF k m) (p * k + k), (k : Int), (m : Int))) (fun j => ((k : Int), (p : Int), (m : Int), (p : Int), (k : Int), (j : Int), tk (rowsF k m) (p * k + j), (k : Int), (m : Int))) k (fun j hj nx => ?_) (fun nx => ?_) N (by omega)
  · obtain ⟨h1, h2⟩ := rowsF_get hp hj
    have hx : (k + p) ^^^ j < 256 := x8 (by omega) (by omega)
    obtain ⟨e, hi⟩ := inv_iv (N := N) hN hx
    have e1 : wrapF .i64 (wrapF .i64 ((p : Int) * (k : Int)) + (j : Int)) = ((p * k + j : Nat) : Int) := by
      have : (p : Int) * (k : Int) = ((p * k : Nat) : Int) := by simp
      rw [this, wrapF_i64 (n := ((p * k : Nat) : Int)) (by omega) (by omega), wrapF_i64 (by omega) (by omega)]; omega
    have e2 : wrapF .u8 (wrapF .i64 ((k : Int) + (p : Int))) = ((k + p : Nat) : Int) := by
      rw [wrapF_i64 (by omega) (by omega), wrapF_u8 (by omega) (by omega)]; omega
    have e3 : wrapF .u8 (j : Int) = (j : Int) := wrapF_u8 (by omega) (by omega)
    have e4 : wrapF .i64 ((j : Int) + 1) = ((j + 1 : Nat) : Int) := by rw [wrapF_i64 (by omega) (by omega)]; omega
    have hlt : (tk (rowsF k m) (p * k + j)).length = m * k := by rw [tk_length _ (by omega), hl]
    unfold rs_New_b2
    dsimp only
    rw [deT (p := (j : Int) < (k : Int)) (by omega), cond_true, e1, e2, e3, gf_Add_eq (by omega) (by omega), Option.bind_some, hi, Option.bind_some, deT (p := (0 : Int) ≤ ((p * k + j : Nat) : Int)) (by omega), deT (by rw [hlt]; omega), Bool.and_self, cond_true, Int.toNat_natCast, deT (by rw [hlt]; exact h1), cond_true, e4]
    dsimp only
    rw [← h2, tk_set (by omega)]
    rfl
  · unfold rs_New_b2
    dsimp only
    rw [deF (p := (k : Int) < (k : Int)) (by omega), cond_false]

theorem new_ok {N k m : Nat} (hN : 300 < N) (hk : 1 ≤ k) (hk2 : k ≤ 16) (hm : m ≤ 8) : rs_New N ((k : Int), (m : Int)) = some (.inr ((k : Int), (m : Int), rowsF k m)) := by
  have hmk : m * k ≤ 128 := Nat.le_trans (Nat.mul_le_mul hm hk2) (by decide)
  have hl := rowsF_length k m
  have key : rs_New_l0 N ((k : Int), (m : Int), 0, List.replicate (m * k) 0, (k : Int), (m : Int)) = some (rowsF k m, (k : Int), (m : Int)) := by
    have h := rs_iter (b := rs_New_b0 N) (r := (tk (rowsF k m) (m * k), (k : Int), (m : Int))) (fun p => ((k : Int), (m : Int), (p : Int), tk (rowsF k m) (p * k), (k : Int), (m : Int))) m (fun p hp nx => ?_) (fun nx => ?_) N (by omega)
    · rw [show tk (rowsF k m) (m * k) = rowsF k m by rw [← hl]; exact tk_all _] at h
      rw [← h]
      show _ = loopF (rs_New_b0 N) N ((k : Int), (m : Int), ((0 : Nat) : Int), tk (rowsF k m) (0 * k), (k : Int), (m : Int))
      rw [Nat.zero_mul, tk_zero, hl]
      rfl
    · unfold rs_New_b0
      dsimp only
      rw [deT (p := (p : Int) < (m : Int)) (by omega), cond_true, new_l2 hN hk hk2 hm hp, Option.bind_some, wrapF_i64 (by omega) (by omega)]
      rfl
    · unfold rs_New_b0
      dsimp only
      rw [deF (p := (m : Int) < (m : Int)) (by omega), cond_false]
  unfold rs_New
  dsimp only
  have e1 : wrapF .i64 ((m : Int) * (k : Int)) = ((m * k : Nat) : Int) := by
    have : (m : Int) * (k : Int) = ((m * k : Nat) : Int) := by simp
    rw [this, wrapF_i64 (by omega) (by omega)]
  have hf : fits 1 (m * k) = true := by simp [fits]; omega
  rw [deF (p := (k : Int) < 1) (by omega), cond_false, deF (p := (16 : Int) < (k : Int)) (by omega), cond_false, deF (p := (m : Int) < 0) (by omega), cond_false, deF (p := (8 : Int) < (m : Int)) (by omega), Option.bind_some, cond_false, e1, deT (p := (0 : Int) ≤ ((m * k : Nat) : Int)) (by omega), Int.toNat_natCast, hf, Bool.and_self, cond_true, show (EK.dflt (.int .u8)) = (0 : Int) from rfl, key]
  rfl

/-- A row. -/
def rowS (k i : Nat) : List Int := if i < k then (List.replicate k 0).set i 1 else (List.range k).map fun j => iv (i ^^^ j)

theorem row_ok {k m i : Nat} (hk : 1 ≤ k) (hk2 : k ≤ 16) (hm : m ≤ 8) (hi : i < k + m) : rs_Code_Row ((i : Int), (k : Int), (m : Int), rowsF k m) = some ((k : Int), (m : Int), rowsF k m, rowS k i) := by
  have hmk : m * k ≤ 128 := Nat.le_trans (Nat.mul_le_mul hm hk2) (by decide)
  have hl := rowsF_length k m
  unfold rs_Code_Row rowS
  dsimp only
  have hf : fits 1 k = true := by simp [fits]; omega
  rw [deF (p := (i : Int) < 0) (by omega), cond_false, wrapF_i64 (by omega) (by omega), deF (p := (k : Int) + (m : Int) ≤ (i : Int)) (by omega), Option.bind_some, cond_false, deT (p := (0 : Int) ≤ (k : Int)) (by omega), Int.toNat_natCast, hf, Bool.and_self, cond_true, show (EK.dflt (.int .u8)) = (0 : Int) from rfl]
  by_cases h : i < k
  · rw [deT (p := (i : Int) < (k : Int)) (by omega), cond_true, if_pos h, deT (p := (0 : Int) ≤ (i : Int)) (by omega), deT (by rw [List.length_replicate]; omega), Bool.and_self, cond_true, Int.toNat_natCast, deT (by rw [List.length_replicate]; exact h), cond_true]
  · rw [deF (p := (i : Int) < (k : Int)) (by omega), cond_false, if_neg h]
    obtain ⟨p, rfl⟩ : ∃ p, i = k + p := ⟨i - k, by omega⟩
    have hp : p < m := by omega
    have he : (p + 1) * k = p * k + k := by rw [Nat.add_mul, Nat.one_mul]
    have hle : p * k + k ≤ m * k := by rw [← he]; exact Nat.mul_le_mul_right k hp
    have ep : wrapF .i64 (((k + p : Nat) : Int) - (k : Int)) = (p : Int) := by rw [wrapF_i64 (by omega) (by omega)]; omega
    have hpar : rs_Code_parity ((p : Int), (k : Int), (m : Int), rowsF k m) = some (p * k, k, (k : Int), (m : Int), rowsF k m) := by
      have q1 : (p : Int) * (k : Int) = ((p * k : Nat) : Int) := by simp
      have q2 : wrapF .i64 ((p : Int) + 1) * (k : Int) = ((p * k + k : Nat) : Int) := by
        rw [wrapF_i64 (by omega) (by omega), Int.add_mul, q1, Int.one_mul]; omega
      unfold rs_Code_parity
      dsimp only
      rw [q1, q2, wrapF_i64 (n := ((p * k : Nat) : Int)) (by omega) (by omega), wrapF_i64 (n := ((p * k + k : Nat) : Int)) (by omega) (by omega), hl]
      simp only [Int.toNat_natCast]
      rw [deT (p := (0 : Int) ≤ ((p * k : Nat) : Int)) (by omega), deT (p := ((p * k : Nat) : Int) ≤ ((p * k + k : Nat) : Int)) (by omega), deT (p := ((p * k + k : Nat) : Int) ≤ ((m * k : Nat) : Int)) (by omega)]
      simp
    have hX : List.take k (List.drop (p * k) (rowsF k m)) = (List.range k).map fun j => iv ((k + p) ^^^ j) := by
      apply List.ext_getElem?
      intro j
      rw [List.getElem?_take, List.getElem?_map]
      by_cases hj : j < k
      · obtain ⟨h1, h2⟩ := rowsF_get hp hj
        rw [if_pos hj, List.getElem?_drop, List.getElem?_range hj, List.getElem?_eq_getElem (by omega)]
        rw [List.getD, List.getElem?_eq_getElem (by omega)] at h2
        exact congrArg some h2
      · rw [if_neg hj, List.getElem?_eq_none (by simp; omega)]; rfl
    rw [ep, hpar, Option.bind_some]
    dsimp only
    rw [hX]
    simp only [List.length_map, List.length_range, List.length_replicate, Nat.min_self, List.take_zero, List.nil_append, Nat.zero_add]
    rw [deT (by omega), deT (Nat.le_refl k), Bool.and_self, cond_true, List.take_of_length_le (by simp), List.drop_of_length_le (by simp), List.append_nil]

theorem rrow_ok {N k m i : Nat} (hN : 300 < N) (hk : 1 ≤ k) (hk2 : k ≤ 16) (hm : m ≤ 8) (hi : i < k + m) : granaryref03_Code_Row N ((i : Int), (k : Int), (m : Int)) = some ((k : Int), (m : Int), rowS k i) := by
  have hf : fits 1 k = true := by simp [fits]; omega
  have key : granaryref03_Code_Row_l0 N ((i : Int), 0, (k : Int), List.replicate k 0) = some ((k : Int), rowS k i) := by
    by_cases h : i < k
    · have h2 := rs_iter (b := granaryref03_Code_Row_b0 N) (r := ((k : Int), rowS k i)) (fun j => ((i : Int), (j : Int), (k : Int), if i < j then (List.replicate k 0).set i 1 else List.replicate k 0)) k (fun j hj nx => ?_) (fun nx => ?_) N (by omega)
      · show loopF (granaryref03_Code_Row_b0 N) N _ = _
        simpa using h2
      · have hlen : (if i < j then (List.replicate k (0 : Int)).set i 1 else List.replicate k 0).length = k := by split <;> simp
        unfold granaryref03_Code_Row_b0
        dsimp only
        rw [deT (p := (j : Int) < (k : Int)) (by omega), cond_true, deT (p := (i : Int) < (k : Int)) (by omega), cond_true, Option.bind_some, deF (p := (k : Int) ≤ (i : Int)) (by omega), wrapF_i64 (n := (j : Int) + 1) (by omega) (by omega)]
        simp only [cond_false, Option.bind_some]
        by_cases hij : i = j
        · subst hij
          rw [deS, cond_true, deT (p := (0 : Int) ≤ (i : Int)) (by omega), deT (by rw [hlen]; omega), Bool.and_self, cond_true, Int.toNat_natCast, deT (by rw [hlen]; exact hj), cond_true, Option.bind_some, if_neg (Nat.lt_irrefl i), if_pos (Nat.lt_succ_self i)]
          rfl
        · rw [deF (p := (i : Int) = (j : Int)) (by omega), cond_false, Option.bind_some]
          by_cases hlt : i < j
          · rw [if_pos hlt, if_pos (by omega)]; rfl
          · rw [if_neg hlt, if_neg (by omega)]; rfl
      · unfold granaryref03_Code_Row_b0 rowS
        dsimp only
        rw [deF (p := (k : Int) < (k : Int)) (by omega), cond_false, if_pos h]
        rw [if_pos h]
    · have hG : ((List.range k).map fun j => iv (i ^^^ j)).length = k := by simp
      have h2 := rs_iter (b := granaryref03_Code_Row_b0 N) (r := ((k : Int), rowS k i)) (fun j => ((i : Int), (j : Int), (k : Int), tk ((List.range k).map fun j => iv (i ^^^ j)) j)) k (fun j hj nx => ?_) (fun nx => ?_) N (by omega)
      · rw [← h2]
        show _ = loopF (granaryref03_Code_Row_b0 N) N ((i : Int), ((0 : Nat) : Int), (k : Int), tk _ 0)
        rw [tk_zero, hG]
        rfl
      · have hx : i ^^^ j < 256 := x8 (by omega) (by omega)
        obtain ⟨e, hv⟩ := rinv_iv (N := N) hN hx
        have hlen : (tk ((List.range k).map fun j => iv (i ^^^ j)) j).length = k := by rw [tk_length _ (by rw [hG]; omega), hG]
        have hg : ((List.range k).map fun j => iv (i ^^^ j)).getD j 0 = iv (i ^^^ j) := by
          rw [List.getD, List.getElem?_map, List.getElem?_range hj]; rfl
        unfold granaryref03_Code_Row_b0
        dsimp only
        rw [deT (p := (j : Int) < (k : Int)) (by omega), cond_true, deF (p := (i : Int) < (k : Int)) (by omega), cond_false, Option.bind_some, cond_false, Option.bind_some, deT (p := (k : Int) ≤ (i : Int)) (by omega), cond_true, wrapF_u8 (n := (i : Int)) (by omega) (by omega), wrapF_u8 (n := (j : Int)) (by omega) (by omega),
          xorF_nat .u8 (by rw [two_pow_topA]; show i < 256; omega) (by rw [two_pow_topA]; show j < 256; omega), hv, Option.bind_some, deT (p := (0 : Int) ≤ (j : Int)) (by omega), deT (by rw [hlen]; omega), Bool.and_self, cond_true, Int.toNat_natCast, deT (by rw [hlen]; exact hj), cond_true, Option.bind_some, wrapF_i64 (n := (j : Int) + 1) (by omega) (by omega)]
        dsimp only
        rw [← hg, tk_set (by rw [hG]; exact hj)]
        rfl
      · unfold granaryref03_Code_Row_b0 rowS
        dsimp only
        rw [deF (p := (k : Int) < (k : Int)) (by omega), cond_false, if_neg h]
        have : tk ((List.range k).map fun j => iv (i ^^^ j)) k = (List.range k).map fun j => iv (i ^^^ j) := by
          have := tk_all ((List.range k).map fun j => iv (i ^^^ j))
          rw [hG] at this
          exact this
        rw [this]
  unfold granaryref03_Code_Row
  dsimp only
  rw [deF (p := (i : Int) < 0) (by omega), cond_false, wrapF_i64 (by omega) (by omega), deF (p := (k : Int) + (m : Int) ≤ (i : Int)) (by omega), Option.bind_some, cond_false, deT (p := (0 : Int) ≤ (k : Int)) (by omega), Int.toNat_natCast, hf, Bool.and_self, cond_true, show (EK.dflt (.int .u8)) = (0 : Int) from rfl, key]
  rfl

theorem rsRows (x : EKs [(.int .i64), (.int .i64), (.int .i64)]) (hw : wfs [(.int .i64), (.int .i64), (.int .i64)] x) : ∃ N, granarylaw03_RsRows N (x.1, x.2.1, x.2.2) = some true := by
  obtain ⟨k, m, i⟩ := x
  obtain ⟨h1, h2, h3⟩ := hw
  have hk := wf_i64 h1
  have hm := wf_i64 h2
  have hi := wf_i64 h3
  dsimp only at hk hm hi
  refine ⟨1000, ?_⟩
  by_cases hc : k < 1 ∨ 16 < k ∨ m < 0 ∨ 8 < m
  · have hbad : (cond (decide (k < (1 : Int))) (some true) (cond (decide ((16 : Int) < k)) (some true) (cond (decide (m < (0 : Int))) (some true) (some (decide ((8 : Int) < m)))))) = some true := by
      by_cases a1 : k < 1
      · rw [deT a1]; rfl
      rw [deF a1, cond_false]
      by_cases a2 : 16 < k
      · rw [deT a2]; rfl
      rw [deF a2, cond_false]
      by_cases a3 : m < 0
      · rw [deT a3]; rfl
      rw [deF a3, cond_false, deT (by rcases hc with h | h | h | h <;> first | exact absurd h a1 | exact absurd h a2 | exact absurd h a3 | exact h)]
    have n1 : rs_New 1000 (k, m) = some (.inl ()) := by unfold rs_New; dsimp only; rw [hbad]; rfl
    have n2 : granaryref03_New (k, m) = some (.inl ()) := by unfold granaryref03_New; dsimp only; rw [hbad]; rfl
    have nb : granarylaw03_both 1000 (k, m) = some (.inl true) := by
      unfold granarylaw03_both granarylaw03_num
      dsimp only
      rw [n1, Option.bind_some]
      dsimp only
      rw [n2, Option.bind_some]
      rfl
    unfold granarylaw03_RsRows
    dsimp only
    rw [nb, Option.bind_some]
    dsimp only
    rw [Bool.not_true, cond_false, rs_live]
    rfl
  · have a1 : (1 : Int) ≤ k := Int.not_lt.1 fun h => hc (.inl h)
    have a2 : (16 : Int) ≥ k := Int.not_lt.1 fun h => hc (.inr (.inl h))
    have a3 : (0 : Int) ≤ m := Int.not_lt.1 fun h => hc (.inr (.inr (.inl h)))
    have a4 : (8 : Int) ≥ m := Int.not_lt.1 fun h => hc (.inr (.inr (.inr h)))
    obtain ⟨k, rfl⟩ : ∃ n : Nat, k = (n : Int) := ⟨Int.toNat k, (Int.toNat_of_nonneg (by omega)).symm⟩
    obtain ⟨m, rfl⟩ : ∃ n : Nat, m = (n : Int) := ⟨Int.toNat m, (Int.toNat_of_nonneg a3).symm⟩
    have n1 := new_ok (N := 1000) (k := k) (m := m) (by omega) (by omega) (by omega) (by omega)
    have n2 : granaryref03_New ((k : Int), (m : Int)) = some (.inr ((k : Int), (m : Int))) := by
      unfold granaryref03_New; dsimp only
      rw [deF (p := (k : Int) < 1) (by omega), cond_false, deF (p := (16 : Int) < (k : Int)) (by omega), cond_false, deF (p := (m : Int) < 0) (by omega), cond_false, deF (p := (8 : Int) < (m : Int)) (by omega)]; rfl
    have nb : granarylaw03_both 1000 ((k : Int), (m : Int)) = some (.inr (.inr (.inr (true, (k : Int), (m : Int), (k : Int), (m : Int), rowsF k m)))) := by
      unfold granarylaw03_both granarylaw03_num
      dsimp only
      rw [n1, Option.bind_some]
      dsimp only
      rw [n2, Option.bind_some]
      rfl
    have rr : ∃ R, rs_Code_Row (i, (k : Int), (m : Int), rowsF k m) = some ((k : Int), (m : Int), rowsF k m, R) ∧ granaryref03_Code_Row 1000 (i, (k : Int), (m : Int)) = some ((k : Int), (m : Int), R) := by
      by_cases hi0 : i < 0
      · refine ⟨[], ?_, ?_⟩
        · unfold rs_Code_Row; dsimp only; rw [deT hi0]; rfl
        · unfold granaryref03_Code_Row; dsimp only; rw [deT hi0]; rfl
      have hi1 : (0 : Int) ≤ i := Int.not_lt.1 hi0
      by_cases hi2 : ((k : Int) + (m : Int)) ≤ i
      · refine ⟨[], ?_, ?_⟩
        · unfold rs_Code_Row; dsimp only; rw [deF hi0, wrapF_i64 (by omega) (by omega), deT hi2]; rfl
        · unfold granaryref03_Code_Row; dsimp only; rw [deF hi0, wrapF_i64 (by omega) (by omega), deT hi2]; rfl
      have hi3 : i < (k : Int) + (m : Int) := Int.not_le.1 hi2
      obtain ⟨i, rfl⟩ : ∃ n : Nat, i = (n : Int) := ⟨Int.toNat i, (Int.toNat_of_nonneg hi1).symm⟩
      exact ⟨_, row_ok (by omega) (by omega) (by omega) (by omega), rrow_ok (by omega) (by omega) (by omega) (by omega) (by omega)⟩
    obtain ⟨R, r1, r2⟩ := rr
    unfold granarylaw03_RsRows rs_Code_Data_v1 rs_Code_Parity_v1
    dsimp only
    rw [nb, Option.bind_some]
    dsimp only
    simp only [Bool.not_true, cond_false, Option.bind_some, decide_true, cond_true, r1, r2, rs_live]

end Go.Rf.W.Pure
