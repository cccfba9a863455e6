/-
  Package octet, as the rpc laws have it: numbers laid into bytes, and read out of them.
-/
import Derived.Test.YtngehbaakpkoiaaPlBytes
import Derived.Test.YtngehbaakpkoiaaRpcF0
set_option linter.unusedVariables false
set_option maxRecDepth 10000
namespace Go.Rf.W
open Go Go.Rf

theorem lay_loop {N : Nat} : ∀ (m f off len n : Nat) (L : List Int), m ≤ len → off + len ≤ L.length → L.length < 1000000 → m < f →
    loopF (octet_Lay_b0 N) f (off, len, (n : Int), (m : Int) - 1, L) = some (L.take off ++ be m n ++ L.drop (off + m)) := by
  intro m
  induction m with
  | zero =>
    intro f off len n L h1 h2 h3 hf
    obtain ⟨f, rfl⟩ : ∃ g, f = g + 1 := ⟨f - 1, by omega⟩
    show octet_Lay_b0 N _ _ = _
    unfold octet_Lay_b0
    dsimp only
    rw [deF (by omega), cond_false]
    simp [be]
  | succ m ih =>
    intro f off len n L h1 h2 h3 hf
    obtain ⟨f, rfl⟩ : ∃ g, f = g + 1 := ⟨f - 1, by omega⟩
    have e1 : ((m + 1 : Nat) : Int) - 1 = (m : Int) := by omega
    have e2 : wrapF .i64 ((m : Int) - 1) = (m : Int) - 1 := wrapF_i64 (by omega) (by omega)
    rw [e1]
    show octet_Lay_b0 N (loopF (octet_Lay_b0 N) f) _ = _
    generalize hnx : loopF (octet_Lay_b0 N) f = nx
    unfold octet_Lay_b0
    dsimp only
    rw [deT (p := (0 : Int) ≤ (m : Int)) (by omega), deT (p := (m : Int) < ((len : Nat) : Int)) (by omega), cond_true, Bool.and_self, cond_true, Int.toNat_natCast, deT (p := m + off < L.length) (by omega), cond_true, e2, low8, shr8, ← hnx]
    rw [ih f off len (n / 256) (L.set (m + off) _) (by omega) (by simp; omega) (by simp; omega) (by omega)]
    have t1 : (L.set (m + off) ((n % 256 : Nat) : Int)).take off = L.take off := by
      rw [List.take_set, List.set_eq_of_length_le (by simp; omega)]
    have t2 : (L.set (m + off) ((n % 256 : Nat) : Int)).drop (off + m) = ((n % 256 : Nat) : Int) :: L.drop (off + (m + 1)) := by
      rw [List.drop_set, if_neg (by omega), show m + off - (off + m) = 0 by omega, List.drop_eq_getElem_cons (by omega), List.set_cons_zero]
      rfl
    rw [t1, t2, be]
    simp

theorem lay_ok {N off len n : Nat} {L : List Int} (h : off + len ≤ L.length) (h3 : L.length < 1000000) (hN : len < N) : octet_Lay N (off, len, (n : Int), L) = some (L.take off ++ be len n ++ L.drop (off + len)) := by
  unfold octet_Lay octet_Lay_l0
  dsimp only
  rw [wrapF_i64 (by omega) (by omega), lay_loop len N off len n L (by omega) h h3 hN]
  rfl

theorem fits1 {n : Nat} (h : n < 1000000) : fits 1 n = true := by simp [fits]; omega

theorem put1_ok {N n size : Nat} {b : List Int} (hb : b.length + size < 1000000) (hN : size < N) : octet_Put_v1 N ((n : Int), (size : Int), b) = some (b ++ be size n) := by
  unfold octet_Put_v1
  dsimp only
  have hl : (b ++ List.replicate size (EK.dflt (.int .u8))).length = b.length + size := by simp
  rw [Int.toNat_natCast, hl, wrapF_i64 (by omega) (by omega), List.length_replicate, fits1 (by omega), fits1 (by omega), deT (p := (0 : Int) ≤ (size : Int)) (by omega)]
  have e : (((b.length + size : Nat) : Int) - (size : Int)) = (b.length : Int) := by omega
  rw [e, Int.toNat_natCast, deT (p := (0 : Int) ≤ (b.length : Int)) (by omega), deT (p := (b.length : Int) ≤ ((b.length + size : Nat) : Int)) (by omega), deT (p := ((b.length + size : Nat) : Int) ≤ ((b.length + size : Nat) : Int)) (by omega)]
  simp only [Bool.and_self, cond_true]
  rw [lay_ok (by simp) (by simp; omega) (by omega)]
  simp

theorem put0_ok {N n size : Nat} (hb : size < 1000000) (hN : size < N) : octet_Put N ((n : Int), (size : Int)) = some (be size n) := by
  unfold octet_Put
  dsimp only
  have hl : (List.replicate size (EK.dflt (.int .u8))).length = size := by simp
  rw [Int.toNat_natCast, hl, wrapF_i64 (by omega) (by omega), fits1 (by omega), deT (p := (0 : Int) ≤ (size : Int)) (by omega)]
  have e : (((size : Nat) : Int) - (size : Int)) = 0 := by omega
  rw [e, deT (p := (0 : Int) ≤ 0) (by omega), deT (p := (0 : Int) ≤ ((size : Nat) : Int)) (by omega), deT (p := ((size : Nat) : Int) ≤ ((size : Nat) : Int)) (by omega)]
  simp only [Bool.and_self, cond_true]
  have := lay_ok (N := N) (off := 0) (len := size) (n := n) (L := List.replicate size (EK.dflt (.int .u8))) (by simp) (by simp; omega) hN
  rw [show (0 : Int).toNat = 0 from rfl, Nat.sub_zero, this]
  simp

theorem get_loop {N : Nat} (l : List Int) (hb : ∀ x ∈ l, 0 ≤ x ∧ x < 256) (hl : l.length ≤ 8) : ∀ (d f i a : Nat), i + d = l.length → d < f → a < 256 ^ i →
    loopF (octet_Get_b0 N) f ((a : Int), l, ((l.length : Nat) : Int), (i : Int)) = some ((valA a (l.drop i) : Nat) : Int) := by
  intro d
  induction d with
  | zero =>
    intro f i a hi hf ha
    obtain ⟨f, rfl⟩ : ∃ g, f = g + 1 := ⟨f - 1, by omega⟩
    show octet_Get_b0 N _ _ = _
    unfold octet_Get_b0
    dsimp only
    rw [deF (by omega), cond_false, List.drop_of_length_le (by omega)]
    rfl
  | succ d ih =>
    intro f i a hi hf ha
    obtain ⟨f, rfl⟩ : ∃ g, f = g + 1 := ⟨f - 1, by omega⟩
    have hlt : i < l.length := by omega
    have hg : List.getD l i (EK.dflt (.int .u8)) = l[i] := by simp [List.getD, hlt]
    have hc := hb l[i] (List.getElem_mem hlt)
    have ha7 : a < 72057594037927936 := Nat.lt_of_lt_of_le ha (Nat.le_trans (Nat.pow_le_pow_right (n := 256) (i := i) (j := 7) (by decide) (by omega)) (by decide))
    have ha8 : a * 256 + l[i].toNat < 256 ^ (i + 1) := by rw [Nat.pow_succ]; omega
    clear ha
    show octet_Get_b0 N (loopF (octet_Get_b0 N) f) _ = _
    generalize hnx : loopF (octet_Get_b0 N) f = nx
    unfold octet_Get_b0
    dsimp only
    rw [deT (p := (i : Int) < ((l.length : Nat) : Int)) (by omega), deT (p := (0 : Int) ≤ (i : Int)) (by omega), cond_true, Bool.and_self, cond_true, Int.toNat_natCast, hg, step64 ha7 hc, wrapF_i64 (by omega) (by omega), ← hnx]
    have e1 : ((i : Int) + 1) = ((i + 1 : Nat) : Int) := by omega
    rw [e1, ih f (i + 1) _ (by omega) (by omega) ha8, List.drop_eq_getElem_cons hlt]
    rfl

theorem get_ok {N : Nat} {l : List Int} (hb : ∀ x ∈ l, 0 ≤ x ∧ x < 256) (hl : l.length ≤ 8) (hN : 8 < N) : octet_Get N l = some ((val l : Nat) : Int) := by
  have h := get_loop (N := N) l hb hl l.length N 0 0 (by omega) (by omega) (by omega)
  unfold octet_Get octet_Get_l0
  have e0 : ((0 : Nat) : Int) = 0 := rfl
  rw [e0] at h
  rw [h, List.drop_zero]
  rfl

end Go.Rf.W
