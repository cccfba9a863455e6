/-
  Package octet, as the sha laws have it: numbers laid into bytes.
-/
import Derived.Test.YtokfelhleojnjaaPlBytes
import Derived.Test.YtokfelhleojnjaaShaF0
set_option linter.unusedVariables false
set_option maxRecDepth 10000
namespace Go.Rf.W
open Go Go.Rf

theorem lay_loop {N : Nat} : ∀ (m f off len n : Nat) (L : List Int), m ≤ len → off + len ≤ L.length → L.length < 1000000 → m < f →
    loopF (octet_Lay_b0 N) f (off, len, (n : Int), (m : Int) - 1, L) = some (L.take off ++ be m n ++ L.drop (off + m)) := by
  intro m
  induction m with
  | zero =>
    intro f off len n L h1 h2 h3 hf
    obtain ⟨f, rfl⟩ : ∃ g, f = g + 1 := ⟨f - 1, by omega⟩
    show octet_Lay_b0 N _ _ = _
    unfold octet_Lay_b0
    dsimp only
    rw [deF (by omega), cond_false]
    simp [be]
  | succ m ih =>
    intro f off len n L h1 h2 h3 hf
    obtain ⟨f, rfl⟩ : ∃ g, f = g + 1 := ⟨f - 1, by omega⟩
    have e1 : ((m + 1 : Nat) : Int) - 1 = (m : Int) := by omega
    have e2 : wrapF .i64 ((m : Int) - 1) = (m : Int) - 1 := wrapF_i64 (by omega) (by omega)
    rw [e1]
    show octet_Lay_b0 N (loopF (octet_Lay_b0 N) f) _ = _
    generalize hnx : loopF (octet_Lay_b0 N) f = nx
    unfold octet_Lay_b0
    dsimp only
    rw [deT (p := (0 : Int) ≤ (m : Int)) (by omega), deT (p := (m : Int) < ((len : Nat) : Int)) (by omega), cond_true, Bool.and_self, cond_true, Int.toNat_natCast, deT (p := m + off < L.length) (by omega), cond_true, e2, low8, shr8, ← hnx]
    rw [ih f off len (n / 256) (L.set (m + off) _) (by omega) (by simp; omega) (by simp; omega) (by omega)]
    have t1 : (L.set (m + off) ((n % 256 : Nat) : Int)).take off = L.take off := by
      rw [List.take_set, List.set_eq_of_length_le (by simp; omega)]
    have t2 : (L.set (m + off) ((n % 256 : Nat) : Int)).drop (off + m) = ((n % 256 : Nat) : Int) :: L.drop (off + (m + 1)) := by
      rw [List.drop_set, if_neg (by omega), show m + off - (off + m) = 0 by omega, List.drop_eq_getElem_cons (by omega), List.set_cons_zero]
      rfl
    rw [t1, t2, be]
    simp

theorem lay_ok {N off len n : Nat} {L : List Int} (h : off + len ≤ L.length) (h3 : L.length < 1000000) (hN : len < N) : octet_Lay N (off, len, (n : Int), L) = some (L.take off ++ be len n ++ L.drop (off + len)) := by
  unfold octet_Lay octet_Lay_l0
  dsimp only
  rw [wrapF_i64 (by omega) (by omega), lay_loop len N off len n L (by omega) h h3 hN]
  rfl

theorem fits1 {n : Nat} (h : n < 1000000) : fits 1 n = true := by simp [fits]; omega

theorem put2_ok {N n size : Nat} {b : List Int} (hb : b.length + size < 1000000) (hN : size < N) : octet_Put_v2 N ((n : Int), (size : Int), b) = some (b ++ be size n) := by
  unfold octet_Put_v2
  dsimp only
  have hl : (b ++ List.replicate size (EK.dflt (.int .u8))).length = b.length + size := by simp
  rw [Int.toNat_natCast, hl, wrapF_i64 (by omega) (by omega), List.length_replicate, fits1 (by omega), fits1 (by omega), deT (p := (0 : Int) ≤ (size : Int)) (by omega)]
  have e : (((b.length + size : Nat) : Int) - (size : Int)) = (b.length : Int) := by omega
  rw [e, Int.toNat_natCast, deT (p := (0 : Int) ≤ (b.length : Int)) (by omega), deT (p := (b.length : Int) ≤ ((b.length + size : Nat) : Int)) (by omega), deT (p := ((b.length + size : Nat) : Int) ≤ ((b.length + size : Nat) : Int)) (by omega)]
  simp only [Bool.and_self, cond_true]
  rw [lay_ok (by simp) (by simp; omega) (by omega)]
  simp

theorem putw_ok {N off len n size : Nat} {L : List Int} (h : off + len = L.length) (hb : len + size < 1000000) (hN : size < N) : octet_Put N (off, len, (n : Int), (size : Int), L) = some (L.drop off ++ be size n) := by
  unfold octet_Put
  dsimp only
  have hl : (L.drop off ++ List.replicate size (EK.dflt (.int .u8))).length = len + size := by simp; omega
  rw [Int.toNat_natCast, hl, wrapF_i64 (by omega) (by omega), List.length_replicate, fits1 (by omega), fits1 (by omega), deT (p := (0 : Int) ≤ (size : Int)) (by omega), deT h]
  have e : (((len + size : Nat) : Int) - (size : Int)) = (len : Int) := by omega
  rw [e, Int.toNat_natCast, deT (p := (0 : Int) ≤ (len : Int)) (by omega), deT (p := (len : Int) ≤ ((len + size : Nat) : Int)) (by omega), deT (p := ((len + size : Nat) : Int) ≤ ((len + size : Nat) : Int)) (by omega)]
  simp only [Bool.and_self, cond_true]
  rw [lay_ok (by simp; omega) (by simp; omega) (by omega)]
  have e1 : (L.drop off ++ List.replicate size (EK.dflt (.int .u8))).take len = L.drop off := by
    rw [List.take_append_of_le_length (by simp; omega), List.take_of_length_le (by simp; omega)]
  rw [e1]
  simp
  omega

end Go.Rf.W
