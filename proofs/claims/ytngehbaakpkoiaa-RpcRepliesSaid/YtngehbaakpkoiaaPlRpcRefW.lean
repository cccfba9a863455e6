/-
  Package rpc: the document's writers are those of package xdr.
-/
import Derived.Test.YtngehbaakpkoiaaPlRpcRefU
set_option linter.unusedVariables false
set_option maxRecDepth 10000
namespace Go.Rf.W.Pure
open Go Go.Rf Go.Rf.W

/-! Writers: an error, the bytes -/

def wU (n : Nat) (s : Int × List Int) : Int × List Int := if s.1 = 0 then (s.1, s.2 ++ be 4 n) else s
def wO (l : List Int) (M : Int) (s : Int × List Int) : Int × List Int := if s.1 = 0 then (if M < (l.length : Int) then (1, s.2) else (0, s.2 ++ encB l)) else s

theorem bytes32 {n : Nat} : [wrapF .u8 (shrF .u32 (n : Int) 24), wrapF .u8 (shrF .u32 (n : Int) 16), wrapF .u8 (shrF .u32 (n : Int) 8), wrapF .u8 (n : Int)] = be 4 n := by
  have s32 : ∀ k : Nat, k ≤ 32 → shrF .u32 (n : Int) (k : Int) = ((n / 2 ^ k : Nat) : Int) := fun k hk => shrF_nat .u32 (a := n) (n := k) hk
  have e24 : shrF .u32 (n : Int) 24 = ((n / 2 ^ 24 : Nat) : Int) := s32 24 (by omega)
  have e16 : shrF .u32 (n : Int) 16 = ((n / 2 ^ 16 : Nat) : Int) := s32 16 (by omega)
  have e8 : shrF .u32 (n : Int) 8 = ((n / 2 ^ 8 : Nat) : Int) := s32 8 (by omega)
  rw [e24, e16, e8, be4, low8, low8, low8, low8]
  simp only [Nat.div_div_eq_div_mul]

theorem take4 (n : Nat) : List.take 4 (List.drop 0 (be 4 n)) = be 4 n := by rw [List.drop_zero]; exact List.take_of_length_le (by simp)

theorem wuint1 {N n : Nat} {s : Int × List Int} (hn : n < 18446744073709551616) (hb : s.2.length < 900000) (hN : 8 < N) : xdr_Writer_Uint_v1 N ((n : Int), s.1, s.2) = some (wU n s) := by
  obtain ⟨e, b⟩ := s
  unfold xdr_Writer_Uint_v1 xdr_Writer_bad_v1 wU
  dsimp only
  rw [Option.bind_some]
  dsimp only
  by_cases h : e = 0
  · subst h
    have := put1_ok (N := N) (n := n) (size := 4) (b := b) (by simp at hb; omega) (by omega)
    rw [show ((4 : Nat) : Int) = 4 from rfl] at this
    rw [deS, if_pos rfl, Bool.not_true, Bool.not_false, cond_true, wrapF_u64 (by omega) (by omega), this]
    rfl
  · rw [deF h, if_neg h]; rfl

theorem rwuint1 {n : Nat} {s : Int × List Int} (hb : s.2.length < 900000) : granaryref01_Writer_Uint_v1 ((n : Int), s.1, s.2) = some (wU n s) := by
  obtain ⟨e, b⟩ := s
  unfold granaryref01_Writer_Uint_v1 wU
  dsimp only
  by_cases h : e = 0
  · subst h
    rw [bytes32]
    have e1 := take4 n
    rw [e1, deS, if_pos rfl, cond_true, deT (p := 4 ≤ (be 4 n).length) (by simp), fits1 (by simp at hb ⊢; omega)]
    rfl
  · rw [deF h, if_neg h]; rfl

theorem rwuint0 {n : Nat} : granaryref01_Writer_Uint ((n : Int), 0) = some (0, be 4 n) := by
  unfold granaryref01_Writer_Uint
  dsimp only
  rw [bytes32, take4, deS, cond_true, deT (p := 4 ≤ (be 4 n).length) (by simp), fits1 (by simp)]
  rfl

theorem fixw_loop {N m : Nat} (hm : m < 4) : ∀ (d f i : Nat) (b : List Int), i + d = m → d < f → b.length + d < 900000 →
    loopF (xdr_Writer_Fixed_b0 N) f ((m : Int), (i : Int), b) = some (b ++ List.replicate d 0) := by
  intro d
  induction d with
  | zero =>
    intro f i b hi hf hb
    obtain ⟨f, rfl⟩ : ∃ g, f = g + 1 := ⟨f - 1, by omega⟩
    show xdr_Writer_Fixed_b0 N _ _ = _
    unfold xdr_Writer_Fixed_b0
    dsimp only
    rw [deF (by omega), cond_false]
    simp
  | succ d ih =>
    intro f i b hi hf hb
    obtain ⟨f, rfl⟩ : ∃ g, f = g + 1 := ⟨f - 1, by omega⟩
    show xdr_Writer_Fixed_b0 N (loopF (xdr_Writer_Fixed_b0 N) f) _ = _
    generalize hnx : loopF (xdr_Writer_Fixed_b0 N) f = nx
    unfold xdr_Writer_Fixed_b0
    dsimp only
    have e1 : ((i : Int) + 1) = ((i + 1 : Nat) : Int) := by omega
    rw [deT (p := (i : Int) < (m : Int)) (by omega), cond_true, show decide (1 ≤ [(0 : Int)].length) = true from rfl, show List.take 1 (List.drop 0 [(0 : Int)]) = [0] from rfl, fits1 (by simp; omega), Bool.and_self, cond_true, wrapF_i64 (by omega) (by omega), e1, ← hnx]
    rw [ih f (i + 1) (b ++ [0]) (by omega) (by omega) (by simp; omega), List.replicate_succ]
    simp

theorem fixw_ok {N : Nat} {l b : List Int} (hl : l.length + b.length < 800000) (hN : 8 < N) : xdr_Writer_Fixed N (l, 0, b) = some (0, b ++ (l ++ List.replicate (padn l.length) 0)) := by
  unfold xdr_Writer_Fixed xdr_Writer_bad_v1
  dsimp only
  rw [Option.bind_some]
  dsimp only
  have hp := padn_lt l.length
  have := fixw_loop (N := N) hp (padn l.length) N 0 (b ++ l) (by omega) (by omega) (by simp; omega)
  rw [show decide ((0 : Int) = 0) = true from rfl, Bool.not_true, cond_false, fits1 (by omega), cond_true, padding_ok (by omega), Option.bind_some]
  unfold xdr_Writer_Fixed_l0
  rw [show (((0 : Nat)) : Int) = 0 from rfl] at this
  rw [this, Option.bind_some, List.append_assoc]

theorem wU_len (n : Nat) (s : Int × List Int) : (wU n s).2.length ≤ s.2.length + 4 := by unfold wU; split <;> simp
theorem wO_len (l : List Int) (M : Int) (s : Int × List Int) : (wO l M s).2.length ≤ s.2.length + l.length + 8 := by
  have := padn_lt l.length
  unfold wO; split
  · split
    · simp; omega
    · simp [encB_length]; omega
  · omega

end Go.Rf.W.Pure
