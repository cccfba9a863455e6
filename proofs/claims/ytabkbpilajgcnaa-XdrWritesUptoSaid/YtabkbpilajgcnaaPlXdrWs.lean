/-
  Package xdr: writers and the document's writers, alike on every state.
-/
import Derived.Test.YtabkbpilajgcnaaPlXdrEnc
set_option linter.unusedVariables false
set_option linter.unusedSimpArgs false
set_option maxRecDepth 10000
namespace Go.Rf.W.Pure
open Go Go.Rf Go.Rf.W

theorem r_iter {A R : Type} {b : (A → Option R) → A → Option R} (st : Nat → A) (n : Nat) {r : R} (hs : ∀ i, i < n → ∀ nx, b nx (st i) = nx (st (i + 1))) (he : ∀ nx, b nx (st n) = some r) : ∀ f, n < f → loopF b f (st 0) = some r := by
  have key : ∀ d i f, i + d = n → d < f → loopF b f (st i) = some r := by
    intro d
    induction d with
    | zero =>
      intro i f hi hf
      obtain ⟨f, rfl⟩ : ∃ g, f = g + 1 := ⟨f - 1, by omega⟩
      have : i = n := by omega
      subst this
      exact he _
    | succ d ih =>
      intro i f hi hf
      obtain ⟨f, rfl⟩ : ∃ g, f = g + 1 := ⟨f - 1, by omega⟩
      show b (loopF b f) (st i) = _
      rw [hs i (by omega)]
      exact ih (i + 1) f (by omega) (by omega)
  exact fun f hf => key n 0 f (by omega) hf

/-! Writers: an error, the bytes -/

def wU (n : Nat) (s : Int × List Int) : Int × List Int := if s.1 = 0 then (s.1, s.2 ++ be 4 n) else s
def wO (l : List Int) (M : Int) (s : Int × List Int) : Int × List Int := if s.1 = 0 then (if M < (l.length : Int) then (1, s.2) else (0, s.2 ++ encB l)) else s

theorem bytes32 {n : Nat} : [wrapF .u8 (shrF .u32 (n : Int) 24), wrapF .u8 (shrF .u32 (n : Int) 16), wrapF .u8 (shrF .u32 (n : Int) 8), wrapF .u8 (n : Int)] = be 4 n := by
  have s32 : ∀ k : Nat, k ≤ 32 → shrF .u32 (n : Int) (k : Int) = ((n / 2 ^ k : Nat) : Int) := fun k hk => shrF_nat .u32 (a := n) (n := k) hk
  have e24 : shrF .u32 (n : Int) 24 = ((n / 2 ^ 24 : Nat) : Int) := s32 24 (by omega)
  have e16 : shrF .u32 (n : Int) 16 = ((n / 2 ^ 16 : Nat) : Int) := s32 16 (by omega)
  have e8 : shrF .u32 (n : Int) 8 = ((n / 2 ^ 8 : Nat) : Int) := s32 8 (by omega)
  rw [e24, e16, e8, be4, low8, low8, low8, low8]
  simp only [Nat.div_div_eq_div_mul]

theorem take4 (n : Nat) : List.take 4 (List.drop 0 (be 4 n)) = be 4 n := by rw [List.drop_zero]; exact List.take_of_length_le (by simp)

theorem wuint1 {N n : Nat} {s : Int × List Int} (hn : n < 18446744073709551616) (hb : s.2.length < 900000) (hN : 8 < N) : xdr_Writer_Uint_v1 N ((n : Int), s.1, s.2) = some (wU n s) := by
  obtain ⟨e, b⟩ := s
  unfold xdr_Writer_Uint_v1 xdr_Writer_bad_v1 wU
  dsimp only
  rw [Option.bind_some]
  dsimp only
  by_cases h : e = 0
  · subst h
    have := put1_ok (N := N) (n := n) (size := 4) (b := b) (by simp at hb; omega) (by omega)
    rw [show ((4 : Nat) : Int) = 4 from rfl] at this
    rw [deS, if_pos rfl, Bool.not_true, Bool.not_false, cond_true, wrapF_u64 (by omega) (by omega), this]
    rfl
  · rw [deF h, if_neg h]; rfl

theorem rwuint1 {n : Nat} {s : Int × List Int} (hb : s.2.length < 900000) : granaryref01_Writer_Uint_v1 ((n : Int), s.1, s.2) = some (wU n s) := by
  obtain ⟨e, b⟩ := s
  unfold granaryref01_Writer_Uint_v1 wU
  dsimp only
  by_cases h : e = 0
  · subst h
    rw [bytes32]
    have e1 := take4 n
    rw [e1, deS, if_pos rfl, cond_true, deT (p := 4 ≤ (be 4 n).length) (by simp), fits1 (by simp at hb ⊢; omega)]
    rfl
  · rw [deF h, if_neg h]; rfl

theorem rwuint0 {n : Nat} : granaryref01_Writer_Uint ((n : Int), 0) = some (0, be 4 n) := by
  unfold granaryref01_Writer_Uint
  dsimp only
  rw [bytes32, take4, deS, cond_true, deT (p := 4 ≤ (be 4 n).length) (by simp), fits1 (by simp)]
  rfl

theorem fixw_loop {N m : Nat} (hm : m < 4) : ∀ (d f i : Nat) (b : List Int), i + d = m → d < f → b.length + d < 900000 →
    loopF (xdr_Writer_Fixed_b0 N) f ((m : Int), (i : Int), b) = some (b ++ List.replicate d 0) := by
  intro d
  induction d with
  | zero =>
    intro f i b hi hf hb
    obtain ⟨f, rfl⟩ : ∃ g, f = g + 1 := ⟨f - 1, by omega⟩
    show xdr_Writer_Fixed_b0 N _ _ = _
    unfold xdr_Writer_Fixed_b0
    dsimp only
    rw [deF (by omega), cond_false]
    simp
  | succ d ih =>
    intro f i b hi hf hb
    obtain ⟨f, rfl⟩ : ∃ g, f = g + 1 := ⟨f - 1, by omega⟩
    show xdr_Writer_Fixed_b0 N (loopF (xdr_Writer_Fixed_b0 N) f) _ = _
    generalize hnx : loopF (xdr_Writer_Fixed_b0 N) f = nx
    unfold xdr_Writer_Fixed_b0
    dsimp only
    have e1 : ((i : Int) + 1) = ((i + 1 : Nat) : Int) := by omega
    rw [deT (p := (i : Int) < (m : Int)) (by omega), cond_true, show decide (1 ≤ [(0 : Int)].length) = true from rfl, show List.take 1 (List.drop 0 [(0 : Int)]) = [0] from rfl, fits1 (by simp; omega), Bool.and_self, cond_true, wrapF_i64 (by omega) (by omega), e1, ← hnx]
    rw [ih f (i + 1) (b ++ [0]) (by omega) (by omega) (by simp; omega), List.replicate_succ]
    simp

theorem fixw_ok {N : Nat} {l b : List Int} (hl : l.length + b.length < 800000) (hN : 8 < N) : xdr_Writer_Fixed N (l, 0, b) = some (0, b ++ (l ++ List.replicate (padn l.length) 0)) := by
  unfold xdr_Writer_Fixed xdr_Writer_bad_v1
  dsimp only
  rw [Option.bind_some]
  dsimp only
  have hp := padn_lt l.length
  have := fixw_loop (N := N) hp (padn l.length) N 0 (b ++ l) (by omega) (by omega) (by simp; omega)
  rw [show decide ((0 : Int) = 0) = true from rfl, Bool.not_true, cond_false, fits1 (by omega), cond_true, padding_ok (by omega), Option.bind_some]
  unfold xdr_Writer_Fixed_l0
  rw [show (((0 : Nat)) : Int) = 0 from rfl] at this
  rw [this, Option.bind_some, List.append_assoc]

theorem wU_len (n : Nat) (s : Int × List Int) : (wU n s).2.length ≤ s.2.length + 4 := by unfold wU; split <;> simp
theorem wO_len (l : List Int) (M : Int) (s : Int × List Int) : (wO l M s).2.length ≤ s.2.length + l.length + 8 := by
  have := padn_lt l.length
  unfold wO; split
  · split
    · simp; omega
    · simp [encB_length]; omega
  · omega

theorem rfixw_loop {N m : Nat} (hm : m < 1000000) : ∀ (d f : Nat) (b : List Int) (k : Nat), padn k = d → k + d = m → d < f → b.length + d < 900000 →
    loopF (granaryref01_Writer_Fixed_v1_b0 N) f ((k : Int), b) = some (b ++ List.replicate d 0) := by
  intro d
  induction d with
  | zero =>
    intro f b k hk hkm hf hb
    obtain ⟨f, rfl⟩ : ∃ g, f = g + 1 := ⟨f - 1, by omega⟩
    show granaryref01_Writer_Fixed_v1_b0 N _ _ = _
    unfold granaryref01_Writer_Fixed_v1_b0
    dsimp only
    have e : Int.tmod (k : Int) 4 = ((k % 4 : Nat) : Int) := rfl
    rw [e, deT (by unfold padn at hk; omega), Bool.not_true, cond_false]
    simp
  | succ d ih =>
    intro f b k hk hkm hf hb
    obtain ⟨f, rfl⟩ : ∃ g, f = g + 1 := ⟨f - 1, by omega⟩
    show granaryref01_Writer_Fixed_v1_b0 N (loopF (granaryref01_Writer_Fixed_v1_b0 N) f) _ = _
    have ih := ih f (b ++ [0]) (k + 1) (by unfold padn at hk ⊢; omega) (by omega) (by omega) (by simp; omega)
    generalize loopF (granaryref01_Writer_Fixed_v1_b0 N) f = nx at ih
    unfold granaryref01_Writer_Fixed_v1_b0
    dsimp only
    have e : Int.tmod (k : Int) 4 = ((k % 4 : Nat) : Int) := rfl
    rw [e, deF (by unfold padn at hk; omega), Bool.not_false, cond_true, show decide (1 ≤ [(0 : Int)].length) = true from rfl, show List.take 1 (List.drop 0 [(0 : Int)]) = [0] from rfl, fits1 (by simp; omega), Bool.and_self, cond_true, wrapF_i64 (by omega) (by omega), show (k : Int) + 1 = ((k + 1 : Nat) : Int) by omega, ih, List.replicate_succ]
    simp

theorem wopaque1 {N : Nat} {l : List Int} {M : Int} {s : Int × List Int} (hl : l.length + s.2.length < 700000) (hN : 8 < N) : xdr_Writer_Opaque N (l, M, s.1, s.2) = some (wO l M s) := by
  obtain ⟨e, b⟩ := s
  dsimp only at hl
  unfold xdr_Writer_Opaque xdr_Writer_fits xdr_Writer_bad_v1 wO
  dsimp only
  rw [Option.bind_some]
  dsimp only
  by_cases h : e = 0
  · subst h
    rw [deS, if_pos rfl, Bool.not_true, cond_false]
    by_cases h2 : M < (l.length : Int)
    · rw [deT h2, if_pos h2, cond_true, Option.bind_some, deF (by omega), Option.bind_some]; rfl
    · rw [deF h2, if_neg h2, cond_false, Option.bind_some, deT (by omega), Option.bind_some]
      dsimp only
      have hu := wuint1 (N := N) (n := l.length) (s := (0, b)) (by omega) (by dsimp only; omega) hN
      rw [cond_true, wrapF_u32 (by omega) (by omega)]
      dsimp only at hu
      rw [hu]
      unfold wU
      rw [if_pos rfl, Option.bind_some]
      dsimp only
      rw [fixw_ok (by simp; omega) hN]
      simp only [Option.bind_some, encB, List.append_assoc]
  · rw [deF h, if_neg h]; rfl

theorem wopaque5 {N : Nat} {l : List Int} {M : Int} {s : Int × List Int} (hl : l.length + s.2.length < 700000) (hN : 8 < N) : xdr_Writer_Opaque_v5 N (l, M, s.1, s.2) = some (wO l M s) := by
  obtain ⟨e, b⟩ := s
  dsimp only at hl
  unfold xdr_Writer_Opaque_v5 xdr_Writer_fits xdr_Writer_bad_v1 wO
  dsimp only
  rw [Option.bind_some]
  dsimp only
  by_cases h : e = 0
  · subst h
    rw [deS, if_pos rfl, Bool.not_true, cond_false]
    by_cases h2 : M < (l.length : Int)
    · rw [deT h2, if_pos h2, cond_true, Option.bind_some, deF (by omega), Option.bind_some]; rfl
    · rw [deF h2, if_neg h2, cond_false, Option.bind_some, deT (by omega), Option.bind_some]
      dsimp only
      have hu := wuint1 (N := N) (n := l.length) (s := (0, b)) (by omega) (by dsimp only; omega) hN
      rw [cond_true, wrapF_u32 (by omega) (by omega)]
      dsimp only at hu
      rw [hu]
      unfold wU
      rw [if_pos rfl, Option.bind_some]
      dsimp only
      rw [fixw_ok (by simp; omega) hN]
      simp only [Option.bind_some, encB, List.append_assoc]
  · rw [deF h, if_neg h]; rfl

theorem rwopaque {N : Nat} {l : List Int} {M : Int} {s : Int × List Int} (hl : l.length + s.2.length < 700000) (hN : 8 < N) : granaryref01_Writer_Opaque_v1 N (l, M, s.1, s.2) = some (wO l M s) := by
  obtain ⟨e, b⟩ := s
  dsimp only at hl
  unfold granaryref01_Writer_Opaque_v1 wO
  dsimp only
  by_cases h : e = 0
  · subst h
    rw [deS, if_pos rfl, Bool.not_true, cond_false]
    by_cases h2 : M < (l.length : Int)
    · rw [deT h2, if_pos h2, cond_true]
    · have hu := rwuint1 (n := l.length) (s := (0, b)) (by dsimp only; omega)
      have hp := padn_lt l.length
      rw [deF h2, if_neg h2, cond_false, wrapF_u32 (by omega) (by omega)]
      dsimp only at hu
      rw [hu]
      unfold wU
      rw [if_pos rfl, Option.bind_some]
      dsimp only
      unfold granaryref01_Writer_Fixed_v1
      dsimp only
      have hlp := rfixw_loop (N := N) (m := l.length + padn l.length) (by omega) (padn l.length) N (b ++ be 4 l.length ++ l) l.length rfl rfl (by omega) (by simp; omega)
      rw [deS, Bool.not_true, cond_false, fits1 (by simp; omega), cond_true]
      unfold granaryref01_Writer_Fixed_v1_l0
      rw [hlp]
      simp only [Option.bind_some, encB, List.append_assoc]
  · rw [deF h, if_neg h]; rfl

theorem rwopaque2 {N : Nat} {l : List Int} {M : Int} {s : Int × List Int} (hl : l.length + s.2.length < 700000) (hN : 8 < N) : granaryref01_Writer_Opaque_v2 N (l, M, s.1, s.2) = some (wO l M s) := by
  obtain ⟨e, b⟩ := s
  dsimp only at hl
  unfold granaryref01_Writer_Opaque_v2 wO
  dsimp only
  by_cases h : e = 0
  · subst h
    rw [deS, if_pos rfl, Bool.not_true, cond_false]
    by_cases h2 : M < (l.length : Int)
    · rw [deT h2, if_pos h2, cond_true]
    · have hu := rwuint1 (n := l.length) (s := (0, b)) (by dsimp only; omega)
      have hp := padn_lt l.length
      rw [deF h2, if_neg h2, cond_false, wrapF_u32 (by omega) (by omega)]
      dsimp only at hu
      rw [hu]
      unfold wU
      rw [if_pos rfl, Option.bind_some]
      dsimp only
      unfold granaryref01_Writer_Fixed_v1
      dsimp only
      have hlp := rfixw_loop (N := N) (m := l.length + padn l.length) (by omega) (padn l.length) N (b ++ be 4 l.length ++ l) l.length rfl rfl (by omega) (by simp; omega)
      rw [deS, Bool.not_true, cond_false, fits1 (by simp; omega), cond_true]
      unfold granaryref01_Writer_Fixed_v1_l0
      rw [hlp]
      simp only [Option.bind_some, encB, List.append_assoc]
  · rw [deF h, if_neg h]; rfl


end Go.Rf.W.Pure
