/-
  Package rpc: writing rows of bytes.
-/
import Derived.Test.YtngehbaakpkoiaaPlRpcRef
set_option linter.unusedVariables false
set_option maxRecDepth 10000
namespace Go.Rf.W.Pure
open Go Go.Rf Go.Rf.W

theorem wopaque1 {N : Nat} {l : List Int} {M : Int} {s : Int × List Int} (hl : l.length + s.2.length < 700000) (hN : 8 < N) : xdr_Writer_Opaque_v1 N (l, M, s.1, s.2) = some (wO l M s) := by
  obtain ⟨e, b⟩ := s
  dsimp only at hl
  unfold xdr_Writer_Opaque_v1 xdr_Writer_fits xdr_Writer_bad_v1 wO
  dsimp only
  rw [Option.bind_some]
  dsimp only
  by_cases h : e = 0
  · subst h
    rw [deS, if_pos rfl, Bool.not_true, cond_false]
    by_cases h2 : M < (l.length : Int)
    · rw [deT h2, if_pos h2, cond_true, Option.bind_some, deF (by omega), Option.bind_some]; rfl
    · rw [deF h2, if_neg h2, cond_false, Option.bind_some, deT (by omega), Option.bind_some]
      dsimp only
      have hu := wuint1 (N := N) (n := l.length) (s := (0, b)) (by omega) (by dsimp only; omega) hN
      rw [cond_true, wrapF_u32 (by omega) (by omega)]
      dsimp only at hu
      rw [hu]
      unfold wU
      rw [if_pos rfl, Option.bind_some]
      dsimp only
      rw [fixw_ok (by simp; omega) hN]
      simp only [Option.bind_some, encB, List.append_assoc]
  · rw [deF h, if_neg h]; rfl

theorem rwopaque {N : Nat} {l : List Int} {M : Int} {s : Int × List Int} (hl : l.length + s.2.length < 700000) (hN : 8 < N) : granaryref01_Writer_Opaque N (l, M, s.1, s.2) = some (wO l M s) := by
  obtain ⟨e, b⟩ := s
  dsimp only at hl
  unfold granaryref01_Writer_Opaque wO
  dsimp only
  by_cases h : e = 0
  · subst h
    rw [deS, if_pos rfl, Bool.not_true, cond_false]
    by_cases h2 : M < (l.length : Int)
    · rw [deT h2, if_pos h2, cond_true]
    · have hu := rwuint1 (n := l.length) (s := (0, b)) (by dsimp only; omega)
      have hp := padn_lt l.length
      rw [deF h2, if_neg h2, cond_false, wrapF_u32 (by omega) (by omega)]
      dsimp only at hu
      rw [hu]
      unfold wU
      rw [if_pos rfl, Option.bind_some]
      dsimp only
      unfold granaryref01_Writer_Fixed
      dsimp only
      have hlp := rfixw_loop (N := N) (m := l.length + padn l.length) (by omega) (padn l.length) N (b ++ be 4 l.length ++ l) l.length rfl rfl (by omega) (by simp; omega)
      rw [deS, Bool.not_true, cond_false, fits1 (by simp; omega), cond_true]
      unfold granaryref01_Writer_Fixed_l0
      rw [hlp]
      simp only [Option.bind_some, encB, List.append_assoc]
  · rw [deF h, if_neg h]; rfl

end Go.Rf.W.Pure
