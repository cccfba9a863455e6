/-
  RsNil, plain: a nil Code.
-/
import Derived.Test.YtoabbnfjnjbjfaaRsFRsNil
import Derived.Test.YtoabbnfjnjbjfaaPlRs
import Derived.Test.YtoabbnfjnjbjfaaRfC
set_option linter.unusedVariables false
namespace Go.Rf.W.Pure
open Go Go.Rf Go.Rf.W

theorem huge_loop {N : Nat} (l : List (List Int)) : ∀ (d i f : Nat) (n : Int), i + d = 31 → d < f → ∃ z, loopF (granarylaw03_huge_b0 N) f (l, n, (i : Int)) = some z := by
  intro d
  induction d with
  | zero =>
    intro i f n hi hf
    obtain ⟨f, rfl⟩ : ∃ g, f = g + 1 := ⟨f - 1, by omega⟩
    show ∃ z, granarylaw03_huge_b0 N _ _ = some z
    unfold granarylaw03_huge_b0
    dsimp only
    rw [deF (p := (i : Int) ≤ 30) (by omega)]
    cases decide ((i : Int) < ((l.length : Nat) : Int)) <;> exact ⟨n, rfl⟩
  | succ d ih =>
    intro i f n hi hf
    obtain ⟨f, rfl⟩ : ∃ g, f = g + 1 := ⟨f - 1, by omega⟩
    have ih := fun n => ih (i + 1) f n (by omega) (by omega)
    show ∃ z, granarylaw03_huge_b0 N (loopF (granarylaw03_huge_b0 N) f) _ = some z
    unfold granarylaw03_huge_b0
    dsimp only
    by_cases h : i < l.length
    · rw [deT (p := (i : Int) < ((l.length : Nat) : Int)) (by omega), cond_true, deT (p := (i : Int) ≤ 30) (by omega), Option.bind_some, cond_true, deT (p := (0 : Int) ≤ (i : Int)) (by omega), Bool.and_self, cond_true, wrapF_i64 (n := (i : Int) + 1) (by omega) (by omega), show (i : Int) + 1 = ((i + 1 : Nat) : Int) by omega]
      exact ih _
    · rw [deF (p := (i : Int) < ((l.length : Nat) : Int)) (by omega), cond_false]
      exact ⟨n, rfl⟩

theorem huge_ok {N : Nat} (l : List (List Int)) (hN : 31 < N) : ∃ b, granarylaw03_huge N l = some b := by
  obtain ⟨z, hz⟩ := huge_loop (N := N) l 31 0 N 0 (by omega) hN
  unfold granarylaw03_huge granarylaw03_huge_l0
  have hz2 : loopF (granarylaw03_huge_b0 N) N (l, 0, 0) = some z := hz
  rw [hz2, Option.bind_some]
  cases decide ((30 : Int) < ((l.length : Nat) : Int)) <;> exact ⟨_, rfl⟩

theorem rsNil (x : EKs [(.sl (.sl (.int .u8))), (.int .i64)]) (hw : wfs [(.sl (.sl (.int .u8))), (.int .i64)] x) (hb : bulks [(.sl (.sl (.int .u8))), (.int .i64)] x ≤ 1048576) : ∃ N, granarylaw03_RsNil N (x.1, x.2) = some true := by
  refine ⟨1000, ?_⟩
  obtain ⟨b, hb⟩ := huge_ok (N := 1000) x.1 (by omega)
  unfold granarylaw03_RsNil
  dsimp only
  rw [hb, Option.bind_some]
  cases b with
  | true => rw [cond_true, rs_live]; rfl
  | false =>
    unfold rs_Code_Encode_v1 rs_Code_Check rs_Code_Rebuild_v1 rs_Code_Update rs_Code_Split rs_Code_Join rs_Code_Data rs_Code_Parity rs_Code_Row_v1 granarylaw03_num
    simp only [cond_false, Option.bind_some, decide_true, cond_true, rs_live]
end Go.Rf.W.Pure
