/-
  Package rs: what the laws have in common.
-/
import Derived.Test.YtoabbnfjnjbjfaaPlRsGen
import Derived.Test.YtoabbnfjnjbjfaaPlRs
import Derived.Test.YtoabbnfjnjbjfaaRfC
set_option linter.unusedVariables false
set_option linter.unusedSimpArgs false
set_option maxRecDepth 100000
namespace Go.Rf.W.Pure
open Go Go.Rf Go.Rf.W Go.Rf.Lin

theorem rs_liveN : granarylaw03_live 20000 () = some true := by decide +kernel
theorem numN (x : Int) : granarylaw03_num x = some x := rfl

theorem both_cases (k m : Int) : granarylaw03_both 20000 (k, m) = some (.inl true) ∨ ∃ k' m' : Nat, k = (k' : Int) ∧ m = (m' : Int) ∧ 1 ≤ k' ∧ k' ≤ 16 ∧ m' ≤ 8 ∧
    granarylaw03_both 20000 (k, m) = some (.inr (.inr (.inr (true, (k' : Int), (m' : Int), (k' : Int), (m' : Int), rowsF k' m')))) := by
  by_cases hg : k < 1 ∨ 16 < k ∨ m < 0 ∨ 8 < m
  · left
    have hbad : (cond (decide (k < (1 : Int))) (some true) (cond (decide ((16 : Int) < k)) (some true) (cond (decide (m < (0 : Int))) (some true) (some (decide ((8 : Int) < m)))))) = some true := by
      by_cases a1 : k < 1
      · rw [deT a1]; rfl
      rw [deF a1, cond_false]
      by_cases a2 : 16 < k
      · rw [deT a2]; rfl
      rw [deF a2, cond_false]
      by_cases a3 : m < 0
      · rw [deT a3]; rfl
      rw [deF a3, cond_false, deT (by omega)]
    have n1 : rs_New 20000 (k, m) = some (.inl ()) := by unfold rs_New; dsimp only; rw [hbad]; rfl
    have n2 : granaryref03_New (k, m) = some (.inl ()) := by unfold granaryref03_New; dsimp only; rw [hbad]; rfl
    unfold granarylaw03_both granarylaw03_num
    dsimp only
    rw [n1, Option.bind_some]
    dsimp only
    rw [n2, Option.bind_some]
    rfl
  · right
    obtain ⟨k, rfl⟩ : ∃ n : Nat, k = (n : Int) := ⟨Int.toNat k, by omega⟩
    obtain ⟨m, rfl⟩ : ∃ n : Nat, m = (n : Int) := ⟨Int.toNat m, by omega⟩
    refine ⟨k, m, rfl, rfl, by omega, by omega, by omega, ?_⟩
    have n1 := new_ok (N := 20000) (k := k) (m := m) (by omega) (by omega) (by omega) (by omega)
    have n2 : granaryref03_New ((k : Int), (m : Int)) = some (.inr ((k : Int), (m : Int))) := by
      unfold granaryref03_New; dsimp only
      rw [deF (p := (k : Int) < 1) (by omega), cond_false, deF (p := (16 : Int) < (k : Int)) (by omega), cond_false, deF (p := (m : Int) < 0) (by omega), cond_false, deF (p := (8 : Int) < (m : Int)) (by omega)]; rfl
    unfold granarylaw03_both granarylaw03_num
    dsimp only
    rw [n1, Option.bind_some]
    dsimp only
    rw [n2, Option.bind_some]
    rfl

theorem sumL_len {α : Type} {f : α → Nat} (h : ∀ x, 1 ≤ f x) : ∀ l : List α, l.length ≤ sumL f l
  | [] => Nat.le_refl _
  | x :: l => by have := sumL_len h l; have := h x; simp only [sumL, List.length_cons]; omega
theorem sumL_in {α : Type} {f : α → Nat} {x : α} : ∀ {l : List α}, x ∈ l → f x ≤ sumL f l
  | y :: l, h => by
    rcases List.mem_cons.1 h with rfl | h
    · simp only [sumL]; omega
    · have := sumL_in (f := f) h; simp only [sumL]; omega

theorem rows_bulk {S : List (List Int)} (h : EK.bulk (.sl (.sl (.int .u8))) S ≤ 1048576) : ∀ r, r ∈ S → r.length ≤ 1048576 := by
  intro r hr
  have h1 : sumL (EK.bulk (.sl (.int .u8))) S + 1 ≤ 1048576 := h
  have h2 := sumL_in (f := EK.bulk (.sl (.int .u8))) hr
  have h3 : EK.bulk (.sl (.int .u8)) r = sumL (EK.bulk (.int .u8)) r + 1 := rfl
  have h4 := sumL_len (f := EK.bulk (.int .u8)) (fun _ => Nat.le_refl 1) r
  omega

theorem rows_wf {S : List (List Int)} (h : EK.wf (.sl (.sl (.int .u8))) S) : ∀ r, r ∈ S → ∀ x, x ∈ r → 0 ≤ x ∧ x < 256 := fun r hr => wf_bytes (l := r) (h.2 r hr)

theorem sm_of {S : List (List Int)} (hw : EK.wf (.sl (.sl (.int .u8))) S) (hl : S.length ≤ 30 ∧ ∀ r, r ∈ S → r.length ≤ 9000) : Sm S :=
  ⟨by omega, fun r hr => by have := hl.2 r hr; omega, rows_wf hw⟩

end Go.Rf.W.Pure
