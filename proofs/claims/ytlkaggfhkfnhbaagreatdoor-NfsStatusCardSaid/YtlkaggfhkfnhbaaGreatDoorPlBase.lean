/-
  Small words of plain proofs: truth values, options, numbers in bounds.
-/
import Derived.Test.YtlkaggfhkfnhbaaGreatDoorPlNum
import Derived.Test.YtlkaggfhkfnhbaaGreatDoorRfC
set_option linter.unusedVariables false
namespace Go.Rf.W
open Go Go.Rf

theorem cond_some {α : Type} (c : Bool) (a b : α) : (cond c (some a) (some b)) = some (cond c a b) := by cases c <;> rfl
theorem fst_cond {α β : Type} (c : Bool) (p q : α × β) : (cond c p q).1 = cond c p.1 q.1 := by cases c <;> rfl
theorem snd_cond {α β : Type} (c : Bool) (p q : α × β) : (cond c p q).2 = cond c p.2 q.2 := by cases c <;> rfl
theorem deS {α : Type} [DecidableEq α] (a : α) : decide (a = a) = true := decide_eq_true rfl
theorem deT {p : Prop} [Decidable p] (h : p) : decide p = true := decide_eq_true h
theorem deF {p : Prop} [Decidable p] (h : ¬ p) : decide p = false := decide_eq_false h
theorem beS (a : Bool) : (a == a) = true := by cases a <;> rfl

theorem wf_bd {k : IntKind} {n : Int} (h : EK.wf (.int k) n) : k.min ≤ n ∧ n ≤ k.max := by
  simpa [EK.wf, Lit.wf] using h
theorem wf_u64 {n : Int} (h : EK.wf (.int .u64) n) : ∃ m : Nat, n = m ∧ m < 18446744073709551616 := by
  have h1 : 0 ≤ n ∧ n ≤ 18446744073709551615 := by simpa [IntKind.min, IntKind.max, IntKind.signed, IntKind.bits] using wf_bd h
  exact ⟨n.toNat, by omega, by omega⟩
theorem wf_u32 {n : Int} (h : EK.wf (.int .u32) n) : ∃ m : Nat, n = m ∧ m < 4294967296 := by
  have h1 : 0 ≤ n ∧ n ≤ 4294967295 := by simpa [IntKind.min, IntKind.max, IntKind.signed, IntKind.bits] using wf_bd h
  exact ⟨n.toNat, by omega, by omega⟩
theorem wf_u8 {n : Int} (h : EK.wf (.int .u8) n) : ∃ m : Nat, n = m ∧ m < 256 := by
  have h1 : 0 ≤ n ∧ n ≤ 255 := by simpa [IntKind.min, IntKind.max, IntKind.signed, IntKind.bits] using wf_bd h
  exact ⟨n.toNat, by omega, by omega⟩
theorem wf_i64 {n : Int} (h : EK.wf (.int .i64) n) : -9223372036854775808 ≤ n ∧ n < 9223372036854775808 := by
  have h1 : -9223372036854775808 ≤ n ∧ n ≤ 9223372036854775807 := by simpa [IntKind.min, IntKind.max, IntKind.signed, IntKind.bits] using wf_bd h
  omega
theorem wf_i32 {n : Int} (h : EK.wf (.int .i32) n) : -2147483648 ≤ n ∧ n < 2147483648 := by
  have h1 : -2147483648 ≤ n ∧ n ≤ 2147483647 := by simpa [IntKind.min, IntKind.max, IntKind.signed, IntKind.bits] using wf_bd h
  omega
theorem wf_bytes {l : List Int} (h : EK.wf (.sl (.int .u8)) l) : ∀ x ∈ l, 0 ≤ x ∧ x < 256 := fun x hx => by
  obtain ⟨m, e, hm⟩ := wf_u8 (h.2 x hx)
  omega

end Go.Rf.W
