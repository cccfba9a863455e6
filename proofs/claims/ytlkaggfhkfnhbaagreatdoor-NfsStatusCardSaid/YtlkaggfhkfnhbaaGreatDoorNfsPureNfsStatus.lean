/-
  NfsStatus: the program's status of an error, bare or wrapped, is the document's.
-/
import Derived.Test.YtlkaggfhkfnhbaaGreatDoorNfsFNfsStatus
import Derived.Test.YtlkaggfhkfnhbaaGreatDoorPlNfs
import Derived.Test.YtlkaggfhkfnhbaaGreatDoorRfC
set_option linter.unusedVariables false
set_option maxRecDepth 100000
namespace Go.Rf.W.Pure
open Go Go.Rf Go.Rf.W

theorem status_same (x : Int) : granaryref22_Status x = nfs_Status x := rfl

theorem ex_cond {c : Bool} {v : Int} {b : Option Int} (hb : ∃ v, b = some v) : ∃ w, cond c (some v) b = some w := by
  cases c
  · exact hb
  · exact ⟨_, rfl⟩

theorem status_some (x : Int) : ∃ v, nfs_Status x = some v := by
  unfold nfs_Status
  iterate 20 (apply ex_cond)
  exact ⟨_, rfl⟩

theorem wrapped_ok (s e : Int) (h0 : 0 ≤ e) (h1 : e ≤ 20) : ∃ m, granarylaw22_wrapped 100 (s, e) = some (s, m) := by
  obtain ⟨n, rfl⟩ : ∃ n : Nat, e = n := ⟨e.toNat, by omega⟩
  have h : n = 0 ∨ n = 1 ∨ n = 2 ∨ n = 3 ∨ n = 4 ∨ n = 5 ∨ n = 6 ∨ n = 7 ∨ n = 8 ∨ n = 9 ∨ n = 10 ∨ n = 11 ∨ n = 12 ∨ n = 13 ∨ n = 14 ∨ n = 15 ∨ n = 16 ∨ n = 17 ∨ n = 18 ∨ n = 19 ∨ n = 20 := by omega
  rcases h with h | h | h | h | h | h | h | h | h | h | h | h | h | h | h | h | h | h | h | h | h <;> subst h <;> exact ⟨_, rfl⟩

theorem status_core (s e : Int) : granarylaw22_NfsStatus 100 (s, e) = some true := by
  unfold granarylaw22_NfsStatus granarylaw22_NfsStatus_a
  dsimp only
  by_cases h0 : e < 0
  · rw [deT h0]
    simp only [cond_true, Option.bind_some, nfs_live]
  · rw [deF h0]
    by_cases h1 : 20 < e
    · rw [deT h1]
      simp only [cond_true, cond_false, Option.bind_some, nfs_live]
    · rw [deF h1]
      obtain ⟨v, hv⟩ := status_some s
      obtain ⟨m, hm⟩ := wrapped_ok s e (by omega) (by omega)
      have g1 : ∀ n, nfs_StatusOf 100 (s, n) = some v := fun n => hv
      simp only [cond_true, cond_false, Option.bind_some, nfs_live, status_same, hv, hm, nfs_StatusOf_v1, nfs_StatusOf_v2, g1, decide_true]

theorem nfsStatus (x : EKs [(.int .i64), (.int .i64)]) (hw : wfs [(.int .i64), (.int .i64)] x) : ∃ N, granarylaw22_NfsStatus N (x.1, x.2) = some true :=
  ⟨100, status_core x.1 x.2⟩
#print axioms nfsStatus
end Go.Rf.W.Pure
