/-
  ShaTrees, plain: roots, paths and climbing are the document's.
-/
import Derived.Test.YtokfelhleojnjaaShaFShaTrees
import Derived.Test.YtokfelhleojnjaaPlShaT
import Derived.Test.YtokfelhleojnjaaRfC
set_option linter.unusedVariables false
namespace Go.Rf.W.Pure
open Go Go.Rf Go.Rf.W Go.Rf.W.Sha

theorem shaTrees (x : EKs [(.sl (.arr 32 (.int .u8))), (.int .i64), (.arr 32 (.int .u8)), (.int .i64), (.sl (.arr 32 (.int .u8)))]) (hw : wfs [(.sl (.arr 32 (.int .u8))), (.int .i64), (.arr 32 (.int .u8)), (.int .i64), (.sl (.arr 32 (.int .u8)))] x) : ∃ N, granarylaw05_ShaTrees N (x.1, x.2.1, x.2.2.1, x.2.2.2.1, x.2.2.2.2) = some true := by
  obtain ⟨l, i, d, n, p⟩ := x
  obtain ⟨h1, h2, h3, h4, h5⟩ := hw
  have hl : Dg l := fun y hy => (h1.2 y hy).1
  have hp : Dg p := fun y hy => (h5.2 y hy).1
  have hd : d.length = 32 := h3.1
  refine ⟨3000000, ?_⟩
  generalize hN : 3000000 = N
  have hN1 : 2000000 < N := by omega
  clear hN
  unfold granarylaw05_ShaTrees
  dsimp only
  have hlv := live_ok (N := N) (by omega)
  by_cases c0 : 60 < List.length l
  · rw [deT (p := (60 : Int) < ((List.length l : Nat) : Int)) (by omega), cond_true, Option.bind_some, cond_true, hlv]; rfl
  rw [deF (p := (60 : Int) < ((List.length l : Nat) : Int)) (by omega), cond_false, Option.bind_some]
  by_cases c1 : 60 < List.length p
  · rw [deT (p := (60 : Int) < ((List.length p : Nat) : Int)) (by omega), cond_true, hlv]; rfl
  have hpl := pth_len (R := rt N) N l i (by omega)
  rw [deF (p := (60 : Int) < ((List.length p : Nat) : Int)) (by omega), cond_false, fits32 (by omega), cond_true, Path_ok (by omega) (by omega) hl, Option.bind_some, rPath_ok (by omega) (by omega) hl, Option.bind_some, Climb_ok hN1 hd (by omega) hp, Option.bind_some, rClimb_ok hN1 hd (by omega) hp, Option.bind_some,
    Root_ok (by omega) (by omega) hl, Option.bind_some, rRoot_ok (by omega) (by omega) hl, Option.bind_some, deS, cond_true, Same_ok (by omega) (by omega), Option.bind_some, cond_true]
  unfold granarylaw05_num
  rw [Option.bind_some, deS, cond_true, deS, cond_true, Option.bind_some, deS, cond_true, same1_eq, Same_ok (by omega) (by omega), Option.bind_some, cond_true, hlv]
  rfl

end Go.Rf.W.Pure
