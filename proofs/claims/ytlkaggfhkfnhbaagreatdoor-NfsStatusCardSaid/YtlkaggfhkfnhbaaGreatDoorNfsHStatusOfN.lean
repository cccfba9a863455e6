/-
  nfs.StatusOf of an error that wraps a number: errors.As walked by hand.
-/
import Derived.Test.YtlkaggfhkfnhbaaGreatDoorNfsK1
import Derived.Test.YtlkaggfhkfnhbaaGreatDoorPlAsR
set_option linter.unusedVariables false
namespace Go.Rf.W
open Go Go.Rf Go.Proofs Go.RowKit
def nfs_StatusOf_o : List (Shp × List Nat) := [(⟨[(0, (.av (.one (.int .u32))))], []⟩, [])]
def nfs_StatusOf_g (N : Nat) : GS := { ins := ⟨[(0, (.av (.one (.ierr false))))], []⟩, lend := [.keep], outs := nfs_StatusOf_o.map fun s => ssOf s.1, its := [.int, .nat], ots := [[.int]], F := nfs_StatusOf N }
theorem nfs_StatusOf_ok (N : Nat) : FnDoes Tryz.prog 22 (nfs_StatusOf_g N) := by
  refine ⟨⟨Tryz.f22, Tryz.func22, by kernel_rfl, by kernel_rfl⟩, ?_⟩
  rintro ⟨e, d⟩ y hx st0 hst rom ρ w vs hT hR hL hfree
  have hst' : embSt (nfs_StatusOf_g N).lend.length (nfs_StatusOf_g N).ins (encP (nfs_StatusOf_g N).its ((e, d) : PT (nfs_StatusOf_g N).its)) = some ⟨[.av (.one (.ierr false e d))], []⟩ := by rfl
  rw [hst'] at hst
  obtain rfl := Option.some.inj hst
  match vs, hT with
  | [v], ⟨h1, _⟩ =>
    have hE : ErrRel rom false e d v := h1
    have hx' : nfs_Status e = some y := hx
    refine (As.statusOf_num w e d v y (As.errW_of hR hE) (As.laid_of hR) fun w1 hB1 => ?_).mono ?_
    · refine ((nfs_Status_ok N).dos e y hx' ⟨[.av (.one (.int .i64 e))], []⟩ (by rfl) rom ρ w1 [.int .i64 e] ⟨rfl, trivial⟩ (As.rel_nil hR hB1) (fun id r g w h => by simp [hlink_def] at h) hfree).mono ?_
      rintro ev w2 ⟨u, st, rom', ρ', rfl, h2, h3, _, _, h4, _⟩
      have h5 : (nfs_Status_g N).out y = some ⟨[.av (.one (.int .u32 y))], []⟩ := by rfl
      rw [h5] at h2
      obtain rfl := Option.some.inj h2
      exact ⟨by rw [show u = .int .u32 y from h3], As.below_of h4⟩
    · rintro ev w1 ⟨rfl, hB⟩
      exact ⟨_, ⟨[.av (.one (.int .u32 y))], []⟩, rom, ρ, rfl, rfl, rfl, As.rel_nil hR hB, fun id r g w h => by simp [hlink_def] at h, As.tr_nil hB, hfree⟩
end Go.Rf.W
