/-
  nfs.StatusOf of an error that wraps no number: errors.As walked by hand.
-/
import Derived.Test.YtlkaggfhkfnhbaaGreatDoorNfsHStatusOfZ
import Derived.Test.YtlkaggfhkfnhbaaGreatDoorPlAsR
set_option linter.unusedVariables false
namespace Go.Rf.W
open Go Go.Rf Go.Proofs Go.RowKit
def nfs_StatusOf_v2_o : List (Shp × List Nat) := [(⟨[(0, (.av (.one (.int .u32))))], []⟩, [])]
def nfs_StatusOf_v2_g (N : Nat) : GS := { ins := ⟨[(0, (.av (.one (.ierr true))))], []⟩, lend := [.keep], outs := nfs_StatusOf_v2_o.map fun s => ssOf s.1, its := [.int, .nat], ots := [[.int]], F := nfs_StatusOf_v2 N }
theorem nfs_StatusOf_v2_ok (N : Nat) : FnDoes Tryz.prog 22 (nfs_StatusOf_v2_g N) := by
  refine ⟨⟨Tryz.f22, Tryz.func22, by kernel_rfl, by kernel_rfl⟩, ?_⟩
  rintro ⟨e, d⟩ y hx st0 hst rom ρ w vs hT hR hL hfree
  have hst' : embSt (nfs_StatusOf_v2_g N).lend.length (nfs_StatusOf_v2_g N).ins (encP (nfs_StatusOf_v2_g N).its ((e, d) : PT (nfs_StatusOf_v2_g N).its)) = some ⟨[.av (.one (.ierr true e d))], []⟩ := by rfl
  rw [hst'] at hst
  obtain rfl := Option.some.inj hst
  match vs, hT with
  | [v], ⟨h1, _⟩ =>
    have hE : ErrRel rom true e d v := h1
    have hx' : @Eq (Option Int) (some 10006) (some y) := hx
    obtain rfl := Option.some.inj hx'
    refine (As.statusOf_odd w e d v (As.errW_of hR hE) (As.laid_of hR)).mono ?_
    rintro ev w1 ⟨rfl, hB⟩
    exact ⟨_, ⟨[.av (.one (.int .u32 10006))], []⟩, rom, ρ, rfl, rfl, rfl, As.rel_nil hR hB, fun id r g w h => by simp [hlink_def] at h, As.tr_nil hB, hfree⟩
end Go.Rf.W
