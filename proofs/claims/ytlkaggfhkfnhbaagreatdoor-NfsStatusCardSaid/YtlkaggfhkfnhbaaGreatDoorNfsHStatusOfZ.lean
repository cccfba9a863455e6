/-
  nfs.StatusOf of no error.
-/
import Derived.Test.YtlkaggfhkfnhbaaGreatDoorNfsK2
import Derived.Test.YtlkaggfhkfnhbaaGreatDoorPlAsR
set_option linter.unusedVariables false
namespace Go.Rf.W
open Go Go.Rf Go.Proofs Go.RowKit
def nfs_StatusOf_v1_o : List (Shp × List Nat) := [(⟨[(0, (.av (.one (.int .u32))))], []⟩, [])]
def nfs_StatusOf_v1_g (N : Nat) : GS := { ins := ⟨[(0, (.av (.one (.const .nili))))], []⟩, lend := [.keep], outs := nfs_StatusOf_v1_o.map fun s => ssOf s.1, its := [], ots := [[.int]], F := nfs_StatusOf_v1 N }
theorem nfs_StatusOf_v1_ok (N : Nat) : FnDoes Tryz.prog 22 (nfs_StatusOf_v1_g N) := by
  refine ⟨⟨Tryz.f22, Tryz.func22, by kernel_rfl, by kernel_rfl⟩, ?_⟩
  rintro ⟨⟩ y hx st0 hst rom ρ w vs hT hR hL hfree
  have hst' : embSt (nfs_StatusOf_v1_g N).lend.length (nfs_StatusOf_v1_g N).ins (encP (nfs_StatusOf_v1_g N).its (() : PT (nfs_StatusOf_v1_g N).its)) = some ⟨[.av (.one .nili)], []⟩ := by rfl
  rw [hst'] at hst
  obtain rfl := Option.some.inj hst
  match vs, hT with
  | [v], ⟨h1, _⟩ =>
    have hE : v = .nilIface := h1
    subst hE
    have hx' : @Eq (Option Int) (some 0) (some y) := hx
    obtain rfl := Option.some.inj hx'
    refine (As.statusOf_nil w).mono ?_
    rintro ev w1 ⟨rfl, hB⟩
    exact ⟨_, ⟨[.av (.one (.int .u32 0))], []⟩, rom, ρ, rfl, rfl, rfl, As.rel_nil hR hB, fun id r g w h => by simp [hlink_def] at h, As.tr_nil hB, hfree⟩
end Go.Rf.W
