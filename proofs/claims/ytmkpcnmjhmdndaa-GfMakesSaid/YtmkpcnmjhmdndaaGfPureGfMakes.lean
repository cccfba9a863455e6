/-
  Identities and powers of every sides: the program's printed functions answer as the reference's.
-/
import Derived.Test.YtmkpcnmjhmdndaaGfFGfMakes
import Derived.Test.YtmkpcnmjhmdndaaPlGfRow
import Derived.Test.YtmkpcnmjhmdndaaRfC
set_option linter.unusedVariables false
set_option linter.unusedSimpArgs false
namespace Go.Rf.W.Pure
open Go Go.Rf Go.Rf.W Go.Rf.Gf

theorem live300m : granarylaw02_live 300 () = some true := by decide +kernel

theorem gfMakes (x : EKs [(.int .i64), (.int .i64)]) (hw : wfs [(.int .i64), (.int .i64)] x) : ∃ N, granarylaw02_GfMakes N (x.1, x.2) = some true := by
  obtain ⟨m, n⟩ := x
  change Int at m n
  refine ⟨300, ?_⟩
  obtain ⟨r, h1, h2, _⟩ := identity_same (N := 300) (n := m) (by omega)
  obtain ⟨s, h3, h4⟩ := powers_same (N := 300) (m := m) (n := n) (by omega)
  simp only [granarylaw02_GfMakes, h1, h2, h3, h4, Option.bind_some, same_refl, cond_true, live300m]

end Go.Rf.W.Pure
