/-
  The law's function, printed.
-/
import Derived.Test.YtmkpcnmjhmdndaaGfF0
set_option linter.unusedVariables false
set_option maxRecDepth 100000
namespace Go.Rf.W
open Go Go.Rf
def granarylaw02_GfMakes (N : Nat) (x : Int × Int) : Option (Bool) :=
  (Option.bind (gf_Identity N x.1) fun r1 =>
  (Option.bind (granaryref02_Identity N x.1) fun r2 =>
  (Option.bind (gf_Powers N (x.1, x.2)) fun r3 =>
  (Option.bind (granaryref02_Powers N (x.1, x.2)) fun r4 =>
  (Option.bind
  (Option.bind (granarylaw02_same (r1.1, r1.2.1, r1.2.2.2, r1.2.2.1, r2.1, r2.2.1, r2.2.2.2, r2.2.2.1)) fun r5 =>
  (cond r5
  (Option.bind (granarylaw02_same (r3.1, r3.2.1, r3.2.2.2, r3.2.2.1, r4.1, r4.2.1, r4.2.2.2, r4.2.2.1)) fun r6 =>
  (cond r6
  (Option.bind (granarylaw02_live N ()) fun r7 =>
  (some r7))
  (some false)))
  (some false)))
  fun r8 =>
  (some r8))))))
end Go.Rf.W
