/-
  The document's product, of the field's elements (package rs's forms).
-/
import Derived.Test.YtoabbnfjnjbjfaaPlRsCode2
set_option maxRecDepth 10000
namespace Go.Rf.W.Pure
open Go Go.Rf Go.Rf.W Go.Rf.Lin

theorem rmulR {N : Nat} (hN : 20 ≤ N) (a b : G) : granaryref02_Mul N ((a.n : Int), (b.n : Int)) = some (((a * b).n : Nat) : Int) := by
  rw [refMul_eq (by omega) a.lt b.lt]; rfl

end Go.Rf.W.Pure
