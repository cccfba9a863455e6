/-
  Package rs: the laws' 'live' part.
-/
import Derived.Test.YtoabbnfjnjbjfaaRsF0
import Derived.Test.YtoabbnfjnjbjfaaPlBase
set_option linter.unusedVariables false
set_option maxRecDepth 100000
namespace Go.Rf.W.Pure
open Go Go.Rf Go.Rf.W

theorem rs_live : granarylaw03_live 1000 () = some true := by decide +kernel
end Go.Rf.W.Pure
