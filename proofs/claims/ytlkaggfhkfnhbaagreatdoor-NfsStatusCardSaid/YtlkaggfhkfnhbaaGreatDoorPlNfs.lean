/-
  nfs: the look whether the program lives ('live'): reckoned once.
-/
import Derived.Test.YtlkaggfhkfnhbaaGreatDoorNfsF1
import Derived.Test.YtlkaggfhkfnhbaaGreatDoorPlBase
set_option linter.unusedVariables false
set_option maxRecDepth 100000
namespace Go.Rf.W.Pure
open Go Go.Rf Go.Rf.W

theorem nfs_live : granarylaw22_live 100 () = some true := by decide +kernel
#print axioms nfs_live
end Go.Rf.W.Pure
