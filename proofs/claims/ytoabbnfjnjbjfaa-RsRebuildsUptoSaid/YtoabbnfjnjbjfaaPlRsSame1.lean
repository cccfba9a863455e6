/-
  Package rs: the document's Same has two printed forms.
-/
import Derived.Test.YtoabbnfjnjbjfaaPlRsGen
set_option maxRecDepth 10000
namespace Go.Rf.W.Pure
open Go Go.Rf Go.Rf.W

theorem same_v : granaryref03_Same_v1 = granaryref03_Same := rfl

end Go.Rf.W.Pure
