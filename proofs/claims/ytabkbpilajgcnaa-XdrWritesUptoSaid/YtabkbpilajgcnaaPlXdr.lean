/-
  Package xdr: the law's own check, nil writers and readers.
-/
import Derived.Test.YtabkbpilajgcnaaXdrF0
import Derived.Test.YtabkbpilajgcnaaPlBase
set_option linter.unusedVariables false
set_option maxRecDepth 100000
namespace Go.Rf.W.Pure
open Go Go.Rf Go.Rf.W

theorem xdr_live : granarylaw01_live 20 () = some true := by decide +kernel

theorem most_v1 (x : Int × Int) : xdr_Reader_most_v1 x = some () := by
  unfold xdr_Reader_most_v1
  try dsimp only
  rw [show xdr_Reader_At_v1 () = some () from rfl, Option.bind_some, show xdr_Reader_Uint_v1 () = some () from rfl, Option.bind_some]
  cases decide (x.1 < 0) <;> rfl

theorem bool_v1 : xdr_Reader_Bool_v1 () = some () := by
  unfold xdr_Reader_Bool_v1
  rw [most_v1]
  rfl

theorem enum_v1 (x : Int) : xdr_Reader_Enum x = some () := by
  unfold xdr_Reader_Enum
  rw [most_v1]
  rfl
end Go.Rf.W.Pure
