/-
  Nil writers and readers: the plain law.
-/
import Derived.Test.YtabkbpilajgcnaaXdrFXdrNil
import Derived.Test.YtabkbpilajgcnaaPlXdr
import Derived.Test.YtabkbpilajgcnaaRfC
set_option linter.unusedVariables false
set_option maxRecDepth 10000
namespace Go.Rf.W.Pure
open Go Go.Rf Go.Rf.W

theorem list_nil (x : Int) : xdr_List_uint32 20 x = some () := by
  unfold xdr_List_uint32
  rw [show xdr_Reader_length_v1 x = some () from rfl, Option.bind_some, show xdr_List_uint32_l0 20 () = some () from rfl, Option.bind_some]
  rfl

theorem chain_nil (x : Int) : xdr_Chain_string 20 x = some () := by
  unfold xdr_Chain_string xdr_Chain_string_l0
  rw [show loopF (xdr_Chain_string_b0 20) 20 x = xdr_Chain_string_b0 20 (loopF (xdr_Chain_string_b0 20) 19) x from rfl]
  unfold xdr_Chain_string_b0
  rw [bool_v1]
  rfl

theorem option_nil : xdr_Option_uint32 () = some () := by
  unfold xdr_Option_uint32
  rw [bool_v1]
  rfl

theorem xdrNil (x : EKs [(.sl (.int .u8)), (.int .i64)]) (hw : wfs [(.sl (.int .u8)), (.int .i64)] x) : ∃ N, granarylaw01_XdrNil N (x.1, x.2) = some true := by
  refine ⟨20, ?_⟩
  unfold granarylaw01_XdrNil
  dsimp only
  cases decide ((60000 : Int) < _)
  · rw [cond_false]
    rw [show xdr_Writer_Uint_v2 1 = some () from rfl, Option.bind_some]
    rw [show xdr_Writer_Int 1 = some () from rfl, Option.bind_some]
    rw [show xdr_Writer_Hyper 1 = some () from rfl, Option.bind_some]
    rw [show xdr_Writer_Bool true = some () from rfl, Option.bind_some]
    rw [show xdr_Writer_Fixed_v1 _ = some () from rfl, Option.bind_some]
    rw [show xdr_Writer_Opaque_v1 _ = some () from rfl, Option.bind_some]
    rw [show xdr_Writer_Text_v1 _ = some () from rfl, Option.bind_some]
    rw [show decide (1 ≤ [(1 : Int)].length) = true from rfl, cond_true, cond_true]
    rw [show xdr_PutList_uint32 _ = some () from rfl, Option.bind_some]
    rw [show decide (1 ≤ [([97] : List UInt8)].length) = true from rfl, cond_true, cond_true]
    rw [show xdr_PutChain_string _ = some () from rfl, Option.bind_some]
    rw [show xdr_PutOption_uint32 () = some () from rfl, Option.bind_some]
    rw [show xdr_Reader_Why_v1 () = some () from rfl, Option.bind_some]
    rw [show xdr_Writer_Why () = some () from rfl, Option.bind_some]
    rw [show granarylaw01_num 0 = some 0 from rfl, Option.bind_some]
    rw [show xdr_Writer_Bytes_v1 () = some () from rfl, Option.bind_some]
    rw [show xdr_Reader_Uint_v1 () = some () from rfl, Option.bind_some]
    rw [show xdr_Reader_Int () = some () from rfl, Option.bind_some]
    rw [show xdr_Reader_Hyper () = some () from rfl, Option.bind_some]
    rw [bool_v1, Option.bind_some, enum_v1, Option.bind_some]
    rw [show xdr_Reader_Fixed _ = some () from rfl, Option.bind_some]
    rw [show xdr_Reader_Opaque_v1 _ = some () from rfl, Option.bind_some]
    rw [show xdr_Reader_Text_v1 _ = some [] from rfl, Option.bind_some]
    rw [show xdr_Reader_At_v1 _ = some () from rfl, Option.bind_some]
    rw [show xdr_Reader_Left _ = some () from rfl, Option.bind_some]
    rw [show xdr_Reader_Done_v1 _ = some () from rfl, Option.bind_some]
    rw [list_nil, Option.bind_some, chain_nil, Option.bind_some, option_nil, Option.bind_some, xdr_live]
    rfl
  · rw [cond_true, xdr_live]
    rfl

end Go.Rf.W.Pure
