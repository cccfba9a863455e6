/-
  The law's function, printed.
-/
import Derived.Test.YtabkbpilajgcnaaXdrF0
set_option linter.unusedVariables false
set_option maxRecDepth 100000
namespace Go.Rf.W
open Go Go.Rf
def granarylaw01_XdrNil (N : Nat) (x : (List Int) × Int) : Option (Bool) :=
  (cond (decide ((60000 : Int) < (((List.length x.1) : Nat) : Int)))
  (Option.bind (granarylaw01_live N ()) fun r3 =>
  (some r3))
  (Option.bind (xdr_Writer_Uint_v2 (1 : Int)) fun r4 =>
  (Option.bind (xdr_Writer_Int (1 : Int)) fun r5 =>
  (Option.bind (xdr_Writer_Hyper (1 : Int)) fun r6 =>
  (Option.bind (xdr_Writer_Bool true) fun r7 =>
  (Option.bind (xdr_Writer_Fixed_v1 x.1) fun r8 =>
  (Option.bind (xdr_Writer_Opaque_v1 (x.1, x.2)) fun r9 =>
  (Option.bind (xdr_Writer_Text_v1 ((List.map (fun (n : Int) => UInt8.ofNat n.toNat) x.1), x.2)) fun r11 =>
  (let v12 : List Int := ([(1 : Int)] : List Int)
  (cond (cond (decide (1 ≤ (List.length v12))) true false)
  (Option.bind (xdr_PutList_uint32 ((List.take 1 (List.drop 0 v12)), x.2)) fun r13 =>
  (let v14 : List (List UInt8) := ([([97] : List UInt8)] : List (List UInt8))
  (cond (cond (decide (1 ≤ (List.length v14))) true false)
  (Option.bind (xdr_PutChain_string (List.take 1 (List.drop 0 v14))) fun r15 =>
  (Option.bind (xdr_PutOption_uint32 ()) fun r16 =>
  (Option.bind (xdr_Reader_Why_v1 ()) fun r17 =>
  (Option.bind
  (Option.bind (xdr_Writer_Why ()) fun r18 =>
  (Option.bind (granarylaw01_num (0 : Int)) fun r19 =>
  (cond (decide (r19 = (0 : Int)))
  (Option.bind (xdr_Writer_Bytes_v1 ()) fun r21 =>
  (Option.bind (xdr_Reader_Uint_v1 ()) fun r22 =>
  (Option.bind (xdr_Reader_Int ()) fun r23 =>
  (Option.bind (xdr_Reader_Hyper ()) fun r24 =>
  (Option.bind (xdr_Reader_Bool_v1 ()) fun r25 =>
  (Option.bind (xdr_Reader_Enum (1 : Int)) fun r26 =>
  (Option.bind (xdr_Reader_Fixed x.2) fun r27 =>
  (Option.bind (xdr_Reader_Opaque_v1 x.2) fun r28 =>
  (Option.bind (xdr_Reader_Text_v1 x.2) fun r29 =>
  (cond (decide (r29 = ([] : List UInt8)))
  (Option.bind (xdr_Reader_At_v1 ()) fun r31 =>
  (Option.bind (xdr_Reader_Left ()) fun r32 =>
  (Option.bind (granarylaw01_num (0 : Int)) fun r33 =>
  (cond (decide (r33 = (0 : Int)))
  (Option.bind (xdr_Reader_Done_v1 ()) fun r35 =>
  (Option.bind (granarylaw01_num (0 : Int)) fun r36 =>
  (cond (decide (r36 = (0 : Int)))
  (Option.bind (xdr_List_uint32 N x.2) fun r38 =>
  (Option.bind (xdr_Chain_string N x.2) fun r39 =>
  (Option.bind (xdr_Option_uint32 ()) fun r40 =>
  (Option.bind (granarylaw01_live N ()) fun r41 =>
  (some r41)))))
  (some false))))
  (some false)))))
  (some false)))))))))))
  (some false))))
  fun r42 =>
  (some r42)))))
  none)))
  none))))))))))
end Go.Rf.W
