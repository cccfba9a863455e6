/-
  The law's function, printed.
-/
import Derived.Test.YtabkbpilajgcnaaXdrF0
set_option linter.unusedVariables false
set_option maxRecDepth 100000
namespace Go.Rf.W
open Go Go.Rf
noncomputable def granarylaw01_XdrBack_b0 (N : Nat) (next : Int × Int × Bool × (List UInt8) × (List Int) × (List (List UInt8)) × Int → Option (Bool ⊕ Unit)) (x : Int × Int × Bool × (List UInt8) × (List Int) × (List (List UInt8)) × Int) : Option (Bool ⊕ Unit) :=
  (cond (decide (x.2.2.2.2.2.2 < (((List.length x.2.2.2.2.2.1) : Nat) : Int)))
  (cond ((decide ((0 : Int) ≤ x.2.2.2.2.2.2)) && (decide (x.2.2.2.2.2.2 < (((List.length x.2.2.2.2.2.1) : Nat) : Int))))
  ((cond (decide ((7 : Int) < (((List.length (List.getD x.2.2.2.2.2.1 (Int.toNat x.2.2.2.2.2.2) (EK.dflt .str))) : Nat) : Int)))
  (Option.bind (granarylaw01_live N ()) fun r6 =>
  (some (.inl r6)))
  (next (x.1, x.2.1, x.2.2.1, x.2.2.2.1, x.2.2.2.2.1, x.2.2.2.2.2.1, (wrapF .i64 (x.2.2.2.2.2.2 + (1 : Int)))))))
  none)
  (some (.inr (()))))
noncomputable def granarylaw01_XdrBack_l0 (N : Nat) : Int × Int × Bool × (List UInt8) × (List Int) × (List (List UInt8)) × Int → Option (Bool ⊕ Unit) := loopF (granarylaw01_XdrBack_b0 N) N
noncomputable def granarylaw01_XdrBack (N : Nat) (x : Int × Int × Int × Bool × (List UInt8) × (List Int) × (List (List UInt8))) : Option (Bool) :=
  (Option.bind
  (cond (decide ((60000 : Int) < (wrapF .i64 ((((List.length x.2.2.2.2.1) : Nat) : Int) + (wrapF .i64 ((8 : Int) * (((List.length x.2.2.2.2.2.1) : Nat) : Int)))))))
  (some true)
  (some (decide ((60 : Int) < (((List.length x.2.2.2.2.2.2) : Nat) : Int)))))
  fun r8 =>
  (cond r8
  (Option.bind (granarylaw01_live N ()) fun r9 =>
  (some r9))
  (Option.bind (granarylaw01_XdrBack_l0 N (x.2.1, x.2.2.1, x.2.2.2.1, x.2.2.2.2.1, x.2.2.2.2.2.1, x.2.2.2.2.2.2, (0 : Int))) fun r10 =>
  (match r10 with
  | .inl y11 =>
  (some y11)
  | .inr z12 =>
  (Option.bind (xdr_NewWriter ()) fun r13 =>
  (Option.bind (xdr_Writer_Uint N (x.1, (0 : Int))) fun r14 =>
  (Option.bind (xdr_Writer_Int_v1 N (x.2.1, r14.1, r14.2)) fun r15 =>
  (Option.bind (xdr_Writer_Hyper_v1 N (x.2.2.1, r15.1, r15.2)) fun r16 =>
  (Option.bind (xdr_Writer_Bool_v2 N (x.2.2.2.1, r16.1, r16.2)) fun r17 =>
  (Option.bind (xdr_Writer_Text N (x.2.2.2.2.1, (((List.length x.2.2.2.2.1) : Nat) : Int), r17.1, r17.2)) fun r19 =>
  (Option.bind (xdr_Writer_Fixed_v2 N ((List.map (fun b => (b.toNat : Int)) x.2.2.2.2.1), r19.1, r19.2)) fun r21 =>
  (Option.bind (xdr_PutList_uint32_v1 N (x.2.2.2.2.2.1, (((List.length x.2.2.2.2.2.1) : Nat) : Int), r21.1, r21.2)) fun r23 =>
  (Option.bind (xdr_PutChain_string_v2 N (x.2.2.2.2.2.2, r23.1, r23.2)) fun r24 =>
  (Option.bind (xdr_PutOption_uint32_v1 N (r24.1, x.1, r24.2)) fun r25 =>
  (Option.bind (xdr_Writer_Bytes (r25.1, r25.2.2)) fun r26 =>
  (Option.bind (xdr_NewReader r26.2.2) fun r27 =>
  (Option.bind
  (Option.bind (xdr_Writer_Why_v1 (r26.1, r26.2.1)) fun r28 =>
  (Option.bind (granarylaw01_num r28.1) fun r29 =>
  (cond (!(decide (r29 = (0 : Int))))
  (some (true, r28.2.1, r28.2.2, (0 : Int), (0 : Int), (0 : Int), r27))
  (cond (!(decide ((Int.tmod (((List.length r26.2.2) : Nat) : Int) (4 : Int)) = (0 : Int))))
  (some (true, r28.2.1, r28.2.2, (0 : Int), (0 : Int), (0 : Int), r27))
  (Option.bind (xdr_Reader_Uint N ((0 : Int), (0 : Int), (0 : Int), r27)) fun r34 =>
  (cond (!(decide (r34.1 = r25.2.1)))
  (some (true, r28.2.1, r28.2.2, r34.2.1, r34.2.2.1, r34.2.2.2.1, r34.2.2.2.2))
  (Option.bind (xdr_Reader_Int_v1 N (r34.2.1, r34.2.2.1, r34.2.2.2.1, r34.2.2.2.2)) fun r36 =>
  (cond (!(decide (r36.1 = x.2.1)))
  (some (true, r28.2.1, r28.2.2, r36.2.1, r36.2.2.1, r36.2.2.2.1, r36.2.2.2.2))
  (Option.bind (xdr_Reader_Hyper_v1 N (r36.2.1, r36.2.2.1, r36.2.2.2.1, r36.2.2.2.2)) fun r38 =>
  (cond (!(decide (r38.1 = x.2.2.1)))
  (some (true, r28.2.1, r28.2.2, r38.2.1, r38.2.2.1, r38.2.2.2.1, r38.2.2.2.2))
  (Option.bind (xdr_Reader_Bool N (r38.2.1, r38.2.2.1, r38.2.2.2.1, r38.2.2.2.2)) fun r40 =>
  (cond (!(r40.1 == x.2.2.2.1))
  (some (true, r28.2.1, r28.2.2, r40.2.1, r40.2.2.1, r40.2.2.2.1, r40.2.2.2.2))
  (Option.bind (xdr_Reader_Text N ((((List.length x.2.2.2.2.1) : Nat) : Int), r40.2.1, r40.2.2.1, r40.2.2.2.1, r40.2.2.2.2)) fun r43 =>
  (cond (!(decide (r43.1 = x.2.2.2.2.1)))
  (some (true, r28.2.1, r28.2.2, r43.2.1, r43.2.2.1, r43.2.2.2.1, r43.2.2.2.2))
  (Option.bind (xdr_Reader_Fixed_v1 N ((((List.length x.2.2.2.2.1) : Nat) : Int), r43.2.1, r43.2.2.1, r43.2.2.2.1, r43.2.2.2.2)) fun r46 =>
  (cond (!(decide ((List.map (fun (n : Int) => UInt8.ofNat n.toNat) r46.2.2.2.2) = x.2.2.2.2.1)))
  (some (true, r28.2.1, r28.2.2, r46.1, r46.2.1, r46.2.2.1, r46.2.2.2.1))
  (Option.bind (xdr_List_uint32_v1 N ((((List.length x.2.2.2.2.2.1) : Nat) : Int), r46.1, r46.2.1, r46.2.2.1, r46.2.2.2.1)) fun r50 =>
  (Option.bind (granarylaw01_same N (r50.2.2.2.2, x.2.2.2.2.2.1)) fun r51 =>
  (cond (!r51)
  (some (true, r28.2.1, r28.2.2, r50.1, r50.2.1, r50.2.2.1, r50.2.2.2.1))
  (Option.bind (xdr_Chain_string_v1 N ((((List.length x.2.2.2.2.2.2) : Nat) : Int), r50.1, r50.2.1, r50.2.2.1, r50.2.2.2.1)) fun r54 =>
  (Option.bind (granarylaw01_texts N (r54.2.2.2.2, x.2.2.2.2.2.2)) fun r55 =>
  (some ((!r55), r28.2.1, r28.2.2, r54.1, r54.2.1, r54.2.2.1, r54.2.2.2.1)))))))))))))))))))))))
  fun r57 =>
  (cond r57.1
  (some false)
  (Option.bind (xdr_Option_uint32_v1 N (r57.2.2.2.1, r57.2.2.2.2.1, r57.2.2.2.2.2.1, r57.2.2.2.2.2.2)) fun r58 =>
  (match r58 with
  | .inl y59 =>
  (some false)
  | .inr z60 =>
  (cond (decide (z60.2.2.2.2 = r25.2.1))
  (Option.bind (xdr_Reader_Done (z60.1, z60.2.1, z60.2.2.1, z60.2.2.2.1)) fun r62 =>
  (Option.bind (granarylaw01_num r62.1) fun r63 =>
  (cond (decide (r63 = (0 : Int)))
  (Option.bind (granarylaw01_live N ()) fun r65 =>
  (some r65))
  (some false))))
  (some false))))))))))))))))))))))
end Go.Rf.W
