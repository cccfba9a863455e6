/-
  The law's function, printed.
-/
import Derived.Test.YtabkbpilajgcnaaXdrF0
set_option linter.unusedVariables false
set_option maxRecDepth 100000
namespace Go.Rf.W
open Go Go.Rf
noncomputable def granarylaw01_XdrOne_b0 (N : Nat) (next : (List Int) × Int × Int → Option (Unit ⊕ Unit)) (x : (List Int) × Int × Int) : Option (Unit ⊕ Unit) :=
  (cond (decide (x.2.2 < (4 : Int)))
  (Option.bind (xdr_NewReader_v1 x.1) fun r2 =>
  (Option.bind (xdr_NewWriter ()) fun r3 =>
  (Option.bind
  (cond (decide (x.2.2 = (0 : Int)))
  (Option.bind (xdr_Reader_Bool N ((0 : Int), (0 : Int), (0 : Int), r2)) fun r5 =>
  (Option.bind (xdr_Writer_Bool_v1 N (r5.1, (0 : Int))) fun r6 =>
  (some (r5.2.1, r5.2.2.1, r5.2.2.2.1, r5.2.2.2.2, r6.1, r6.2))))
  (Option.bind
  (cond (decide (x.2.2 = (1 : Int)))
  (Option.bind (xdr_Reader_Text N (x.2.1, (0 : Int), (0 : Int), (0 : Int), r2)) fun r8 =>
  (Option.bind (xdr_Writer_Text_v2 N (r8.1, (((List.length r8.1) : Nat) : Int), (0 : Int))) fun r10 =>
  (some (r8.2.1, r8.2.2.1, r8.2.2.2.1, r8.2.2.2.2, r10.1, r10.2))))
  (Option.bind
  (cond (decide (x.2.2 = (2 : Int)))
  (Option.bind (xdr_List_string N (x.2.1, (0 : Int), (0 : Int), (0 : Int), r2)) fun r12 =>
  (Option.bind (xdr_PutList_string N (r12.2.2.2.2, (((List.length r12.2.2.2.2) : Nat) : Int), (0 : Int))) fun r14 =>
  (some (r12.1, r12.2.1, r12.2.2.1, r12.2.2.2.1, r14.1, r14.2))))
  (Option.bind
  (cond (decide (x.2.2 = (3 : Int)))
  (Option.bind (xdr_Chain_string_v1 N (x.2.1, (0 : Int), (0 : Int), (0 : Int), r2)) fun r16 =>
  (Option.bind (xdr_PutChain_string_v1 N (r16.2.2.2.2, (0 : Int))) fun r17 =>
  (some (r16.1, r16.2.1, r16.2.2.1, r16.2.2.2.1, r17.1, r17.2))))
  (some ((0 : Int), (0 : Int), (0 : Int), r2, (0 : Int), ([] : List Int))))
  fun r18 =>
  (some (r18.1, r18.2.1, r18.2.2.1, r18.2.2.2.1, r18.2.2.2.2.1, r18.2.2.2.2.2))))
  fun r19 =>
  (some (r19.1, r19.2.1, r19.2.2.1, r19.2.2.2.1, r19.2.2.2.2.1, r19.2.2.2.2.2))))
  fun r20 =>
  (some (r20.1, r20.2.1, r20.2.2.1, r20.2.2.2.1, r20.2.2.2.2.1, r20.2.2.2.2.2))))
  fun r21 =>
  (Option.bind (xdr_Reader_Why (r21.1, r21.2.1, r21.2.2.1, r21.2.2.2.1)) fun r22 =>
  (Option.bind
  (Option.bind (granarylaw01_num r22.1) fun r23 =>
  (cond (decide (r23 = (0 : Int)))
  (Option.bind (xdr_Writer_Why_v1 (r21.2.2.2.2.1, r21.2.2.2.2.2)) fun r25 =>
  (Option.bind (granarylaw01_num r25.1) fun r26 =>
  (cond (!(decide (r26 = (0 : Int))))
  (some (true, r22.2.2.1, r22.2.2.2.1, r22.2.2.2.2.1, r22.2.2.2.2.2, r25.2.1, r25.2.2))
  (Option.bind (xdr_Reader_At (r22.2.2.1, r22.2.2.2.1, r22.2.2.2.2.1, r22.2.2.2.2.2)) fun r28 =>
  (cond (decide ((((List.length x.1) : Nat) : Int) < r28.1))
  (some (true, r28.2.1, r28.2.2.1, r28.2.2.2.1, r28.2.2.2.2, r25.2.1, r25.2.2))
  (Option.bind (xdr_Writer_Bytes (r25.2.1, r25.2.2)) fun r31 =>
  (Option.bind (xdr_Reader_At (r28.2.1, r28.2.2.1, r28.2.2.2.1, r28.2.2.2.2)) fun r33 =>
  (cond ((decide ((0 : Int) ≤ r33.1)) && (decide (r33.1 ≤ (((List.length x.1) : Nat) : Int))))
  ((some ((!(decide ((List.map (fun (n : Int) => UInt8.ofNat n.toNat) r31.2.2) = (List.map (fun (n : Int) => UInt8.ofNat n.toNat) (List.take (Int.toNat r33.1) (List.drop 0 x.1)))))), r33.2.1, r33.2.2.1, r33.2.2.2.1, r33.2.2.2.2, r31.1, r31.2.1)))
  none))))))))
  (some (false, r22.2.2.1, r22.2.2.2.1, r22.2.2.2.2.1, r22.2.2.2.2.2, r21.2.2.2.2.1, r21.2.2.2.2.2))))
  fun r37 =>
  (cond r37.1
  (some (.inl ()))
  (next (x.1, x.2.1, (wrapF .i64 (x.2.2 + (1 : Int)))))))))))
  (some (.inr (()))))
noncomputable def granarylaw01_XdrOne_l0 (N : Nat) : (List Int) × Int × Int → Option (Unit ⊕ Unit) := loopF (granarylaw01_XdrOne_b0 N) N
noncomputable def granarylaw01_XdrOne (N : Nat) (x : (List Int) × Int) : Option (Bool) :=
  (cond (decide ((60000 : Int) < (((List.length x.1) : Nat) : Int)))
  (Option.bind (granarylaw01_live N ()) fun r3 =>
  (some r3))
  (Option.bind (granarylaw01_XdrOne_l0 N (x.1, x.2, (0 : Int))) fun r4 =>
  (match r4 with
  | .inl y5 =>
  (some false)
  | .inr z6 =>
  (Option.bind (granarylaw01_live N ()) fun r7 =>
  (some r7)))))
end Go.Rf.W
