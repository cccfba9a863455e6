/-
  The law's function, printed.
-/
import Derived.Test.YtokfelhleojnjaaShaF0
set_option linter.unusedVariables false
set_option maxRecDepth 100000
namespace Go.Rf.W
open Go Go.Rf
noncomputable def granarylaw05_ShaPieces_b0 (N : Nat) (next : (List Int) × (List Int) × (List (List Int)) × Int × Int × Int × Int × (List Int) × Int × (List Int) → Option (Unit ⊕ (Int × Int × (List Int) × Int × (List Int)))) (x : (List Int) × (List Int) × (List (List Int)) × Int × Int × Int × Int × (List Int) × Int × (List Int)) : Option (Unit ⊕ (Int × Int × (List Int) × Int × (List Int))) :=
  (cond (decide (x.2.2.2.2.2.2.1 < (((List.length x.2.1) : Nat) : Int)))
  (Option.bind
  ((Option.bind
  (cond ((decide ((0 : Int) ≤ x.2.2.2.2.2.2.1)) && (decide (x.2.2.2.2.2.2.1 < (((List.length x.2.1) : Nat) : Int))))
  ((cond (decide ((List.getD x.2.1 (Int.toNat x.2.2.2.2.2.2.1) (EK.dflt (.int .i64))) < (0 : Int)))
  (some true)
  (cond ((decide ((0 : Int) ≤ x.2.2.2.2.2.2.1)) && (decide (x.2.2.2.2.2.2.1 < (((List.length x.2.1) : Nat) : Int))))
  ((some (decide ((wrapF .i64 ((((List.length x.1) : Nat) : Int) - x.2.2.2.2.1)) < (List.getD x.2.1 (Int.toNat x.2.2.2.2.2.2.1) (EK.dflt (.int .i64)))))))
  none)))
  none)
  fun r9 =>
  (cond r9
  (some (.inl (x.2.2.2.2.1, x.2.2.2.2.2.1, x.2.2.2.2.2.2.2.1, x.2.2.2.2.2.2.2.2.1, x.2.2.2.2.2.2.2.2.2)))
  (cond ((decide ((0 : Int) ≤ x.2.2.2.2.2.2.1)) && (decide (x.2.2.2.2.2.2.1 < (((List.length x.2.1) : Nat) : Int))))
  ((let v11 : Int := (wrapF .i64 (x.2.2.2.2.1 + (List.getD x.2.1 (Int.toNat x.2.2.2.2.2.2.1) (EK.dflt (.int .i64)))))
  (cond (((decide ((0 : Int) ≤ x.2.2.2.2.1)) && (decide (x.2.2.2.2.1 ≤ v11))) && (decide (v11 ≤ (((List.length x.1) : Nat) : Int))))
  ((Option.bind (sha_Hash_Write_v4 N ((List.take ((Int.toNat v11) - (Int.toNat x.2.2.2.2.1)) (List.drop (Int.toNat x.2.2.2.2.1) x.1)), x.2.2.2.2.2.2.2.1, x.2.2.2.2.2.2.2.2.1, x.2.2.2.2.2.2.2.2.2)) fun r13 =>
  (cond ((decide ((0 : Int) ≤ x.2.2.2.2.2.2.1)) && (decide (x.2.2.2.2.2.2.1 < (((List.length x.2.1) : Nat) : Int))))
  ((let v15 : Int := (wrapF .i64 (x.2.2.2.2.1 + (List.getD x.2.1 (Int.toNat x.2.2.2.2.2.2.1) (EK.dflt (.int .i64)))))
  (cond (((decide ((0 : Int) ≤ x.2.2.2.2.1)) && (decide (x.2.2.2.2.1 ≤ v15))) && (decide (v15 ≤ (((List.length x.1) : Nat) : Int))))
  ((Option.bind (sha_More N (x.2.2.2.2.2.1, (List.take ((Int.toNat v15) - (Int.toNat x.2.2.2.2.1)) (List.drop (Int.toNat x.2.2.2.2.1) x.1)))) fun r17 =>
  (cond ((decide ((0 : Int) ≤ x.2.2.2.2.2.2.1)) && (decide (x.2.2.2.2.2.2.1 < (((List.length x.2.1) : Nat) : Int))))
  ((let v19 : Int := (wrapF .i64 (x.2.2.2.2.1 + (List.getD x.2.1 (Int.toNat x.2.2.2.2.2.2.1) (EK.dflt (.int .i64)))))
  (Option.bind (sha_Hash_Save_v1 N (r13.1, r13.2.1, r13.2.2)) fun r20 =>
  (Option.bind (sha_Load N r20.2.2.2) fun r21 =>
  (match r21 with
  | .inl y22 =>
  (Option.bind (granarylaw05_num (51 : Int)) fun r24 =>
  (cond (!(decide (r24 = (0 : Int))))
  (some (.inr (())))
  (some (.inr (())))))
  | .inr z23 =>
  (Option.bind (granarylaw05_num (0 : Int)) fun r26 =>
  (cond (!(decide (r26 = (0 : Int))))
  (some (.inr (())))
  (Option.bind (sha_Hash_Sum N (r20.1, r20.2.1, r20.2.2.1)) fun r28 =>
  (cond ((decide ((0 : Int) ≤ v19)) && (decide (v19 ≤ (((List.length x.1) : Nat) : Int))))
  ((Option.bind (sha_Sum_v1 N (List.take (Int.toNat v19) (List.drop 0 x.1))) fun r30 =>
  (cond (!(decide (r28.1 = r30)))
  (some (.inr (())))
  (some (.inl (v19, r17, z23.1, z23.2.1, z23.2.2))))))
  none)))))))))
  none)))
  none)))
  none)))
  none)))
  none))) : Option ((Int × Int × (List Int) × Int × (List Int)) ⊕ (Unit)))
  fun r32 =>
  (match r32 with
  | .inl y33 =>
  (next (x.1, x.2.1, x.2.2.1, x.2.2.2.1, y33.1, y33.2.1, (wrapF .i64 (x.2.2.2.2.2.2.1 + (1 : Int))), y33.2.2.1, y33.2.2.2.1, y33.2.2.2.2))
  | .inr z34 =>
  (some (.inl ()))))
  (some (.inr ((x.2.2.2.2.1, x.2.2.2.2.2.1, x.2.2.2.2.2.2.2.1, x.2.2.2.2.2.2.2.2.1, x.2.2.2.2.2.2.2.2.2)))))
noncomputable def granarylaw05_ShaPieces_l0 (N : Nat) : (List Int) × (List Int) × (List (List Int)) × Int × Int × Int × Int × (List Int) × Int × (List Int) → Option (Unit ⊕ (Int × Int × (List Int) × Int × (List Int))) := loopF (granarylaw05_ShaPieces_b0 N) N
noncomputable def granarylaw05_ShaPieces (N : Nat) (x : (List Int) × (List Int) × (List (List Int)) × Int) : Option (Bool) :=
  (Option.bind
  (cond (decide ((9000 : Int) < (((List.length x.1) : Nat) : Int)))
  (some true)
  (cond (decide ((60 : Int) < (((List.length x.2.1) : Nat) : Int)))
  (some true)
  (some (decide ((60 : Int) < (((List.length x.2.2.1) : Nat) : Int))))))
  fun r7 =>
  (cond r7
  (Option.bind (granarylaw05_live N ()) fun r8 =>
  (some r8))
  (Option.bind (sha_New ()) fun r9 =>
  (Option.bind (granarylaw05_ShaPieces_l0 N (x.1, x.2.1, x.2.2.1, x.2.2.2, (0 : Int), (0 : Int), (0 : Int), r9, (0 : Int), ([] : List Int))) fun r10 =>
  (match r10 with
  | .inl y11 =>
  (some false)
  | .inr z12 =>
  (cond (((decide ((0 : Int) ≤ z12.1)) && (decide (z12.1 ≤ (((List.length x.1) : Nat) : Int)))) && (decide ((((List.length x.1) : Nat) : Int) ≤ (((List.length x.1) : Nat) : Int))))
  ((Option.bind (sha_Hash_Write_v4 N ((List.take ((List.length x.1) - (Int.toNat z12.1)) (List.drop (Int.toNat z12.1) x.1)), z12.2.2.1, z12.2.2.2.1, z12.2.2.2.2)) fun r14 =>
  (Option.bind
  (Option.bind (sha_Hash_Sum N (r14.1, r14.2.1, r14.2.2)) fun r15 =>
  (Option.bind (sha_Sum_v1 N x.1) fun r16 =>
  (cond (!(decide (r15.1 = r16)))
  (some (true, r15.2.1, r15.2.2.1, r15.2.2.2))
  (cond (((decide ((0 : Int) ≤ z12.1)) && (decide (z12.1 ≤ (((List.length x.1) : Nat) : Int)))) && (decide ((((List.length x.1) : Nat) : Int) ≤ (((List.length x.1) : Nat) : Int))))
  ((Option.bind (sha_More N (z12.2.1, (List.take ((List.length x.1) - (Int.toNat z12.1)) (List.drop (Int.toNat z12.1) x.1)))) fun r19 =>
  (Option.bind (sha_Crc_v1 N x.1) fun r20 =>
  (cond (!(decide (r19 = r20)))
  (some (true, r15.2.1, r15.2.2.1, r15.2.2.2))
  (Option.bind (sha_Hash_Len_v1 (r15.2.1, r15.2.2.1, r15.2.2.2)) fun r22 =>
  (some ((!(decide (r22.1 = (wrapF .u64 (((List.length x.1) : Nat) : Int))))), r22.2.1, r22.2.2.1, r22.2.2.2)))))))
  none))))
  fun r26 =>
  (cond r26.1
  (some false)
  (Option.bind
  (cond (decide (x.2.2.2 < (0 : Int)))
  (some true)
  (some (decide ((((List.length x.2.2.1) : Nat) : Int) ≤ x.2.2.2))))
  fun r30 =>
  (cond r30
  (Option.bind (granarylaw05_live N ()) fun r31 =>
  (some r31))
  (Option.bind (sha_Path_v1 N (x.2.2.1, x.2.2.2)) fun r32 =>
  (cond ((decide ((0 : Int) ≤ x.2.2.2)) && (decide (x.2.2.2 < (((List.length x.2.2.1) : Nat) : Int))))
  ((Option.bind (sha_Climb_v1 N ((List.getD x.2.2.1 (Int.toNat x.2.2.2) (EK.dflt (.arr 32 (.int .u8)))), x.2.2.2, (((List.length x.2.2.1) : Nat) : Int), r32.2)) fun r35 =>
  (Option.bind
  (Option.bind (granarylaw05_num r32.1) fun r37 =>
  (cond (decide (r37 = (0 : Int)))
  (Option.bind (granarylaw05_num r35.2) fun r39 =>
  (cond (decide (r39 = (0 : Int)))
  (Option.bind (sha_Root_v1 N x.2.2.1) fun r41 =>
  (cond (decide (r35.1 = r41))
  (Option.bind (granarylaw05_live N ()) fun r43 =>
  (some r43))
  (some false)))
  (some false)))
  (some false)))
  fun r44 =>
  (some r44))))
  none))))))))
  none))))))
end Go.Rf.W
