/-
  The law's function, printed.
-/
import Derived.Test.YtoabbnfjnjbjfaaRsF0
set_option linter.unusedVariables false
set_option maxRecDepth 100000
namespace Go.Rf.W
open Go Go.Rf
noncomputable def granarylaw03_RsAny_b0 (N : Nat) (next : Int × Int × (List Int) × (List (List Int)) × Int × (List Bool) → Option (((List Bool)))) (x : Int × Int × (List Int) × (List (List Int)) × Int × (List Bool)) : Option (((List Bool))) :=
  (cond (decide (x.2.2.2.2.1 < (((List.length x.2.2.2.2.2) : Nat) : Int)))
  (cond ((decide ((0 : Int) ≤ x.2.2.2.2.1)) && (decide (x.2.2.2.2.1 < (((List.length x.2.2.2.2.2) : Nat) : Int))))
  ((let v3 : Nat := (Int.toNat x.2.2.2.2.1)
  (cond (decide (v3 < (List.length x.2.2.2.2.2)))
  ((next (x.1, x.2.1, x.2.2.1, x.2.2.2.1, (wrapF .i64 (x.2.2.2.2.1 + (1 : Int))), (List.set x.2.2.2.2.2 v3 true))))
  none)))
  none)
  (some x.2.2.2.2.2))
noncomputable def granarylaw03_RsAny_l0 (N : Nat) : Int × Int × (List Int) × (List (List Int)) × Int × (List Bool) → Option (((List Bool))) := loopF (granarylaw03_RsAny_b0 N) N
noncomputable def granarylaw03_RsAny_b2 (N : Nat) (next : Int × Int × (List Int) × (List (List Int)) × Int × Int × (List (List Int)) × (List Bool) → Option (((List (List Int)) × (List Bool)))) (x : Int × Int × (List Int) × (List (List Int)) × Int × Int × (List (List Int)) × (List Bool)) : Option (((List (List Int)) × (List Bool))) :=
  (Option.bind
  (cond (decide (x.2.2.2.2.2.1 < (((List.length x.2.2.1) : Nat) : Int)))
  (some (decide (x.2.2.2.2.1 < x.2.1)))
  (some false))
  fun r4 =>
  (cond r4
  (cond ((decide ((0 : Int) ≤ x.2.2.2.2.2.1)) && (decide (x.2.2.2.2.2.1 < (((List.length x.2.2.1) : Nat) : Int))))
  ((let v6 : Int := (wrapF .i64 (x.1 + x.2.1))
  (cond (!(decide (v6 = (0 : Int))))
  ((let v7 : Int := (Int.tmod (List.getD x.2.2.1 (Int.toNat x.2.2.2.2.2.1) (EK.dflt (.int .i64))) v6)
  (Option.bind
  (cond (decide (v7 < (0 : Int)))
  (some (wrapF .i64 ((wrapF .i64 (v7 + x.1)) + x.2.1)))
  (some v7))
  fun r11 =>
  (cond ((decide ((0 : Int) ≤ r11)) && (decide (r11 < (((List.length x.2.2.2.2.2.2.2) : Nat) : Int))))
  ((let v12 : Nat := (Int.toNat r11)
  (cond (decide (v12 < (List.length x.2.2.2.2.2.2.2)))
  ((Option.bind
  (cond (List.getD x.2.2.2.2.2.2.2 v12 (EK.dflt .bool))
  (cond ((decide ((0 : Int) ≤ r11)) && (decide (r11 < (((List.length x.2.2.2.2.2.2.2) : Nat) : Int))))
  ((let v14 : Nat := (Int.toNat r11)
  (cond (decide (v14 < (List.length x.2.2.2.2.2.2.2)))
  ((let v16 : List Int := ([(108 : Int), (111 : Int), (115 : Int), (116 : Int)] : List Int)
  (cond ((decide ((0 : Int) ≤ r11)) && (decide (r11 < (((List.length x.2.2.2.2.2.2.1) : Nat) : Int))))
  ((let v17 : Nat := (Int.toNat r11)
  (cond ((decide (4 ≤ (List.length v16))) && (decide (v17 < (List.length x.2.2.2.2.2.2.1))))
  ((some ((wrapF .i64 (x.2.2.2.2.1 + (1 : Int))), (List.set x.2.2.2.2.2.2.1 v17 (List.take 4 (List.drop 0 v16))), (List.set x.2.2.2.2.2.2.2 v14 false))))
  none)))
  none)))
  none)))
  none)
  (some (x.2.2.2.2.1, x.2.2.2.2.2.2.1, x.2.2.2.2.2.2.2)))
  fun r20 =>
  (next (x.1, x.2.1, x.2.2.1, x.2.2.2.1, r20.1, (wrapF .i64 (x.2.2.2.2.2.1 + (1 : Int))), r20.2.1, r20.2.2))))
  none)))
  none))))
  none)))
  none)
  (some (x.2.2.2.2.2.2.1, x.2.2.2.2.2.2.2))))
noncomputable def granarylaw03_RsAny_l2 (N : Nat) : Int × Int × (List Int) × (List (List Int)) × Int × Int × (List (List Int)) × (List Bool) → Option (((List (List Int)) × (List Bool))) := loopF (granarylaw03_RsAny_b2 N) N
noncomputable def granarylaw03_RsAny (N : Nat) (x : Int × Int × (List Int) × (List Int)) : Option (Bool) :=
  (Option.bind (granarylaw03_both N (x.1, x.2.1)) fun r1 =>
  (match r1 with
  | .inl y2 =>
  (cond (!y2)
  (cond y2
  (Option.bind (granarylaw03_live N ()) fun r5 =>
  (some r5))
  (some false))
  (cond (decide ((9000 : Int) < (((List.length x.2.2.1) : Nat) : Int)))
  (cond y2
  (Option.bind (granarylaw03_live N ()) fun r8 =>
  (some r8))
  (some false))
  (cond y2
  (Option.bind (granarylaw03_live N ()) fun r9 =>
  (some r9))
  (some false))))
  | .inr z3 =>
  (match z3 with
  | .inl y10 =>
  (some false)
  | .inr z11 =>
  (match z11 with
  | .inl y12 =>
  (some false)
  | .inr z13 =>
  (cond (!z13.1)
  (cond z13.1
  (Option.bind (granarylaw03_live N ()) fun r15 =>
  (some r15))
  (some false))
  (cond (decide ((9000 : Int) < (((List.length x.2.2.1) : Nat) : Int)))
  (cond z13.1
  (Option.bind (granarylaw03_live N ()) fun r18 =>
  (some r18))
  (some false))
  (cond (decide ((30 : Int) < (((List.length x.2.2.2) : Nat) : Int)))
  (cond z13.1
  (Option.bind (granarylaw03_live N ()) fun r21 =>
  (some r21))
  (some false))
  (Option.bind (granarylaw03_shards N (x.1, x.2.2.1)) fun r22 =>
  (Option.bind (rs_Code_Encode N (r22, z13.2.1, z13.2.2.1, z13.2.2.2.2.2)) fun r23 =>
  (Option.bind
  (Option.bind (granarylaw03_num r23.1) fun r24 =>
  (cond (!(decide (r24 = (0 : Int))))
  (some true)
  (some (!(decide ((((List.length r23.2.2.2.2) : Nat) : Int) = x.2.1))))))
  fun r28 =>
  (cond r28
  (Option.bind
  (cond (decide ((0 : Int) < (((List.length r22) : Nat) : Int)))
  ((cond (decide ((4096 : Int) < (((List.length (List.getD r22 0 (EK.dflt (.sl (.int .u8))))) : Nat) : Int)))
  (Option.bind (granarylaw03_live N ()) fun r32 =>
  (some r32))
  (some false)))
  none)
  fun r33 =>
  (some r33))
  (cond (fits 24 (List.length r22))
  ((cond (fits 24 ((List.length r22) + (List.length r23.2.2.2.2)))
  ((let v35 : List (List Int) := (r22 ++ r23.2.2.2.2)
  (Option.bind (granarylaw03_lent N v35) fun r36 =>
  (let v37 : Int := (wrapF .i64 (x.1 + x.2.1))
  (cond ((decide ((0 : Int) ≤ v37)) && (fits 1 (Int.toNat v37)))
  ((Option.bind (granarylaw03_RsAny_l0 N (x.1, x.2.1, x.2.2.2, v35, (0 : Int), (List.replicate (Int.toNat v37) (EK.dflt .bool)))) fun r39 =>
  (Option.bind (granarylaw03_RsAny_l2 N (x.1, x.2.1, x.2.2.2, v35, (0 : Int), (0 : Int), r36, r39)) fun r40 =>
  (Option.bind (rs_Code_Rebuild N (r40.1, r40.2, r23.2.1, r23.2.2.1, r23.2.2.2.1)) fun r41 =>
  (Option.bind (rs_Code_Check_v1 N (r41.2.2.2.2, r41.2.1, r41.2.2.1, r41.2.2.2.1)) fun r42 =>
  (Option.bind
  (Option.bind (granarylaw03_num r41.1) fun r43 =>
  (cond (decide (r43 = (0 : Int)))
  (Option.bind (granaryref03_Same_v1 N (r41.2.2.2.2, v35)) fun r45 =>
  (cond r45
  (Option.bind (granarylaw03_num r42.2.1) fun r46 =>
  (cond (decide (r46 = (0 : Int)))
  (cond r42.1
  (Option.bind (granarylaw03_live N ()) fun r48 =>
  (some r48))
  (some false))
  (some false)))
  (some false)))
  (some false)))
  fun r49 =>
  (some r49)))))))
  none)))))
  none))
  none))))))))))))
end Go.Rf.W
