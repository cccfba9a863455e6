/-
  The law's function, printed.
-/
import Derived.Test.YtoabbnfjnjbjfaaRsF0
set_option linter.unusedVariables false
set_option maxRecDepth 100000
namespace Go.Rf.W
open Go Go.Rf
noncomputable def granarylaw03_RsChanges_b2 (N : Nat) (next : Int × Int × (List Int) × (List (List Int)) × (List (List Int)) × (List (List Int)) × (List (List Int)) × Int × Int × (List Int) → Option (((List Int)))) (x : Int × Int × (List Int) × (List (List Int)) × (List (List Int)) × (List (List Int)) × (List (List Int)) × Int × Int × (List Int)) : Option (((List Int))) :=
  (cond (decide (x.2.2.2.2.2.2.2.2.1 < (((List.length x.2.2.2.2.2.2.2.2.2) : Nat) : Int)))
  (cond ((decide ((0 : Int) ≤ x.2.2.2.2.2.2.2.2.1)) && (decide (x.2.2.2.2.2.2.2.2.1 < (((List.length x.2.2.2.2.2.2.2.2.2) : Nat) : Int))))
  ((let v3 : Nat := (Int.toNat x.2.2.2.2.2.2.2.2.1)
  (cond (decide (v3 < (List.length x.2.2.2.2.2.2.2.2.2)))
  ((cond ((decide ((0 : Int) ≤ x.2.2.2.2.2.2.2.1)) && (decide (x.2.2.2.2.2.2.2.1 < (((List.length x.2.2.2.2.1) : Nat) : Int))))
  ((let v5 : (List Int) := (List.getD x.2.2.2.2.1 (Int.toNat x.2.2.2.2.2.2.2.1) (EK.dflt (.sl (.int .u8))))
  (cond ((decide ((0 : Int) ≤ x.2.2.2.2.2.2.2.2.1)) && (decide (x.2.2.2.2.2.2.2.2.1 < (((List.length v5) : Nat) : Int))))
  ((cond ((decide ((0 : Int) ≤ x.2.2.2.2.2.2.2.2.1)) && (decide (x.2.2.2.2.2.2.2.2.1 < (((List.length x.2.2.2.2.2.2.2.2.2) : Nat) : Int))))
  ((let v8 : Nat := (Int.toNat x.2.2.2.2.2.2.2.2.1)
  (cond (decide (v8 < (List.length x.2.2.2.2.2.2.2.2.2)))
  ((next (x.1, x.2.1, x.2.2.1, x.2.2.2.1, x.2.2.2.2.1, x.2.2.2.2.2.1, x.2.2.2.2.2.2.1, x.2.2.2.2.2.2.2.1, (wrapF .i64 (x.2.2.2.2.2.2.2.2.1 + (1 : Int))), (List.set x.2.2.2.2.2.2.2.2.2 v8 (xorF .u8 (List.getD x.2.2.2.2.2.2.2.2.2 v3 (EK.dflt (.int .u8))) (List.getD v5 (Int.toNat x.2.2.2.2.2.2.2.2.1) (EK.dflt (.int .u8))))))))
  none)))
  none))
  none)))
  none))
  none)))
  none)
  (some x.2.2.2.2.2.2.2.2.2))
noncomputable def granarylaw03_RsChanges_l2 (N : Nat) : Int × Int × (List Int) × (List (List Int)) × (List (List Int)) × (List (List Int)) × (List (List Int)) × Int × Int × (List Int) → Option (((List Int))) := loopF (granarylaw03_RsChanges_b2 N) N
noncomputable def granarylaw03_RsChanges_b6 (N : Nat) (next : Int × Int × (List Int) × (List (List Int)) × (List (List Int)) × (List (List Int)) × Int × Int × (List (List Int)) → Option (((List (List Int))) ⊕ ((List (List Int))))) (x : Int × Int × (List Int) × (List (List Int)) × (List (List Int)) × (List (List Int)) × Int × Int × (List (List Int))) : Option (((List (List Int))) ⊕ ((List (List Int)))) :=
  (cond ((decide ((0 : Int) ≤ x.2.2.2.2.2.2.1)) && (decide (x.2.2.2.2.2.2.1 < (((List.length x.2.2.2.2.2.2.2.2) : Nat) : Int))))
  ((let v1 : Nat := (Int.toNat x.2.2.2.2.2.2.1)
  (cond (decide (v1 < (List.length x.2.2.2.2.2.2.2.2)))
  ((cond (decide (x.2.2.2.2.2.2.2.1 < (((List.length (List.getD x.2.2.2.2.2.2.2.2 v1 (EK.dflt (.sl (.int .u8))))) : Nat) : Int)))
  (cond ((decide ((0 : Int) ≤ x.2.2.2.2.2.2.1)) && (decide (x.2.2.2.2.2.2.1 < (((List.length x.2.2.2.2.2.2.2.2) : Nat) : Int))))
  ((let v5 : Nat := (Int.toNat x.2.2.2.2.2.2.1)
  (cond (decide (v5 < (List.length x.2.2.2.2.2.2.2.2)))
  ((let v6 : List Int := (List.getD x.2.2.2.2.2.2.2.2 v5 (EK.dflt (.sl (.int .u8))))
  (cond ((decide ((0 : Int) ≤ x.2.2.2.2.2.2.2.1)) && (decide (x.2.2.2.2.2.2.2.1 < (((List.length v6) : Nat) : Int))))
  ((cond ((decide ((0 : Int) ≤ x.2.2.2.2.2.2.1)) && (decide (x.2.2.2.2.2.2.1 < (((List.length x.2.2.2.2.1) : Nat) : Int))))
  ((let v8 : (List Int) := (List.getD x.2.2.2.2.1 (Int.toNat x.2.2.2.2.2.2.1) (EK.dflt (.sl (.int .u8))))
  (cond ((decide ((0 : Int) ≤ x.2.2.2.2.2.2.2.1)) && (decide (x.2.2.2.2.2.2.2.1 < (((List.length v8) : Nat) : Int))))
  ((cond ((decide ((0 : Int) ≤ x.2.2.2.2.2.2.1)) && (decide (x.2.2.2.2.2.2.1 < (((List.length x.2.2.2.2.2.1) : Nat) : Int))))
  ((let v10 : (List Int) := (List.getD x.2.2.2.2.2.1 (Int.toNat x.2.2.2.2.2.2.1) (EK.dflt (.sl (.int .u8))))
  (cond ((decide ((0 : Int) ≤ x.2.2.2.2.2.2.2.1)) && (decide (x.2.2.2.2.2.2.2.1 < (((List.length v10) : Nat) : Int))))
  ((cond (!(decide ((List.getD v6 (Int.toNat x.2.2.2.2.2.2.2.1) (EK.dflt (.int .u8))) = (xorF .u8 (List.getD v8 (Int.toNat x.2.2.2.2.2.2.2.1) (EK.dflt (.int .u8))) (List.getD v10 (Int.toNat x.2.2.2.2.2.2.2.1) (EK.dflt (.int .u8)))))))
  (some (.inl x.2.2.2.2.2.2.2.2))
  (next (x.1, x.2.1, x.2.2.1, x.2.2.2.1, x.2.2.2.2.1, x.2.2.2.2.2.1, x.2.2.2.2.2.2.1, (wrapF .i64 (x.2.2.2.2.2.2.2.1 + (1 : Int))), x.2.2.2.2.2.2.2.2))))
  none)))
  none))
  none)))
  none))
  none)))
  none)))
  none)
  (some (.inr (x.2.2.2.2.2.2.2.2)))))
  none)))
  none)
noncomputable def granarylaw03_RsChanges_l6 (N : Nat) : Int × Int × (List Int) × (List (List Int)) × (List (List Int)) × (List (List Int)) × Int × Int × (List (List Int)) → Option (((List (List Int))) ⊕ ((List (List Int)))) := loopF (granarylaw03_RsChanges_b6 N) N
noncomputable def granarylaw03_RsChanges_b0 (N : Nat) (next : Int × Int × (List Int) × (List (List Int)) × (List (List Int)) × (List (List Int)) × (List (List Int)) × Int × (List (List Int)) → Option (((List (List Int))))) (x : Int × Int × (List Int) × (List (List Int)) × (List (List Int)) × (List (List Int)) × (List (List Int)) × Int × (List (List Int))) : Option (((List (List Int)))) :=
  (cond (decide (x.2.2.2.2.2.2.2.1 < x.1))
  (cond ((decide ((0 : Int) ≤ x.2.2.2.2.2.2.2.1)) && (decide (x.2.2.2.2.2.2.2.1 < (((List.length x.2.2.2.1) : Nat) : Int))))
  ((let v3 : (List Int) := (List.getD x.2.2.2.1 (Int.toNat x.2.2.2.2.2.2.2.1) (EK.dflt (.sl (.int .u8))))
  (cond (fits 1 (List.length v3))
  ((Option.bind (granarylaw03_RsChanges_l2 N (x.1, x.2.1, x.2.2.1, x.2.2.2.1, x.2.2.2.2.1, x.2.2.2.2.2.1, x.2.2.2.2.2.2.1, x.2.2.2.2.2.2.2.1, (0 : Int), v3)) fun r4 =>
  (let v5 : List (List Int) := ([r4] : List (List Int))
  (cond (fits 24 ((List.length x.2.2.2.2.2.2.2.2) + (List.length v5)))
  ((next (x.1, x.2.1, x.2.2.1, x.2.2.2.1, x.2.2.2.2.1, x.2.2.2.2.2.1, x.2.2.2.2.2.2.1, (wrapF .i64 (x.2.2.2.2.2.2.2.1 + (1 : Int))), (x.2.2.2.2.2.2.2.2 ++ v5))))
  none))))
  none)))
  none)
  (some x.2.2.2.2.2.2.2.2))
noncomputable def granarylaw03_RsChanges_l0 (N : Nat) : Int × Int × (List Int) × (List (List Int)) × (List (List Int)) × (List (List Int)) × (List (List Int)) × Int × (List (List Int)) → Option (((List (List Int)))) := loopF (granarylaw03_RsChanges_b0 N) N
noncomputable def granarylaw03_RsChanges_b4 (N : Nat) (next : Int × Int × (List Int) × (List (List Int)) × (List (List Int)) × (List (List Int)) × Int × (List (List Int)) → Option (((List (List Int))) ⊕ ((List (List Int))))) (x : Int × Int × (List Int) × (List (List Int)) × (List (List Int)) × (List (List Int)) × Int × (List (List Int))) : Option (((List (List Int))) ⊕ ((List (List Int)))) :=
  (cond (decide (x.2.2.2.2.2.2.1 < x.2.1))
  (Option.bind (granarylaw03_RsChanges_l6 N (x.1, x.2.1, x.2.2.1, x.2.2.2.1, x.2.2.2.2.1, x.2.2.2.2.2.1, x.2.2.2.2.2.2.1, (0 : Int), x.2.2.2.2.2.2.2)) fun r2 =>
  (match r2 with
  | .inl y3 =>
  (some (.inl y3))
  | .inr z4 =>
  (next (x.1, x.2.1, x.2.2.1, x.2.2.2.1, x.2.2.2.2.1, x.2.2.2.2.2.1, (wrapF .i64 (x.2.2.2.2.2.2.1 + (1 : Int))), z4))))
  (some (.inr (x.2.2.2.2.2.2.2))))
noncomputable def granarylaw03_RsChanges_l4 (N : Nat) : Int × Int × (List Int) × (List (List Int)) × (List (List Int)) × (List (List Int)) × Int × (List (List Int)) → Option (((List (List Int))) ⊕ ((List (List Int)))) := loopF (granarylaw03_RsChanges_b4 N) N
noncomputable def granarylaw03_RsChanges (N : Nat) (x : Int × Int × (List Int) × (List Int) × Int × (List Int)) : Option (Bool) :=
  (Option.bind (granarylaw03_both N (x.1, x.2.1)) fun r1 =>
  (match r1 with
  | .inl y2 =>
  (cond (!y2)
  (cond y2
  (Option.bind (granarylaw03_live N ()) fun r5 =>
  (some r5))
  (some false))
  (cond (decide ((9000 : Int) < (((List.length x.2.2.1) : Nat) : Int)))
  (cond y2
  (Option.bind (granarylaw03_live N ()) fun r8 =>
  (some r8))
  (some false))
  (cond (decide ((((List.length x.2.2.2.1) : Nat) : Int) < (((List.length x.2.2.1) : Nat) : Int)))
  (cond y2
  (Option.bind (granarylaw03_live N ()) fun r12 =>
  (some r12))
  (some false))
  (cond (decide ((9000 : Int) < (((List.length x.2.2.2.1) : Nat) : Int)))
  (cond y2
  (Option.bind (granarylaw03_live N ()) fun r15 =>
  (some r15))
  (some false))
  (cond (decide ((30 : Int) < (((List.length x.2.2.2.2.2) : Nat) : Int)))
  (cond y2
  (Option.bind (granarylaw03_live N ()) fun r18 =>
  (some r18))
  (some false))
  (cond y2
  (Option.bind (granarylaw03_live N ()) fun r19 =>
  (some r19))
  (some false)))))))
  | .inr z3 =>
  (match z3 with
  | .inl y20 =>
  (some false)
  | .inr z21 =>
  (match z21 with
  | .inl y22 =>
  (some false)
  | .inr z23 =>
  (cond (!z23.1)
  (cond z23.1
  (Option.bind (granarylaw03_live N ()) fun r25 =>
  (some r25))
  (some false))
  (cond (decide ((9000 : Int) < (((List.length x.2.2.1) : Nat) : Int)))
  (cond z23.1
  (Option.bind (granarylaw03_live N ()) fun r28 =>
  (some r28))
  (some false))
  (cond (decide ((((List.length x.2.2.2.1) : Nat) : Int) < (((List.length x.2.2.1) : Nat) : Int)))
  (cond z23.1
  (Option.bind (granarylaw03_live N ()) fun r32 =>
  (some r32))
  (some false))
  (cond (decide ((9000 : Int) < (((List.length x.2.2.2.1) : Nat) : Int)))
  (cond z23.1
  (Option.bind (granarylaw03_live N ()) fun r35 =>
  (some r35))
  (some false))
  (cond (decide ((30 : Int) < (((List.length x.2.2.2.2.2) : Nat) : Int)))
  (cond z23.1
  (Option.bind (granarylaw03_live N ()) fun r38 =>
  (some r38))
  (some false))
  (cond (decide (x.2.2.2.2.1 < (0 : Int)))
  (cond z23.1
  (Option.bind (granarylaw03_live N ()) fun r40 =>
  (some r40))
  (some false))
  (Option.bind (granarylaw03_shards N (x.1, x.2.2.1)) fun r41 =>
  (let v42 : Int := (((List.length x.2.2.1) : Nat) : Int)
  (cond ((decide ((0 : Int) ≤ v42)) && (decide (v42 ≤ (((List.length x.2.2.2.1) : Nat) : Int))))
  ((Option.bind (granarylaw03_shards N (x.1, (List.take (Int.toNat v42) (List.drop 0 x.2.2.2.1)))) fun r44 =>
  (Option.bind (rs_Code_Encode N (r41, z23.2.1, z23.2.2.1, z23.2.2.2.2.2)) fun r45 =>
  (Option.bind (rs_Code_Encode N (r44, r45.2.1, r45.2.2.1, r45.2.2.2.1)) fun r46 =>
  (Option.bind
  (Option.bind (granarylaw03_num r45.1) fun r47 =>
  (cond (!(decide (r47 = (0 : Int))))
  (some true)
  (Option.bind (granarylaw03_num r46.1) fun r49 =>
  (some (!(decide (r49 = (0 : Int))))))))
  fun r51 =>
  (cond r51
  (Option.bind
  (cond (decide ((0 : Int) < (((List.length r41) : Nat) : Int)))
  ((cond (decide ((4096 : Int) < (((List.length (List.getD r41 0 (EK.dflt (.sl (.int .u8))))) : Nat) : Int)))
  (Option.bind (granarylaw03_live N ()) fun r55 =>
  (some r55))
  (some false)))
  none)
  fun r56 =>
  (some r56))
  (cond (!(decide (x.1 = (0 : Int))))
  ((let v57 : Int := (Int.tmod x.2.2.2.2.1 x.1)
  (cond ((decide ((0 : Int) ≤ v57)) && (decide (v57 < (((List.length r41) : Nat) : Int))))
  ((cond ((decide ((0 : Int) ≤ v57)) && (decide (v57 < (((List.length r44) : Nat) : Int))))
  ((Option.bind (rs_Code_Update_v2 N (r45.2.2.2.2, v57, (List.getD r41 (Int.toNat v57) (EK.dflt (.sl (.int .u8)))), (List.getD r44 (Int.toNat v57) (EK.dflt (.sl (.int .u8)))), r46.2.1, r46.2.2.1, r46.2.2.2.1)) fun r60 =>
  (cond (fits 24 (List.length r41))
  ((cond ((decide ((0 : Int) ≤ v57)) && (decide (v57 < (((List.length r44) : Nat) : Int))))
  ((cond ((decide ((0 : Int) ≤ v57)) && (decide (v57 < (((List.length r41) : Nat) : Int))))
  ((let v63 : Nat := (Int.toNat v57)
  (cond (decide (v63 < (List.length r41)))
  ((Option.bind (rs_Code_Encode N ((List.set r41 v63 (List.getD r44 (Int.toNat v57) (EK.dflt (.sl (.int .u8))))), r60.2.1, r60.2.2.1, r60.2.2.2.1)) fun r65 =>
  (Option.bind
  (Option.bind (granarylaw03_num r60.1) fun r66 =>
  (cond (!(decide (r66 = (0 : Int))))
  (some true)
  (Option.bind (granarylaw03_num r65.1) fun r68 =>
  (cond (!(decide (r68 = (0 : Int))))
  (some true)
  (Option.bind (granaryref03_Same N (r60.2.2.2.2, r65.2.2.2.2)) fun r70 =>
  (some (!r70)))))))
  fun r72 =>
  (cond r72
  (some false)
  (Option.bind (granarylaw03_RsChanges_l0 N (x.1, x.2.1, x.2.2.2.2.2, r41, r44, r45.2.2.2.2, r46.2.2.2.2, (0 : Int), ([] : List (List Int)))) fun r73 =>
  (Option.bind (rs_Code_Encode N (r73, r65.2.1, r65.2.2.1, r65.2.2.2.1)) fun r74 =>
  (Option.bind
  (Option.bind (granarylaw03_num r74.1) fun r75 =>
  (cond (!(decide (r75 = (0 : Int))))
  (some true)
  (cond (!(decide ((((List.length r74.2.2.2.2) : Nat) : Int) = x.2.1)))
  (some true)
  (cond (!(decide ((((List.length r45.2.2.2.2) : Nat) : Int) = x.2.1)))
  (some true)
  (some (!(decide ((((List.length r46.2.2.2.2) : Nat) : Int) = x.2.1))))))))
  fun r83 =>
  (cond r83
  (some false)
  (Option.bind (granarylaw03_RsChanges_l4 N (x.1, x.2.1, x.2.2.2.2.2, r41, r45.2.2.2.2, r46.2.2.2.2, (0 : Int), r74.2.2.2.2)) fun r84 =>
  (match r84 with
  | .inl y85 =>
  (some false)
  | .inr z86 =>
  (Option.bind
  (Option.bind (granarylaw03_lent N r41) fun r87 =>
  (cond (fits 24 ((List.length r87) + (List.length r45.2.2.2.2)))
  ((Option.bind (granarylaw03_wrong N (x.1, x.2.1, (r87 ++ r45.2.2.2.2), x.2.2.2.2.2, r74.2.1, r74.2.2.1, r74.2.2.2.1)) fun r89 =>
  (cond r89.1
  (Option.bind (granarylaw03_live N ()) fun r90 =>
  (some (r90, r89.2.1, r89.2.2.1, r89.2.2.2)))
  (some (false, r89.2.1, r89.2.2.1, r89.2.2.2)))))
  none))
  fun r91 =>
  (some r91.1))))))))))))
  none)))
  none))
  none))
  none)))
  none))
  none)))
  none)))))))
  none)))))))))))))
end Go.Rf.W
