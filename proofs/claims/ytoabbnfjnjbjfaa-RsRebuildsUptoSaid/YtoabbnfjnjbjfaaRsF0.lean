/-
  The printed functions: plain data in, plain data out; none: beyond the number of rounds N, or where Go would panic.
-/
import Derived.Test.YtoabbnfjnjbjfaaRfA
set_option linter.unusedVariables false
set_option maxRecDepth 100000
namespace Go.Rf.W
open Go Go.Rf
noncomputable def granarylaw03_huge_b0 (N : Nat) (next : (List (List Int)) × Int × Int → Option (Int)) (x : (List (List Int)) × Int × Int) : Option (Int) :=
  (Option.bind
  (cond (decide (x.2.2 < (((List.length x.1) : Nat) : Int)))
  (some (decide (x.2.2 ≤ (30 : Int))))
  (some false))
  fun r4 =>
  (cond r4
  (cond ((decide ((0 : Int) ≤ x.2.2)) && (decide (x.2.2 < (((List.length x.1) : Nat) : Int))))
  ((next (x.1, (wrapF .i64 (x.2.1 + (((List.length (List.getD x.1 (Int.toNat x.2.2) (EK.dflt (.sl (.int .u8))))) : Nat) : Int))), (wrapF .i64 (x.2.2 + (1 : Int))))))
  none)
  (some x.2.1)))
noncomputable def granarylaw03_huge_l0 (N : Nat) : (List (List Int)) × Int × Int → Option (Int) := loopF (granarylaw03_huge_b0 N) N
noncomputable def granarylaw03_huge (N : Nat) (x : (List (List Int))) : Option (Bool) :=
  (Option.bind (granarylaw03_huge_l0 N (x, (0 : Int), (0 : Int))) fun r1 =>
  (Option.bind
  (cond (decide ((30 : Int) < (((List.length x) : Nat) : Int)))
  (some true)
  (some (decide ((9000 : Int) < r1))))
  fun r5 =>
  (some r5)))
noncomputable def gf_Add (x : Int × Int) : Option (Int) :=
  (some (xorF .u8 x.1 x.2))
noncomputable def gf_Mul_b0 (N : Nat) (next : Int × Int × Int → Option (Int)) (x : Int × Int × Int) : Option (Int) :=
  (cond (!(decide (x.1 = (0 : Int))))
  (Option.bind
  (cond (decide ((andF .u8 x.1 (1 : Int)) = (1 : Int)))
  (some (xorF .i64 x.2.1 x.2.2))
  (some x.2.1))
  fun r5 =>
  (let v6 : Int := (shlF .i64 x.2.2 (1 : Int))
  (Option.bind
  (cond (decide ((255 : Int) < v6))
  (some (xorF .i64 v6 (285 : Int)))
  (some v6))
  fun r9 =>
  (next ((shrF .u8 x.1 (1 : Int)), r5, r9)))))
  (some x.2.1))
noncomputable def gf_Mul_l0 (N : Nat) : Int × Int × Int → Option (Int) := loopF (gf_Mul_b0 N) N
noncomputable def gf_Mul (N : Nat) (x : Int × Int) : Option (Int) :=
  (Option.bind (gf_Mul_l0 N (x.2, (0 : Int), (wrapF .i64 x.1))) fun r2 =>
  (some (wrapF .u8 r2)))
noncomputable def gf_Pow_b0 (N : Nat) (next : Int × Int × Int → Option (Int)) (x : Int × Int × Int) : Option (Int) :=
  (cond (decide ((0 : Int) < x.2.1))
  (Option.bind
  (cond (decide ((andF .i64 x.2.1 (1 : Int)) = (1 : Int)))
  (Option.bind (gf_Mul N (x.2.2, x.1)) fun r4 =>
  (some r4))
  (some x.2.2))
  fun r5 =>
  (Option.bind (gf_Mul N (x.1, x.1)) fun r6 =>
  (next (r6, (shrF .i64 x.2.1 (1 : Int)), r5))))
  (some x.2.2))
noncomputable def gf_Pow_l0 (N : Nat) : Int × Int × Int → Option (Int) := loopF (gf_Pow_b0 N) N
noncomputable def gf_Pow (N : Nat) (x : Int × Int) : Option (Int) :=
  (cond (decide (x.1 = (0 : Int)))
  (cond (decide (x.2 = (0 : Int)))
  (some (1 : Int))
  (some (0 : Int)))
  (let v3 : Int := (Int.tmod x.2 (255 : Int))
  (Option.bind
  (cond (decide (v3 < (0 : Int)))
  (some (wrapF .i64 (v3 + (255 : Int))))
  (some v3))
  fun r6 =>
  (Option.bind (gf_Pow_l0 N (x.1, r6, (1 : Int))) fun r7 =>
  (some r7)))))
noncomputable def gf_Div (N : Nat) (x : Int × Int) : Option (Int × Int) :=
  (cond (decide (x.2 = (0 : Int)))
  (some ((0 : Int), (20 : Int)))
  (Option.bind (gf_Pow N (x.2, (254 : Int))) fun r2 =>
  (Option.bind (gf_Mul N (x.1, r2)) fun r3 =>
  (some (r3, (0 : Int))))))
noncomputable def gf_Inv (N : Nat) (x : Int) : Option (Int × Int) :=
  (Option.bind (gf_Div N ((1 : Int), x)) fun r1 =>
  (some (r1.1, r1.2)))
noncomputable def rs_New_b2 (N : Nat) (next : Int × Int × Int × Int × Int × Int × (List Int) × Int × Int → Option (((List Int) × Int × Int))) (x : Int × Int × Int × Int × Int × Int × (List Int) × Int × Int) : Option (((List Int) × Int × Int)) :=
  (cond (decide (x.2.2.2.2.2.1 < x.2.2.2.2.1))
  (let v3 : Int := (wrapF .i64 ((wrapF .i64 (x.2.1 * x.1)) + x.2.2.2.2.2.1))
  (Option.bind (gf_Add ((wrapF .u8 (wrapF .i64 (x.1 + x.2.1))), (wrapF .u8 x.2.2.2.2.2.1))) fun r7 =>
  (Option.bind (gf_Inv N r7) fun r8 =>
  (cond ((decide ((0 : Int) ≤ v3)) && (decide (v3 < (((List.length x.2.2.2.2.2.2.1) : Nat) : Int))))
  ((let v9 : Nat := (Int.toNat v3)
  (cond (decide (v9 < (List.length x.2.2.2.2.2.2.1)))
  ((next (x.1, x.2.1, x.2.2.1, x.2.2.2.1, x.2.2.2.2.1, (wrapF .i64 (x.2.2.2.2.2.1 + (1 : Int))), (List.set x.2.2.2.2.2.2.1 v9 r8.1), x.2.2.2.2.2.2.2.1, x.2.2.2.2.2.2.2.2)))
  none)))
  none))))
  (some (x.2.2.2.2.2.2.1, x.2.2.2.2.2.2.2.1, x.2.2.2.2.2.2.2.2)))
noncomputable def rs_New_l2 (N : Nat) : Int × Int × Int × Int × Int × Int × (List Int) × Int × Int → Option (((List Int) × Int × Int)) := loopF (rs_New_b2 N) N
noncomputable def rs_New_b0 (N : Nat) (next : Int × Int × Int × (List Int) × Int × Int → Option (((List Int) × Int × Int))) (x : Int × Int × Int × (List Int) × Int × Int) : Option (((List Int) × Int × Int)) :=
  (cond (decide (x.2.2.1 < x.2.1))
  (Option.bind (rs_New_l2 N (x.1, x.2.2.1, x.2.1, x.2.2.1, x.1, (0 : Int), x.2.2.2.1, x.2.2.2.2.1, x.2.2.2.2.2)) fun r2 =>
  (next (x.1, x.2.1, (wrapF .i64 (x.2.2.1 + (1 : Int))), r2.1, r2.2.1, r2.2.2)))
  (some (x.2.2.2.1, x.2.2.2.2.1, x.2.2.2.2.2)))
noncomputable def rs_New_l0 (N : Nat) : Int × Int × Int × (List Int) × Int × Int → Option (((List Int) × Int × Int)) := loopF (rs_New_b0 N) N
noncomputable def rs_New (N : Nat) (x : Int × Int) : Option ((Unit) ⊕ (Int × Int × (List Int))) :=
  (Option.bind
  (cond (decide (x.1 < (1 : Int)))
  (some true)
  (cond (decide ((16 : Int) < x.1))
  (some true)
  (cond (decide (x.2 < (0 : Int)))
  (some true)
  (some (decide ((8 : Int) < x.2))))))
  fun r5 =>
  (cond r5
  (some (.inl ()))
  (let v6 : Int := (wrapF .i64 (x.2 * x.1))
  (cond ((decide ((0 : Int) ≤ v6)) && (fits 1 (Int.toNat v6)))
  ((Option.bind (rs_New_l0 N (x.1, x.2, (0 : Int), (List.replicate (Int.toNat v6) (EK.dflt (.int .u8))), x.1, x.2)) fun r8 =>
  (some (.inr ((r8.2.1, r8.2.2, r8.1))))))
  none))))
noncomputable def granarylaw03_num (x : Int) : Option (Int) :=
  (some x)
noncomputable def rs_even_b0 (N : Nat) (next : Int × (List (List Int)) × Int × Int → Option (Unit ⊕ Int)) (x : Int × (List (List Int)) × Int × Int) : Option (Unit ⊕ Int) :=
  (cond (decide (x.2.2.2 < x.2.2.1))
  (cond ((decide ((0 : Int) ≤ x.2.2.2)) && (decide (x.2.2.2 < (((List.length x.2.1) : Nat) : Int))))
  ((let v2 : (List Int) := (List.getD x.2.1 (Int.toNat x.2.2.2) (EK.dflt (.sl (.int .u8))))
  (Option.bind
  (cond (decide (x.2.2.2 = (0 : Int)))
  (some (((List.length v2) : Nat) : Int))
  (some x.1))
  fun r5 =>
  (cond (!(decide ((((List.length v2) : Nat) : Int) = r5)))
  (some (.inl ()))
  (next (r5, x.2.1, x.2.2.1, (wrapF .i64 (x.2.2.2 + (1 : Int)))))))))
  none)
  (some (.inr (x.1))))
noncomputable def rs_even_l0 (N : Nat) : Int × (List (List Int)) × Int × Int → Option (Unit ⊕ Int) := loopF (rs_even_b0 N) N
noncomputable def rs_even (N : Nat) (x : (List (List Int))) : Option (Int × Int) :=
  (Option.bind (rs_even_l0 N ((0 : Int), x, (((List.length x) : Nat) : Int), (0 : Int))) fun r2 =>
  (match r2 with
  | .inl y3 =>
  (some ((0 : Int), (2 : Int)))
  | .inr z4 =>
  (cond (decide ((4096 : Int) < z4))
  (some ((0 : Int), (1 : Int)))
  (some (z4, (0 : Int))))))
noncomputable def rs_Code_parity (x : Int × Int × Int × (List Int)) : Option (Nat × Nat × Int × Int × (List Int)) :=
  (let v1 : Int := (wrapF .i64 (x.1 * x.2.1))
  (let v3 : Int := (wrapF .i64 ((wrapF .i64 (x.1 + (1 : Int))) * x.2.1))
  (let v5 : Int := (wrapF .i64 ((wrapF .i64 (x.1 + (1 : Int))) * x.2.1))
  (cond ((((decide ((0 : Int) ≤ v1)) && (decide (v1 ≤ v3))) && (decide (v3 ≤ v5))) && (decide (v5 ≤ (((List.length x.2.2.2) : Nat) : Int))))
  ((some ((Int.toNat v1), ((Int.toNat v3) - (Int.toNat v1)), x.2.1, x.2.2.1, x.2.2.2)))
  none))))
noncomputable def gf_Scale_b0 (N : Nat) (next : Int × (List Int) × Int × Int × (List Int) → Option (((List Int)))) (x : Int × (List Int) × Int × Int × (List Int)) : Option (((List Int))) :=
  (cond (decide (x.2.2.2.1 < x.2.2.1))
  (cond ((decide ((0 : Int) ≤ x.2.2.2.1)) && (decide (x.2.2.2.1 < (((List.length x.2.1) : Nat) : Int))))
  ((Option.bind (gf_Mul N (x.1, (List.getD x.2.1 (Int.toNat x.2.2.2.1) (EK.dflt (.int .u8))))) fun r3 =>
  (cond ((decide ((0 : Int) ≤ x.2.2.2.1)) && (decide (x.2.2.2.1 < (((List.length x.2.2.2.2) : Nat) : Int))))
  ((let v4 : Nat := (Int.toNat x.2.2.2.1)
  (cond (decide (v4 < (List.length x.2.2.2.2)))
  ((next (x.1, x.2.1, x.2.2.1, (wrapF .i64 (x.2.2.2.1 + (1 : Int))), (List.set x.2.2.2.2 v4 r3))))
  none)))
  none)))
  none)
  (some x.2.2.2.2))
noncomputable def gf_Scale_l0 (N : Nat) : Int × (List Int) × Int × Int × (List Int) → Option (((List Int))) := loopF (gf_Scale_b0 N) N
noncomputable def gf_Scale (N : Nat) (x : Int × (List Int)) : Option ((List Int)) :=
  (let v1 : Int := (((List.length x.2) : Nat) : Int)
  (cond ((decide ((0 : Int) ≤ v1)) && (fits 1 (Int.toNat v1)))
  ((Option.bind (gf_Scale_l0 N (x.1, x.2, (((List.length x.2) : Nat) : Int), (0 : Int), (List.replicate (Int.toNat v1) (EK.dflt (.int .u8))))) fun r4 =>
  (some r4)))
  none))
noncomputable def gf_Sum_b0 (N : Nat) (next : (List Int) × (List Int) × Int × Int × (List Int) → Option (((List Int)))) (x : (List Int) × (List Int) × Int × Int × (List Int)) : Option (((List Int))) :=
  (cond (decide (x.2.2.2.1 < x.2.2.1))
  (cond ((decide ((0 : Int) ≤ x.2.2.2.1)) && (decide (x.2.2.2.1 < (((List.length x.2.1) : Nat) : Int))))
  ((cond ((decide ((0 : Int) ≤ x.2.2.2.1)) && (decide (x.2.2.2.1 < (((List.length x.1) : Nat) : Int))))
  ((cond ((decide ((0 : Int) ≤ x.2.2.2.1)) && (decide (x.2.2.2.1 < (((List.length x.2.2.2.2) : Nat) : Int))))
  ((let v5 : Nat := (Int.toNat x.2.2.2.1)
  (cond (decide (v5 < (List.length x.2.2.2.2)))
  ((next (x.1, x.2.1, x.2.2.1, (wrapF .i64 (x.2.2.2.1 + (1 : Int))), (List.set x.2.2.2.2 v5 (xorF .u8 (List.getD x.2.1 (Int.toNat x.2.2.2.1) (EK.dflt (.int .u8))) (List.getD x.1 (Int.toNat x.2.2.2.1) (EK.dflt (.int .u8))))))))
  none)))
  none))
  none))
  none)
  (some x.2.2.2.2))
noncomputable def gf_Sum_l0 (N : Nat) : (List Int) × (List Int) × Int × Int × (List Int) → Option (((List Int))) := loopF (gf_Sum_b0 N) N
noncomputable def gf_Sum (N : Nat) (x : (List Int) × (List Int)) : Option (Int × (List Int)) :=
  (cond (!(decide ((((List.length x.1) : Nat) : Int) = (((List.length x.2) : Nat) : Int))))
  (some ((23 : Int), ([] : List Int)))
  (let v4 : Int := (((List.length x.1) : Nat) : Int)
  (cond ((decide ((0 : Int) ≤ v4)) && (fits 1 (Int.toNat v4)))
  ((Option.bind (gf_Sum_l0 N (x.2, x.1, (((List.length x.1) : Nat) : Int), (0 : Int), (List.replicate (Int.toNat v4) (EK.dflt (.int .u8))))) fun r7 =>
  (some ((0 : Int), r7))))
  none)))
noncomputable def rs_mixed_b0 (N : Nat) (next : (List (List Int)) × (List Int) × Int × Int × (List Int) → Option (((List Int)))) (x : (List (List Int)) × (List Int) × Int × Int × (List Int)) : Option (((List Int))) :=
  (cond (decide (x.2.2.2.1 < x.2.2.1))
  (Option.bind
  (cond ((decide ((0 : Int) ≤ x.2.2.2.1)) && (decide (x.2.2.2.1 < (((List.length x.2.1) : Nat) : Int))))
  ((let v2 : Int := (List.getD x.2.1 (Int.toNat x.2.2.2.1) (EK.dflt (.int .u8)))
  (cond (decide (v2 = (0 : Int)))
  (some x.2.2.2.2)
  (cond ((decide ((0 : Int) ≤ x.2.2.2.1)) && (decide (x.2.2.2.1 < (((List.length x.1) : Nat) : Int))))
  ((Option.bind (gf_Scale N (v2, (List.getD x.1 (Int.toNat x.2.2.2.1) (EK.dflt (.sl (.int .u8)))))) fun r5 =>
  (Option.bind (gf_Sum N (x.2.2.2.2, r5)) fun r6 =>
  (cond (decide ((0 + (List.length x.2.2.2.2)) ≤ (List.length x.2.2.2.2)))
  ((some (List.take 0 x.2.2.2.2 ++ List.take (min (List.length r6.2) (List.length x.2.2.2.2)) r6.2 ++ List.drop (0 + (min (List.length r6.2) (List.length x.2.2.2.2))) x.2.2.2.2)))
  none))))
  none))))
  none)
  fun r9 =>
  (next (x.1, x.2.1, x.2.2.1, (wrapF .i64 (x.2.2.2.1 + (1 : Int))), r9)))
  (some x.2.2.2.2))
noncomputable def rs_mixed_l0 (N : Nat) : (List (List Int)) × (List Int) × Int × Int × (List Int) → Option (((List Int))) := loopF (rs_mixed_b0 N) N
noncomputable def rs_mixed (N : Nat) (x : (List Int) × (List (List Int)) × Int) : Option ((List Int)) :=
  (cond ((decide ((0 : Int) ≤ x.2.2)) && (fits 1 (Int.toNat x.2.2)))
  ((Option.bind (rs_mixed_l0 N (x.2.1, x.1, (((List.length x.1) : Nat) : Int), (0 : Int), (List.replicate (Int.toNat x.2.2) (EK.dflt (.int .u8))))) fun r3 =>
  (some r3)))
  none)
noncomputable def rs_Code_Encode_b0 (N : Nat) (next : (List (List Int)) × Int × Int × Int × Int × Int × (List Int) × (List (List Int)) → Option ((Int × Int × (List Int) × (List (List Int))))) (x : (List (List Int)) × Int × Int × Int × Int × Int × (List Int) × (List (List Int))) : Option ((Int × Int × (List Int) × (List (List Int)))) :=
  (cond (decide (x.2.2.2.1 < x.2.2.1))
  (Option.bind (rs_Code_parity (x.2.2.2.1, x.2.2.2.2.1, x.2.2.2.2.2.1, x.2.2.2.2.2.2.1)) fun r2 =>
  (cond (cond (decide ((r2.1 + r2.2.1) ≤ (List.length r2.2.2.2.2))) true false)
  (Option.bind (rs_mixed N ((List.take r2.2.1 (List.drop r2.1 r2.2.2.2.2)), x.1, x.2.1)) fun r3 =>
  (let v4 : List (List Int) := ([r3] : List (List Int))
  (cond (fits 24 ((List.length x.2.2.2.2.2.2.2) + (List.length v4)))
  ((next (x.1, x.2.1, x.2.2.1, (wrapF .i64 (x.2.2.2.1 + (1 : Int))), r2.2.2.1, r2.2.2.2.1, r2.2.2.2.2, (x.2.2.2.2.2.2.2 ++ v4))))
  none)))
  none))
  (some (x.2.2.2.2.1, x.2.2.2.2.2.1, x.2.2.2.2.2.2.1, x.2.2.2.2.2.2.2)))
noncomputable def rs_Code_Encode_l0 (N : Nat) : (List (List Int)) × Int × Int × Int × Int × Int × (List Int) × (List (List Int)) → Option ((Int × Int × (List Int) × (List (List Int)))) := loopF (rs_Code_Encode_b0 N) N
noncomputable def rs_Code_Encode (N : Nat) (x : (List (List Int)) × Int × Int × (List Int)) : Option (Int × Int × Int × (List Int) × (List (List Int))) :=
  (cond (!(decide ((((List.length x.1) : Nat) : Int) = x.2.1)))
  (some ((2 : Int), x.2.1, x.2.2.1, x.2.2.2, ([] : List (List Int))))
  (Option.bind (rs_even N x.1) fun r3 =>
  (cond (!(decide (r3.2 = (0 : Int))))
  (some (r3.2, x.2.1, x.2.2.1, x.2.2.2, ([] : List (List Int))))
  (Option.bind (rs_Code_Encode_l0 N (x.1, r3.1, x.2.2.1, (0 : Int), x.2.1, x.2.2.1, x.2.2.2, ([] : List (List Int)))) fun r5 =>
  (some ((0 : Int), r5.1, r5.2.1, r5.2.2.1, r5.2.2.2))))))
noncomputable def rs_even_v1_b0 (N : Nat) (next : Int × (List (List Int)) × Int × Int → Option (Unit ⊕ Int)) (x : Int × (List (List Int)) × Int × Int) : Option (Unit ⊕ Int) :=
  (cond (decide (x.2.2.2 < x.2.2.1))
  (cond ((decide ((0 : Int) ≤ x.2.2.2)) && (decide (x.2.2.2 < (((List.length x.2.1) : Nat) : Int))))
  ((let v2 : (List Int) := (List.getD x.2.1 (Int.toNat x.2.2.2) (EK.dflt (.sl (.int .u8))))
  (Option.bind
  (cond (decide (x.2.2.2 = (0 : Int)))
  (some (((List.length v2) : Nat) : Int))
  (some x.1))
  fun r5 =>
  (cond (!(decide ((((List.length v2) : Nat) : Int) = r5)))
  (some (.inl ()))
  (next (r5, x.2.1, x.2.2.1, (wrapF .i64 (x.2.2.2 + (1 : Int)))))))))
  none)
  (some (.inr (x.1))))
noncomputable def rs_even_v1_l0 (N : Nat) : Int × (List (List Int)) × Int × Int → Option (Unit ⊕ Int) := loopF (rs_even_v1_b0 N) N
noncomputable def rs_even_v1 (N : Nat) (x : (List (List Int))) : Option (Int × Int) :=
  (Option.bind (rs_even_v1_l0 N ((0 : Int), x, (((List.length x) : Nat) : Int), (0 : Int))) fun r2 =>
  (match r2 with
  | .inl y3 =>
  (some ((0 : Int), (2 : Int)))
  | .inr z4 =>
  (cond (decide ((4096 : Int) < z4))
  (some ((0 : Int), (1 : Int)))
  (some (z4, (0 : Int))))))
noncomputable def rs_Code_Row (x : Int × Int × Int × (List Int)) : Option (Int × Int × (List Int) × (List Int)) :=
  (Option.bind
  (cond (decide (x.1 < (0 : Int)))
  (some true)
  (some (decide ((wrapF .i64 (x.2.1 + x.2.2.1)) ≤ x.1))))
  fun r4 =>
  (cond r4
  (some (x.2.1, x.2.2.1, x.2.2.2, ([] : List Int)))
  (cond ((decide ((0 : Int) ≤ x.2.1)) && (fits 1 (Int.toNat x.2.1)))
  ((let v5 : List Int := (List.replicate (Int.toNat x.2.1) (EK.dflt (.int .u8)))
  (cond (decide (x.1 < x.2.1))
  (cond ((decide ((0 : Int) ≤ x.1)) && (decide (x.1 < (((List.length v5) : Nat) : Int))))
  ((let v7 : Nat := (Int.toNat x.1)
  (cond (decide (v7 < (List.length v5)))
  ((some (x.2.1, x.2.2.1, x.2.2.2, (List.set v5 v7 (1 : Int)))))
  none)))
  none)
  (Option.bind (rs_Code_parity ((wrapF .i64 (x.1 - x.2.1)), x.2.1, x.2.2.1, x.2.2.2)) fun r10 =>
  (cond ((decide ((r10.1 + r10.2.1) ≤ (List.length r10.2.2.2.2))) && (decide ((0 + (List.length v5)) ≤ (List.length v5))))
  ((some (r10.2.2.1, r10.2.2.2.1, r10.2.2.2.2, (List.take 0 v5 ++ List.take (min (List.length (List.take r10.2.1 (List.drop r10.1 r10.2.2.2.2))) (List.length v5)) (List.take r10.2.1 (List.drop r10.1 r10.2.2.2.2)) ++ List.drop (0 + (min (List.length (List.take r10.2.1 (List.drop r10.1 r10.2.2.2.2))) (List.length v5))) v5))))
  none)))))
  none)))
noncomputable def gf_side (x : Int) : Option (Bool) :=
  (Option.bind
  (cond (decide ((1 : Int) ≤ x))
  (some (decide (x ≤ (64 : Int))))
  (some false))
  fun r3 =>
  (some r3))
noncomputable def gf_Check (x : Int × Int × (List Int)) : Option (Int) :=
  (Option.bind
  (Option.bind (gf_side x.1) fun r1 =>
  (cond (!r1)
  (some true)
  (Option.bind (gf_side x.2.1) fun r3 =>
  (some (!r3)))))
  fun r5 =>
  (cond r5
  (some (2 : Int))
  (cond (!(decide ((((List.length x.2.2) : Nat) : Int) = (wrapF .i64 (x.1 * x.2.1)))))
  (some (23 : Int))
  (some (0 : Int)))))
noncomputable def gf_zeros (x : Int × Int) : Option (Int × Int × (List Int)) :=
  (let v1 : Int := (wrapF .i64 (x.1 * x.2))
  (cond ((decide ((0 : Int) ≤ v1)) && (fits 1 (Int.toNat v1)))
  ((some (x.1, x.2, (List.replicate (Int.toNat v1) (EK.dflt (.int .u8))))))
  none))
noncomputable def gf_row (x : Int × Int × Int × (List Int)) : Option (Nat × Nat × (List Int)) :=
  (let v1 : Int := (wrapF .i64 (x.2.2.1 * x.2.1))
  (let v3 : Int := (wrapF .i64 ((wrapF .i64 (x.2.2.1 + (1 : Int))) * x.2.1))
  (let v5 : Int := (wrapF .i64 ((wrapF .i64 (x.2.2.1 + (1 : Int))) * x.2.1))
  (cond ((((decide ((0 : Int) ≤ v1)) && (decide (v1 ≤ v3))) && (decide (v3 ≤ v5))) && (decide (v5 ≤ (((List.length x.2.2.2) : Nat) : Int))))
  ((some ((Int.toNat v1), ((Int.toNat v3) - (Int.toNat v1)), x.2.2.2)))
  none))))
noncomputable def gf_Identity_b0 (N : Nat) (next : Int × Int × (List Int) × Int × Int → Option (((List Int) × Int × Int))) (x : Int × Int × (List Int) × Int × Int) : Option (((List Int) × Int × Int)) :=
  (cond (decide (x.2.1 < x.1))
  (Option.bind (gf_row (x.2.2.2.1, x.2.2.2.2, x.2.1, x.2.2.1)) fun r2 =>
  (cond ((decide ((0 : Int) ≤ x.2.1)) && (decide (x.2.1 < ((r2.2.1 : Nat) : Int))))
  ((let v3 : Nat := ((Int.toNat x.2.1) + r2.1)
  (cond (decide (v3 < (List.length r2.2.2)))
  ((next (x.1, (wrapF .i64 (x.2.1 + (1 : Int))), (List.set r2.2.2 v3 (1 : Int)), x.2.2.2.1, x.2.2.2.2)))
  none)))
  none))
  (some (x.2.2.1, x.2.2.2.1, x.2.2.2.2)))
noncomputable def gf_Identity_l0 (N : Nat) : Int × Int × (List Int) × Int × Int → Option (((List Int) × Int × Int)) := loopF (gf_Identity_b0 N) N
noncomputable def gf_Identity (N : Nat) (x : Int) : Option (Int × Int × Int × (List Int)) :=
  (Option.bind (gf_side x) fun r1 =>
  (cond (!r1)
  (some ((0 : Int), (0 : Int), (2 : Int), ([] : List Int)))
  (Option.bind (gf_zeros (x, x)) fun r3 =>
  (Option.bind (gf_Identity_l0 N (x, (0 : Int), r3.2.2, r3.1, r3.2.1)) fun r4 =>
  (some (r4.2.1, r4.2.2, (0 : Int), r4.1))))))
noncomputable def slices_Clone_byte_byte (x : (List Int)) : Option ((List Int)) :=
  (agreeC (decide ((List.length x) = 0)) false
  (some ([] : List Int))
  (cond (fits 1 (List.length x))
  ((some x))
  none))
noncomputable def gf_own (x : Int × Int × (List Int)) : Option (Int × Int × (List Int)) :=
  (Option.bind (slices_Clone_byte_byte x.2.2) fun r1 =>
  (some (x.1, x.2.1, r1)))
noncomputable def gf_Scale_v1_b0 (N : Nat) (next : Int × (List Int) × Int × Int × (List Int) → Option (((List Int)))) (x : Int × (List Int) × Int × Int × (List Int)) : Option (((List Int))) :=
  (cond (decide (x.2.2.2.1 < x.2.2.1))
  (cond ((decide ((0 : Int) ≤ x.2.2.2.1)) && (decide (x.2.2.2.1 < (((List.length x.2.1) : Nat) : Int))))
  ((Option.bind (gf_Mul N (x.1, (List.getD x.2.1 (Int.toNat x.2.2.2.1) (EK.dflt (.int .u8))))) fun r3 =>
  (cond ((decide ((0 : Int) ≤ x.2.2.2.1)) && (decide (x.2.2.2.1 < (((List.length x.2.2.2.2) : Nat) : Int))))
  ((let v4 : Nat := (Int.toNat x.2.2.2.1)
  (cond (decide (v4 < (List.length x.2.2.2.2)))
  ((next (x.1, x.2.1, x.2.2.1, (wrapF .i64 (x.2.2.2.1 + (1 : Int))), (List.set x.2.2.2.2 v4 r3))))
  none)))
  none)))
  none)
  (some x.2.2.2.2))
noncomputable def gf_Scale_v1_l0 (N : Nat) : Int × (List Int) × Int × Int × (List Int) → Option (((List Int))) := loopF (gf_Scale_v1_b0 N) N
noncomputable def gf_Scale_v1 (N : Nat) (x : Int × (List Int)) : Option ((List Int)) :=
  (let v1 : Int := (((List.length x.2) : Nat) : Int)
  (cond ((decide ((0 : Int) ≤ v1)) && (fits 1 (Int.toNat v1)))
  ((Option.bind (gf_Scale_v1_l0 N (x.1, x.2, (((List.length x.2) : Nat) : Int), (0 : Int), (List.replicate (Int.toNat v1) (EK.dflt (.int .u8))))) fun r4 =>
  (some r4)))
  none))
noncomputable def gf_add_b0 (N : Nat) (next : Nat × Nat × Int × Nat × Nat × Int × Int × (List Int) → Option (((List Int)))) (x : Nat × Nat × Int × Nat × Nat × Int × Int × (List Int)) : Option (((List Int))) :=
  (cond (decide (x.2.2.2.2.2.2.1 < x.2.2.2.2.2.1))
  (cond ((decide ((0 : Int) ≤ x.2.2.2.2.2.2.1)) && (decide (x.2.2.2.2.2.2.1 < ((x.2.2.2.2.1 : Nat) : Int))))
  ((let v2 : Nat := ((Int.toNat x.2.2.2.2.2.2.1) + x.2.2.2.1)
  (cond (decide (v2 < (List.length x.2.2.2.2.2.2.2)))
  ((cond ((decide ((0 : Int) ≤ x.2.2.2.2.2.2.1)) && (decide (x.2.2.2.2.2.2.1 < ((x.2.1 : Nat) : Int))))
  ((let v4 : Nat := ((Int.toNat x.2.2.2.2.2.2.1) + x.1)
  (cond (decide (v4 < (List.length x.2.2.2.2.2.2.2)))
  ((Option.bind (gf_Mul N (x.2.2.1, (List.getD x.2.2.2.2.2.2.2 v2 (EK.dflt (.int .u8))))) fun r6 =>
  (cond ((decide ((0 : Int) ≤ x.2.2.2.2.2.2.1)) && (decide (x.2.2.2.2.2.2.1 < ((x.2.1 : Nat) : Int))))
  ((let v8 : Nat := ((Int.toNat x.2.2.2.2.2.2.1) + x.1)
  (cond (decide (v8 < (List.length x.2.2.2.2.2.2.2)))
  ((next (x.1, x.2.1, x.2.2.1, x.2.2.2.1, x.2.2.2.2.1, x.2.2.2.2.2.1, (wrapF .i64 (x.2.2.2.2.2.2.1 + (1 : Int))), (List.set x.2.2.2.2.2.2.2 v8 (xorF .u8 (List.getD x.2.2.2.2.2.2.2 v4 (EK.dflt (.int .u8))) r6)))))
  none)))
  none)))
  none)))
  none))
  none)))
  none)
  (some x.2.2.2.2.2.2.2))
noncomputable def gf_add_l0 (N : Nat) : Nat × Nat × Int × Nat × Nat × Int × Int × (List Int) → Option (((List Int))) := loopF (gf_add_b0 N) N
noncomputable def gf_add (N : Nat) (x : Nat × Nat × Int × Nat × Nat × (List Int)) : Option ((List Int)) :=
  (cond (decide (x.2.2.1 = (0 : Int)))
  (some x.2.2.2.2.2)
  (Option.bind (gf_add_l0 N (x.1, x.2.1, x.2.2.1, x.2.2.2.1, x.2.2.2.2.1, ((x.2.2.2.2.1 : Nat) : Int), (0 : Int), x.2.2.2.2.2)) fun r3 =>
  (some r3)))
noncomputable def gf_clear2_b6_1 (N : Nat) (next : Int × Int × Int × Int × Nat × Nat × Nat × Nat × Int × Int × Nat × Nat × Int × Int × (List Int) → Option (((List Int)))) (x : Int × Int × Int × Int × Nat × Nat × Nat × Nat × Int × Int × Nat × Nat × Int × Int × (List Int)) : Option (((List Int))) :=
  (cond (decide (x.2.2.2.2.2.2.2.2.2.2.2.2.2.1 < x.2.2.2.2.2.2.2.2.2.2.2.2.1))
  (cond ((decide ((0 : Int) ≤ x.2.2.2.2.2.2.2.2.2.2.2.2.2.1)) && (decide (x.2.2.2.2.2.2.2.2.2.2.2.2.2.1 < ((x.2.2.2.2.2.2.2.1 : Nat) : Int))))
  ((let v2 : Nat := ((Int.toNat x.2.2.2.2.2.2.2.2.2.2.2.2.2.1) + x.2.2.2.2.2.2.1)
  (cond (decide (v2 < (List.length x.2.2.2.2.2.2.2.2.2.2.2.2.2.2)))
  ((cond ((decide ((0 : Int) ≤ x.2.2.2.2.2.2.2.2.2.2.2.2.2.1)) && (decide (x.2.2.2.2.2.2.2.2.2.2.2.2.2.1 < ((x.2.2.2.2.2.1 : Nat) : Int))))
  ((let v4 : Nat := ((Int.toNat x.2.2.2.2.2.2.2.2.2.2.2.2.2.1) + x.2.2.2.2.1)
  (cond (decide (v4 < (List.length x.2.2.2.2.2.2.2.2.2.2.2.2.2.2)))
  ((cond ((decide ((0 : Int) ≤ x.2.2.2.2.2.2.2.2.2.2.2.2.2.1)) && (decide (x.2.2.2.2.2.2.2.2.2.2.2.2.2.1 < ((x.2.2.2.2.2.1 : Nat) : Int))))
  ((let v6 : Nat := ((Int.toNat x.2.2.2.2.2.2.2.2.2.2.2.2.2.1) + x.2.2.2.2.1)
  (cond (decide (v6 < (List.length x.2.2.2.2.2.2.2.2.2.2.2.2.2.2)))
  ((let v7 : List Int := (List.set x.2.2.2.2.2.2.2.2.2.2.2.2.2.2 v6 (List.getD x.2.2.2.2.2.2.2.2.2.2.2.2.2.2 v2 (EK.dflt (.int .u8))))
  (cond ((decide ((0 : Int) ≤ x.2.2.2.2.2.2.2.2.2.2.2.2.2.1)) && (decide (x.2.2.2.2.2.2.2.2.2.2.2.2.2.1 < ((x.2.2.2.2.2.2.2.1 : Nat) : Int))))
  ((let v8 : Nat := ((Int.toNat x.2.2.2.2.2.2.2.2.2.2.2.2.2.1) + x.2.2.2.2.2.2.1)
  (cond (decide (v8 < (List.length v7)))
  ((next (x.1, x.2.1, x.2.2.1, x.2.2.2.1, x.2.2.2.2.1, x.2.2.2.2.2.1, x.2.2.2.2.2.2.1, x.2.2.2.2.2.2.2.1, x.2.2.2.2.2.2.2.2.1, x.2.2.2.2.2.2.2.2.2.1, x.2.2.2.2.2.2.2.2.2.2.1, x.2.2.2.2.2.2.2.2.2.2.2.1, x.2.2.2.2.2.2.2.2.2.2.2.2.1, (wrapF .i64 (x.2.2.2.2.2.2.2.2.2.2.2.2.2.1 + (1 : Int))), (List.set v7 v8 (List.getD x.2.2.2.2.2.2.2.2.2.2.2.2.2.2 v4 (EK.dflt (.int .u8)))))))
  none)))
  none)))
  none)))
  none))
  none)))
  none))
  none)))
  none)
  (some x.2.2.2.2.2.2.2.2.2.2.2.2.2.2))
noncomputable def gf_clear2_l6_1 (N : Nat) : Int × Int × Int × Int × Nat × Nat × Nat × Nat × Int × Int × Nat × Nat × Int × Int × (List Int) → Option (((List Int))) := loopF (gf_clear2_b6_1 N) N
noncomputable def gf_clear2_b6_2 (N : Nat) (next : Int × Int × Int × Int × Nat × Nat × Nat × Nat × Int × Int × Nat × Nat × Int × Int × (List Int) → Option (((List Int)))) (x : Int × Int × Int × Int × Nat × Nat × Nat × Nat × Int × Int × Nat × Nat × Int × Int × (List Int)) : Option (((List Int))) :=
  (cond (decide (x.2.2.2.2.2.2.2.2.2.2.2.2.2.1 < x.2.2.2.2.2.2.2.2.2.2.2.2.1))
  (cond ((decide ((0 : Int) ≤ x.2.2.2.2.2.2.2.2.2.2.2.2.2.1)) && (decide (x.2.2.2.2.2.2.2.2.2.2.2.2.2.1 < ((x.2.2.2.2.2.2.2.1 : Nat) : Int))))
  ((let v2 : Nat := ((Int.toNat x.2.2.2.2.2.2.2.2.2.2.2.2.2.1) + x.2.2.2.2.2.2.1)
  (cond (decide (v2 < (List.length x.2.2.2.2.2.2.2.2.2.2.2.2.2.2)))
  ((cond ((decide ((0 : Int) ≤ x.2.2.2.2.2.2.2.2.2.2.2.2.2.1)) && (decide (x.2.2.2.2.2.2.2.2.2.2.2.2.2.1 < ((x.2.2.2.2.2.1 : Nat) : Int))))
  ((let v4 : Nat := ((Int.toNat x.2.2.2.2.2.2.2.2.2.2.2.2.2.1) + x.2.2.2.2.1)
  (cond (decide (v4 < (List.length x.2.2.2.2.2.2.2.2.2.2.2.2.2.2)))
  ((cond ((decide ((0 : Int) ≤ x.2.2.2.2.2.2.2.2.2.2.2.2.2.1)) && (decide (x.2.2.2.2.2.2.2.2.2.2.2.2.2.1 < ((x.2.2.2.2.2.1 : Nat) : Int))))
  ((let v6 : Nat := ((Int.toNat x.2.2.2.2.2.2.2.2.2.2.2.2.2.1) + x.2.2.2.2.1)
  (cond (decide (v6 < (List.length x.2.2.2.2.2.2.2.2.2.2.2.2.2.2)))
  ((let v7 : List Int := (List.set x.2.2.2.2.2.2.2.2.2.2.2.2.2.2 v6 (List.getD x.2.2.2.2.2.2.2.2.2.2.2.2.2.2 v2 (EK.dflt (.int .u8))))
  (cond ((decide ((0 : Int) ≤ x.2.2.2.2.2.2.2.2.2.2.2.2.2.1)) && (decide (x.2.2.2.2.2.2.2.2.2.2.2.2.2.1 < ((x.2.2.2.2.2.2.2.1 : Nat) : Int))))
  ((let v8 : Nat := ((Int.toNat x.2.2.2.2.2.2.2.2.2.2.2.2.2.1) + x.2.2.2.2.2.2.1)
  (cond (decide (v8 < (List.length v7)))
  ((next (x.1, x.2.1, x.2.2.1, x.2.2.2.1, x.2.2.2.2.1, x.2.2.2.2.2.1, x.2.2.2.2.2.2.1, x.2.2.2.2.2.2.2.1, x.2.2.2.2.2.2.2.2.1, x.2.2.2.2.2.2.2.2.2.1, x.2.2.2.2.2.2.2.2.2.2.1, x.2.2.2.2.2.2.2.2.2.2.2.1, x.2.2.2.2.2.2.2.2.2.2.2.2.1, (wrapF .i64 (x.2.2.2.2.2.2.2.2.2.2.2.2.2.1 + (1 : Int))), (List.set v7 v8 (List.getD x.2.2.2.2.2.2.2.2.2.2.2.2.2.2 v4 (EK.dflt (.int .u8)))))))
  none)))
  none)))
  none)))
  none))
  none)))
  none))
  none)))
  none)
  (some x.2.2.2.2.2.2.2.2.2.2.2.2.2.2))
noncomputable def gf_clear2_l6_2 (N : Nat) : Int × Int × Int × Int × Nat × Nat × Nat × Nat × Int × Int × Nat × Nat × Int × Int × (List Int) → Option (((List Int))) := loopF (gf_clear2_b6_2 N) N
noncomputable def gf_clear2_b2 (N : Nat) (next : Int × Int × Int × Int × Int × (List Int) × Int × Int → Option ((Int × (List Int) × Int × Int))) (x : Int × Int × Int × Int × Int × (List Int) × Int × Int) : Option ((Int × (List Int) × Int × Int)) :=
  (Option.bind
  (cond (decide (x.2.2.1 < x.2.2.2.2.2.2.1))
  (Option.bind (gf_row (x.2.2.2.2.2.2.1, x.2.2.2.2.2.2.2, x.2.2.1, x.2.2.2.2.2.1)) fun r2 =>
  (cond ((decide ((0 : Int) ≤ x.2.1)) && (decide (x.2.1 < ((r2.2.1 : Nat) : Int))))
  ((let v3 : Nat := ((Int.toNat x.2.1) + r2.1)
  (cond (decide (v3 < (List.length r2.2.2)))
  ((some ((decide ((List.getD r2.2.2 v3 (EK.dflt (.int .u8))) = (0 : Int))), r2.2.2)))
  none)))
  none))
  (some (false, x.2.2.2.2.2.1)))
  fun r6 =>
  (cond r6.1
  (next (x.1, x.2.1, (wrapF .i64 (x.2.2.1 + (1 : Int))), x.2.2.2.1, x.2.2.2.2.1, r6.2, x.2.2.2.2.2.2.1, x.2.2.2.2.2.2.2))
  (some (x.2.2.1, r6.2, x.2.2.2.2.2.2.1, x.2.2.2.2.2.2.2))))
noncomputable def gf_clear2_l2 (N : Nat) : Int × Int × Int × Int × Int × (List Int) × Int × Int → Option ((Int × (List Int) × Int × Int)) := loopF (gf_clear2_b2 N) N
noncomputable def gf_clear2_b8 (N : Nat) (next : Int × Int × Int × Int × Int × Int × (List Int) × (List Int) × Int × Int × Int × Int → Option (((List Int) × (List Int) × Int × Int × Int × Int))) (x : Int × Int × Int × Int × Int × Int × (List Int) × (List Int) × Int × Int × Int × Int) : Option (((List Int) × (List Int) × Int × Int × Int × Int)) :=
  (cond (decide (x.2.2.2.2.2.1 < x.2.2.2.2.1))
  (Option.bind
  (cond (!(decide (x.2.2.2.2.2.1 = x.1)))
  (Option.bind (gf_row (x.2.2.2.2.2.2.2.2.1, x.2.2.2.2.2.2.2.2.2.1, x.2.2.2.2.2.1, x.2.2.2.2.2.2.1)) fun r3 =>
  (cond ((decide ((0 : Int) ≤ x.2.1)) && (decide (x.2.1 < ((r3.2.1 : Nat) : Int))))
  ((let v4 : Nat := ((Int.toNat x.2.1) + r3.1)
  (cond (decide (v4 < (List.length r3.2.2)))
  ((let v5 : Int := (List.getD r3.2.2 v4 (EK.dflt (.int .u8)))
  (Option.bind (gf_row (x.2.2.2.2.2.2.2.2.1, x.2.2.2.2.2.2.2.2.2.1, x.2.2.2.2.2.1, r3.2.2)) fun r6 =>
  (Option.bind (gf_row (x.2.2.2.2.2.2.2.2.1, x.2.2.2.2.2.2.2.2.2.1, x.1, r6.2.2)) fun r7 =>
  (Option.bind (gf_add N (r6.1, r6.2.1, v5, r7.1, r7.2.1, r7.2.2)) fun r8 =>
  (Option.bind
  (cond (decide ((0 : Int) < x.2.2.2.2.2.2.2.2.2.2.1))
  (Option.bind (gf_row (x.2.2.2.2.2.2.2.2.2.2.1, x.2.2.2.2.2.2.2.2.2.2.2, x.2.2.2.2.2.1, x.2.2.2.2.2.2.2.1)) fun r10 =>
  (Option.bind (gf_row (x.2.2.2.2.2.2.2.2.2.2.1, x.2.2.2.2.2.2.2.2.2.2.2, x.1, r10.2.2)) fun r11 =>
  (Option.bind (gf_add N (r10.1, r10.2.1, v5, r11.1, r11.2.1, r11.2.2)) fun r12 =>
  (some r12))))
  (some x.2.2.2.2.2.2.2.1))
  fun r13 =>
  (some (r8, r13))))))))
  none)))
  none))
  (some (x.2.2.2.2.2.2.1, x.2.2.2.2.2.2.2.1)))
  fun r14 =>
  (next (x.1, x.2.1, x.2.2.1, x.2.2.2.1, x.2.2.2.2.1, (wrapF .i64 (x.2.2.2.2.2.1 + (1 : Int))), r14.1, r14.2, x.2.2.2.2.2.2.2.2.1, x.2.2.2.2.2.2.2.2.2.1, x.2.2.2.2.2.2.2.2.2.2.1, x.2.2.2.2.2.2.2.2.2.2.2)))
  (some (x.2.2.2.2.2.2.1, x.2.2.2.2.2.2.2.1, x.2.2.2.2.2.2.2.2.1, x.2.2.2.2.2.2.2.2.2.1, x.2.2.2.2.2.2.2.2.2.2.1, x.2.2.2.2.2.2.2.2.2.2.2)))
noncomputable def gf_clear2_l8 (N : Nat) : Int × Int × Int × Int × Int × Int × (List Int) × (List Int) × Int × Int × Int × Int → Option (((List Int) × (List Int) × Int × Int × Int × Int)) := loopF (gf_clear2_b8 N) N
noncomputable def gf_clear2_b0 (N : Nat) (next : Int × Int × Int × (List Int) × (List Int) × Int × Int × Int × Int → Option ((Int × (List Int) × (List Int) × Int × Int × Int × Int))) (x : Int × Int × Int × (List Int) × (List Int) × Int × Int × Int × Int) : Option ((Int × (List Int) × (List Int) × Int × Int × Int × Int)) :=
  (cond (decide (x.2.2.1 < x.2.1))
  (Option.bind
  (Option.bind (gf_clear2_l2 N (x.1, x.2.2.1, x.1, x.2.1, x.2.2.1, x.2.2.2.1, x.2.2.2.2.2.1, x.2.2.2.2.2.2.1)) fun r2 =>
  (cond (decide (r2.1 = r2.2.2.1))
  (some (x.1, r2.2.1, x.2.2.2.2.1, r2.2.2.1, r2.2.2.2, x.2.2.2.2.2.2.2.1, x.2.2.2.2.2.2.2.2))
  (Option.bind (gf_row (r2.2.2.1, r2.2.2.2, r2.1, r2.2.1)) fun r4 =>
  (cond ((decide ((0 : Int) ≤ x.2.2.1)) && (decide (x.2.2.1 < ((r4.2.1 : Nat) : Int))))
  ((let v5 : Nat := ((Int.toNat x.2.2.1) + r4.1)
  (cond (decide (v5 < (List.length r4.2.2)))
  ((Option.bind (gf_Inv N (List.getD r4.2.2 v5 (EK.dflt (.int .u8)))) fun r7 =>
  (Option.bind
  (cond (decide (r2.2.2.1 = (0 : Int)))
  (some r4.2.2)
  (Option.bind (gf_row (r2.2.2.1, r2.2.2.2, r2.1, r4.2.2)) fun r9 =>
  (Option.bind (gf_row (r2.2.2.1, r2.2.2.2, x.1, r9.2.2)) fun r10 =>
  (Option.bind (gf_clear2_l6_1 N (x.1, x.2.2.1, r2.1, r7.1, r9.1, r9.2.1, r10.1, r10.2.1, x.2.1, x.2.2.1, 0, 2, ((r9.2.1 : Nat) : Int), (0 : Int), r10.2.2)) fun r12 =>
  (cond (cond (decide ((r10.1 + r10.2.1) ≤ (List.length r12))) true false)
  (Option.bind (gf_Scale_v1 N (r7.1, (List.take r10.2.1 (List.drop r10.1 r12)))) fun r13 =>
  (cond (decide ((r10.1 + r10.2.1) ≤ (List.length r12)))
  ((some (List.take r10.1 r12 ++ List.take (min (List.length r13) r10.2.1) r13 ++ List.drop (r10.1 + (min (List.length r13) r10.2.1)) r12)))
  none))
  none)))))
  fun r16 =>
  (Option.bind
  (cond (decide (x.2.2.2.2.2.2.2.1 = (0 : Int)))
  (some x.2.2.2.2.1)
  (Option.bind (gf_row (x.2.2.2.2.2.2.2.1, x.2.2.2.2.2.2.2.2, r2.1, x.2.2.2.2.1)) fun r18 =>
  (Option.bind (gf_row (x.2.2.2.2.2.2.2.1, x.2.2.2.2.2.2.2.2, x.1, r18.2.2)) fun r19 =>
  (Option.bind (gf_clear2_l6_2 N (x.1, x.2.2.1, r2.1, r7.1, r18.1, r18.2.1, r19.1, r19.2.1, x.2.1, x.2.2.1, 0, 2, ((r18.2.1 : Nat) : Int), (0 : Int), r19.2.2)) fun r21 =>
  (cond (cond (decide ((r19.1 + r19.2.1) ≤ (List.length r21))) true false)
  (Option.bind (gf_Scale_v1 N (r7.1, (List.take r19.2.1 (List.drop r19.1 r21)))) fun r22 =>
  (cond (decide ((r19.1 + r19.2.1) ≤ (List.length r21)))
  ((some (List.take r19.1 r21 ++ List.take (min (List.length r22) r19.2.1) r22 ++ List.drop (r19.1 + (min (List.length r22) r19.2.1)) r21)))
  none))
  none)))))
  fun r25 =>
  (Option.bind (gf_clear2_l8 N (x.1, x.2.2.1, x.2.1, x.2.2.1, r2.2.2.1, (0 : Int), r16, r25, r2.2.2.1, r2.2.2.2, x.2.2.2.2.2.2.2.1, x.2.2.2.2.2.2.2.2)) fun r26 =>
  (some ((wrapF .i64 (x.1 + (1 : Int))), r26.1, r26.2.1, r26.2.2.1, r26.2.2.2.1, r26.2.2.2.2.1, r26.2.2.2.2.2)))))))
  none)))
  none))))
  fun r28 =>
  (next (r28.1, x.2.1, (wrapF .i64 (x.2.2.1 + (1 : Int))), r28.2.1, r28.2.2.1, r28.2.2.2.1, r28.2.2.2.2.1, r28.2.2.2.2.2.1, r28.2.2.2.2.2.2)))
  (some (x.1, x.2.2.2.1, x.2.2.2.2.1, x.2.2.2.2.2.1, x.2.2.2.2.2.2.1, x.2.2.2.2.2.2.2.1, x.2.2.2.2.2.2.2.2)))
noncomputable def gf_clear2_l0 (N : Nat) : Int × Int × Int × (List Int) × (List Int) × Int × Int × Int × Int → Option ((Int × (List Int) × (List Int) × Int × Int × Int × Int)) := loopF (gf_clear2_b0 N) N
noncomputable def gf_clear2 (N : Nat) (x : Int × Int × Int × Int × (List Int) × (List Int)) : Option (Int × (List Int) × (List Int)) :=
  (Option.bind (gf_clear2_l0 N ((0 : Int), x.2.1, (0 : Int), x.2.2.2.2.1, x.2.2.2.2.2, x.1, x.2.1, x.2.2.1, x.2.2.2.1)) fun r1 =>
  (some (r1.1, r1.2.1, r1.2.2.1)))
noncomputable def gf_Inverse (N : Nat) (x : Int × Int × (List Int)) : Option (Int × Int × Int × (List Int)) :=
  (Option.bind (gf_Check (x.1, x.2.1, x.2.2)) fun r1 =>
  (cond (!(decide (r1 = (0 : Int))))
  (some ((0 : Int), (0 : Int), r1, ([] : List Int)))
  (cond (!(decide (x.1 = x.2.1)))
  (some ((0 : Int), (0 : Int), (23 : Int), ([] : List Int)))
  (Option.bind (gf_Identity N x.1) fun r4 =>
  (Option.bind (gf_own (x.1, x.2.1, x.2.2)) fun r5 =>
  (Option.bind (gf_clear2 N (r5.1, r5.2.1, r4.1, r4.2.1, r5.2.2, r4.2.2.2)) fun r6 =>
  (cond (decide (r6.1 < x.1))
  (some ((0 : Int), (0 : Int), (22 : Int), ([] : List Int)))
  (some (r4.1, r4.2.1, (0 : Int), r6.2.2)))))))))
noncomputable def rs_Code_solve_b0 (N : Nat) (next : (List (List Int)) × Int × (List Int) × Int × Int × Int × Int × (List Int) × (List Int) → Option ((Int × Int × (List Int) × (List Int)))) (x : (List (List Int)) × Int × (List Int) × Int × Int × Int × Int × (List Int) × (List Int)) : Option ((Int × Int × (List Int) × (List Int))) :=
  (cond (decide (x.2.2.2.2.1 < x.2.2.2.1))
  (cond ((decide ((0 : Int) ≤ x.2.2.2.2.1)) && (decide (x.2.2.2.2.1 < (((List.length x.2.2.1) : Nat) : Int))))
  ((Option.bind (rs_Code_Row ((List.getD x.2.2.1 (Int.toNat x.2.2.2.2.1) (EK.dflt (.int .i64))), x.2.2.2.2.2.1, x.2.2.2.2.2.2.1, x.2.2.2.2.2.2.2.1)) fun r3 =>
  (cond (fits 1 ((List.length x.2.2.2.2.2.2.2.2) + (List.length r3.2.2.2)))
  ((next (x.1, x.2.1, x.2.2.1, x.2.2.2.1, (wrapF .i64 (x.2.2.2.2.1 + (1 : Int))), r3.1, r3.2.1, r3.2.2.1, (x.2.2.2.2.2.2.2.2 ++ r3.2.2.2))))
  none)))
  none)
  (some (x.2.2.2.2.2.1, x.2.2.2.2.2.2.1, x.2.2.2.2.2.2.2.1, x.2.2.2.2.2.2.2.2)))
noncomputable def rs_Code_solve_l0 (N : Nat) : (List (List Int)) × Int × (List Int) × Int × Int × Int × Int × (List Int) × (List Int) → Option ((Int × Int × (List Int) × (List Int))) := loopF (rs_Code_solve_b0 N) N
noncomputable def rs_Code_solve_b2 (N : Nat) (next : (List (List Int)) × Int × Int × Int × Int × (List Int) × Int × Int × (List (List Int)) → Option ((Int × (List Int) × Int × Int × (List (List Int))))) (x : (List (List Int)) × Int × Int × Int × Int × (List Int) × Int × Int × (List (List Int))) : Option ((Int × (List Int) × Int × Int × (List (List Int)))) :=
  (cond (decide (x.2.2.2.1 < x.2.2.1))
  (let v2 : Int := (wrapF .i64 (x.2.2.2.1 * x.2.2.2.2.1))
  (let v4 : Int := (wrapF .i64 ((wrapF .i64 (x.2.2.2.1 + (1 : Int))) * x.2.2.2.2.1))
  (let v6 : Int := (wrapF .i64 ((wrapF .i64 (x.2.2.2.1 + (1 : Int))) * x.2.2.2.2.1))
  (cond ((((decide ((0 : Int) ≤ v2)) && (decide (v2 ≤ v4))) && (decide (v4 ≤ v6))) && (decide (v6 ≤ (((List.length x.2.2.2.2.2.1) : Nat) : Int))))
  ((let v7 : Nat := (Int.toNat v2)
  (let v8 : Nat := ((Int.toNat v4) - (Int.toNat v2))
  (cond (cond (decide ((v7 + v8) ≤ (List.length x.2.2.2.2.2.1))) true false)
  (Option.bind (rs_mixed N ((List.take v8 (List.drop v7 x.2.2.2.2.2.1)), x.1, x.2.1)) fun r10 =>
  (let v11 : List (List Int) := ([r10] : List (List Int))
  (cond (fits 24 ((List.length x.2.2.2.2.2.2.2.2) + (List.length v11)))
  ((next (x.1, x.2.1, x.2.2.1, (wrapF .i64 (x.2.2.2.1 + (1 : Int))), x.2.2.2.2.1, x.2.2.2.2.2.1, x.2.2.2.2.2.2.1, x.2.2.2.2.2.2.2.1, (x.2.2.2.2.2.2.2.2 ++ v11))))
  none)))
  none))))
  none))))
  (some (x.2.2.2.2.1, x.2.2.2.2.2.1, x.2.2.2.2.2.2.1, x.2.2.2.2.2.2.2.1, x.2.2.2.2.2.2.2.2)))
noncomputable def rs_Code_solve_l2 (N : Nat) : (List (List Int)) × Int × Int × Int × Int × (List Int) × Int × Int × (List (List Int)) → Option ((Int × (List Int) × Int × Int × (List (List Int)))) := loopF (rs_Code_solve_b2 N) N
noncomputable def rs_Code_solve (N : Nat) (x : (List (List Int)) × (List Int) × Int × Int × Int × (List Int)) : Option (Int × Int × Int × (List Int) × (List (List Int))) :=
  (let v1 : Int := (wrapF .i64 (x.2.2.2.1 * x.2.2.2.1))
  (cond ((decide ((0 : Int) ≤ v1)) && (fits 1 (Int.toNat v1)))
  ((Option.bind (rs_Code_solve_l0 N (x.1, x.2.2.1, x.2.1, (((List.length x.2.1) : Nat) : Int), (0 : Int), x.2.2.2.1, x.2.2.2.2.1, x.2.2.2.2.2, (List.replicate 0 (EK.dflt (.int .u8))))) fun r4 =>
  (Option.bind (gf_Inverse N (r4.1, r4.1, r4.2.2.2)) fun r5 =>
  (cond (!(decide (r5.2.2.1 = (0 : Int))))
  (some (r5.2.2.1, r4.1, r4.2.1, r4.2.2.1, ([] : List (List Int))))
  (Option.bind (rs_Code_solve_l2 N (x.1, x.2.2.1, r4.1, (0 : Int), r4.1, r5.2.2.2, r5.1, r5.2.1, ([] : List (List Int)))) fun r7 =>
  (some ((0 : Int), r7.1, r4.2.1, r4.2.2.1, r7.2.2.2.2)))))))
  none))
noncomputable def rs_mixed_v1_b0 (N : Nat) (next : (List (List Int)) × (List Int) × Int × Int × (List Int) → Option (((List Int)))) (x : (List (List Int)) × (List Int) × Int × Int × (List Int)) : Option (((List Int))) :=
  (cond (decide (x.2.2.2.1 < x.2.2.1))
  (Option.bind
  (cond ((decide ((0 : Int) ≤ x.2.2.2.1)) && (decide (x.2.2.2.1 < (((List.length x.2.1) : Nat) : Int))))
  ((let v2 : Int := (List.getD x.2.1 (Int.toNat x.2.2.2.1) (EK.dflt (.int .u8)))
  (cond (decide (v2 = (0 : Int)))
  (some x.2.2.2.2)
  (cond ((decide ((0 : Int) ≤ x.2.2.2.1)) && (decide (x.2.2.2.1 < (((List.length x.1) : Nat) : Int))))
  ((Option.bind (gf_Scale N (v2, (List.getD x.1 (Int.toNat x.2.2.2.1) (EK.dflt (.sl (.int .u8)))))) fun r5 =>
  (Option.bind (gf_Sum N (x.2.2.2.2, r5)) fun r6 =>
  (cond (decide ((0 + (List.length x.2.2.2.2)) ≤ (List.length x.2.2.2.2)))
  ((some (List.take 0 x.2.2.2.2 ++ List.take (min (List.length r6.2) (List.length x.2.2.2.2)) r6.2 ++ List.drop (0 + (min (List.length r6.2) (List.length x.2.2.2.2))) x.2.2.2.2)))
  none))))
  none))))
  none)
  fun r9 =>
  (next (x.1, x.2.1, x.2.2.1, (wrapF .i64 (x.2.2.2.1 + (1 : Int))), r9)))
  (some x.2.2.2.2))
noncomputable def rs_mixed_v1_l0 (N : Nat) : (List (List Int)) × (List Int) × Int × Int × (List Int) → Option (((List Int))) := loopF (rs_mixed_v1_b0 N) N
noncomputable def rs_mixed_v1 (N : Nat) (x : (List Int) × (List (List Int)) × Int) : Option ((List Int)) :=
  (cond ((decide ((0 : Int) ≤ x.2.2)) && (fits 1 (Int.toNat x.2.2)))
  ((Option.bind (rs_mixed_v1_l0 N (x.2.1, x.1, (((List.length x.1) : Nat) : Int), (0 : Int), (List.replicate (Int.toNat x.2.2) (EK.dflt (.int .u8))))) fun r3 =>
  (some r3)))
  none)
noncomputable def rs_Code_Rebuild_b0 (N : Nat) (next : (List (List Int)) × (List Bool) × (List Bool) × Int × Int × (List (List Int)) × (List Int) → Option (((List (List Int)) × (List Int)))) (x : (List (List Int)) × (List Bool) × (List Bool) × Int × Int × (List (List Int)) × (List Int)) : Option (((List (List Int)) × (List Int))) :=
  (cond (decide (x.2.2.2.2.1 < x.2.2.2.1))
  (cond ((decide ((0 : Int) ≤ x.2.2.2.2.1)) && (decide (x.2.2.2.2.1 < (((List.length x.2.2.1) : Nat) : Int))))
  ((Option.bind
  (cond (List.getD x.2.2.1 (Int.toNat x.2.2.2.2.1) (EK.dflt .bool))
  (cond ((decide ((0 : Int) ≤ x.2.2.2.2.1)) && (decide (x.2.2.2.2.1 < (((List.length x.1) : Nat) : Int))))
  ((let v4 : List (List Int) := ([(List.getD x.1 (Int.toNat x.2.2.2.2.1) (EK.dflt (.sl (.int .u8))))] : List (List Int))
  (cond ((decide (1 ≤ (List.length v4))) && (fits 24 ((List.length x.2.2.2.2.2.1) + (List.length (List.take 1 (List.drop 0 v4))))))
  ((let v6 : List Int := ([x.2.2.2.2.1] : List Int)
  (cond ((decide (1 ≤ (List.length v6))) && (fits 8 ((List.length x.2.2.2.2.2.2) + (List.length (List.take 1 (List.drop 0 v6))))))
  ((some ((x.2.2.2.2.2.1 ++ (List.take 1 (List.drop 0 v4))), (x.2.2.2.2.2.2 ++ (List.take 1 (List.drop 0 v6))))))
  none)))
  none)))
  none)
  (some (x.2.2.2.2.2.1, x.2.2.2.2.2.2)))
  fun r8 =>
  (next (x.1, x.2.1, x.2.2.1, x.2.2.2.1, (wrapF .i64 (x.2.2.2.2.1 + (1 : Int))), r8.1, r8.2))))
  none)
  (some (x.2.2.2.2.2.1, x.2.2.2.2.2.2)))
noncomputable def rs_Code_Rebuild_l0 (N : Nat) : (List (List Int)) × (List Bool) × (List Bool) × Int × Int × (List (List Int)) × (List Int) → Option (((List (List Int)) × (List Int))) := loopF (rs_Code_Rebuild_b0 N) N
noncomputable def rs_Code_Rebuild_b3 (N : Nat) (next : (List (List Int)) × Int × (List Bool) × Int × Int × Int × Int × (List Int) × (List (List Int)) × (List (List Int)) → Option ((Int × Int × (List Int) × (List (List Int)) × (List (List Int))))) (x : (List (List Int)) × Int × (List Bool) × Int × Int × Int × Int × (List Int) × (List (List Int)) × (List (List Int))) : Option ((Int × Int × (List Int) × (List (List Int)) × (List (List Int)))) :=
  (cond (decide (x.2.2.2.2.1 < x.2.2.2.1))
  (cond ((decide ((0 : Int) ≤ x.2.2.2.2.1)) && (decide (x.2.2.2.2.1 < (((List.length x.2.2.1) : Nat) : Int))))
  ((cond ((decide ((0 : Int) ≤ x.2.1)) && (fits 1 (Int.toNat x.2.1)))
  ((let v3 : List Int := (List.replicate (Int.toNat x.2.1) (EK.dflt (.int .u8)))
  (Option.bind
  (cond (List.getD x.2.2.1 (Int.toNat x.2.2.2.2.1) (EK.dflt .bool))
  (cond ((decide ((0 : Int) ≤ x.2.2.2.2.1)) && (decide (x.2.2.2.2.1 < (((List.length x.1) : Nat) : Int))))
  ((let v4 : (List Int) := (List.getD x.1 (Int.toNat x.2.2.2.2.1) (EK.dflt (.sl (.int .u8))))
  (cond (decide ((0 + (List.length v3)) ≤ (List.length v3)))
  ((some (x.2.2.2.2.2.1, x.2.2.2.2.2.2.1, x.2.2.2.2.2.2.2.1, (List.take 0 v3 ++ List.take (min (List.length v4) (List.length v3)) v4 ++ List.drop (0 + (min (List.length v4) (List.length v3))) v3))))
  none)))
  none)
  (Option.bind (rs_Code_Row (x.2.2.2.2.1, x.2.2.2.2.2.1, x.2.2.2.2.2.2.1, x.2.2.2.2.2.2.2.1)) fun r7 =>
  (Option.bind (rs_mixed_v1 N (r7.2.2.2, x.2.2.2.2.2.2.2.2.1, x.2.1)) fun r8 =>
  (cond (decide ((0 + (List.length v3)) ≤ (List.length v3)))
  ((some (r7.1, r7.2.1, r7.2.2.1, (List.take 0 v3 ++ List.take (min (List.length r8) (List.length v3)) r8 ++ List.drop (0 + (min (List.length r8) (List.length v3))) v3))))
  none))))
  fun r11 =>
  (let v12 : List (List Int) := ([r11.2.2.2] : List (List Int))
  (cond (fits 24 ((List.length x.2.2.2.2.2.2.2.2.2) + (List.length v12)))
  ((next (x.1, x.2.1, x.2.2.1, x.2.2.2.1, (wrapF .i64 (x.2.2.2.2.1 + (1 : Int))), r11.1, r11.2.1, r11.2.2.1, x.2.2.2.2.2.2.2.2.1, (x.2.2.2.2.2.2.2.2.2 ++ v12))))
  none)))))
  none))
  none)
  (some (x.2.2.2.2.2.1, x.2.2.2.2.2.2.1, x.2.2.2.2.2.2.2.1, x.2.2.2.2.2.2.2.2.1, x.2.2.2.2.2.2.2.2.2)))
noncomputable def rs_Code_Rebuild_l3 (N : Nat) : (List (List Int)) × Int × (List Bool) × Int × Int × Int × Int × (List Int) × (List (List Int)) × (List (List Int)) → Option ((Int × Int × (List Int) × (List (List Int)) × (List (List Int)))) := loopF (rs_Code_Rebuild_b3 N) N
noncomputable def rs_Code_Rebuild (N : Nat) (x : (List (List Int)) × (List Bool) × Int × Int × (List Int)) : Option (Int × Int × Int × (List Int) × (List (List Int))) :=
  (Option.bind
  (cond (!(decide ((((List.length x.1) : Nat) : Int) = (wrapF .i64 (x.2.2.1 + x.2.2.2.1)))))
  (some true)
  (some (!(decide ((((List.length x.2.1) : Nat) : Int) = (wrapF .i64 (x.2.2.1 + x.2.2.2.1)))))))
  fun r7 =>
  (cond r7
  (some ((2 : Int), x.2.2.1, x.2.2.2.1, x.2.2.2.2, ([] : List (List Int))))
  (Option.bind (rs_Code_Rebuild_l0 N (x.1, x.2.1, x.2.1, (((List.length x.2.1) : Nat) : Int), (0 : Int), ([] : List (List Int)), ([] : List Int))) fun r9 =>
  (Option.bind (rs_even_v1 N r9.1) fun r10 =>
  (cond (!(decide (r10.2 = (0 : Int))))
  (some (r10.2, x.2.2.1, x.2.2.2.1, x.2.2.2.2, ([] : List (List Int))))
  (cond (decide ((((List.length r9.1) : Nat) : Int) < x.2.2.1))
  (some ((30 : Int), x.2.2.1, x.2.2.2.1, x.2.2.2.2, ([] : List (List Int))))
  (cond ((decide ((0 : Int) ≤ x.2.2.1)) && (decide (x.2.2.1 ≤ (((List.length r9.1) : Nat) : Int))))
  ((let v14 : Nat := (Int.toNat x.2.2.1)
  (cond ((decide ((0 : Int) ≤ x.2.2.1)) && (decide (x.2.2.1 ≤ (((List.length r9.2) : Nat) : Int))))
  ((let v15 : Nat := (Int.toNat x.2.2.1)
  (cond (((decide ((0 + v14) ≤ (List.length r9.1))) && ((decide ((0 + v15) ≤ (List.length r9.2))) && true)) && true)
  (Option.bind (rs_Code_solve N ((List.take v14 (List.drop 0 r9.1)), (List.take v15 (List.drop 0 r9.2)), r10.1, x.2.2.1, x.2.2.2.1, x.2.2.2.2)) fun r16 =>
  (cond (!(decide (r16.1 = (0 : Int))))
  (some (r16.1, r16.2.1, r16.2.2.1, r16.2.2.2.1, ([] : List (List Int))))
  (Option.bind (rs_Code_Rebuild_l3 N (x.1, r10.1, x.2.1, (((List.length x.2.1) : Nat) : Int), (0 : Int), r16.2.1, r16.2.2.1, r16.2.2.2.1, r16.2.2.2.2, ([] : List (List Int)))) fun r19 =>
  (some ((0 : Int), r19.1, r19.2.1, r19.2.2.1, r19.2.2.2.2)))))
  none)))
  none)))
  none)))))))
noncomputable def granaryref03_Same_b0 (N : Nat) (next : (List (List Int)) × (List (List Int)) × Int → Option (Unit ⊕ Unit)) (x : (List (List Int)) × (List (List Int)) × Int) : Option (Unit ⊕ Unit) :=
  (cond (decide (x.2.2 < (((List.length x.1) : Nat) : Int)))
  (cond ((decide ((0 : Int) ≤ x.2.2)) && (decide (x.2.2 < (((List.length x.1) : Nat) : Int))))
  ((cond ((decide ((0 : Int) ≤ x.2.2)) && (decide (x.2.2 < (((List.length x.2.1) : Nat) : Int))))
  ((cond (!(decide ((List.map (fun (n : Int) => UInt8.ofNat n.toNat) (List.getD x.1 (Int.toNat x.2.2) (EK.dflt (.sl (.int .u8))))) = (List.map (fun (n : Int) => UInt8.ofNat n.toNat) (List.getD x.2.1 (Int.toNat x.2.2) (EK.dflt (.sl (.int .u8))))))))
  (some (.inl ()))
  (next (x.1, x.2.1, (wrapF .i64 (x.2.2 + (1 : Int)))))))
  none))
  none)
  (some (.inr (()))))
noncomputable def granaryref03_Same_l0 (N : Nat) : (List (List Int)) × (List (List Int)) × Int → Option (Unit ⊕ Unit) := loopF (granaryref03_Same_b0 N) N
noncomputable def granaryref03_Same (N : Nat) (x : (List (List Int)) × (List (List Int))) : Option (Bool) :=
  (cond (!(decide ((((List.length x.1) : Nat) : Int) = (((List.length x.2) : Nat) : Int))))
  (some false)
  (Option.bind (granaryref03_Same_l0 N (x.1, x.2, (0 : Int))) fun r4 =>
  (match r4 with
  | .inl y5 =>
  (some false)
  | .inr z6 =>
  (some true))))
noncomputable def granarylaw03_live (N : Nat) (x : Unit) : Option (Bool) :=
  (Option.bind (rs_New N ((2 : Int), (1 : Int))) fun r1 =>
  (match r1 with
  | .inl y2 =>
  (Option.bind (granarylaw03_num (2 : Int)) fun r4 =>
  (cond (!(decide (r4 = (0 : Int))))
  (some false)
  (some false)))
  | .inr z3 =>
  (Option.bind (granarylaw03_num (0 : Int)) fun r6 =>
  (cond (!(decide (r6 = (0 : Int))))
  (some false)
  (let v8 : List Int := ([(1 : Int)] : List Int)
  (let v9 : List Int := ([(1 : Int)] : List Int)
  (cond (((decide (1 ≤ (List.length v8))) && ((decide (1 ≤ (List.length v9))) && true)) && true)
  ((Option.bind (rs_Code_Encode N (([(List.take 1 (List.drop 0 v8)), (List.take 1 (List.drop 0 v9))] : List (List Int)), z3.1, z3.2.1, z3.2.2)) fun r11 =>
  (Option.bind
  (Option.bind (granarylaw03_num r11.1) fun r12 =>
  (cond (!(decide (r12 = (0 : Int))))
  (some true)
  (cond (!(decide ((((List.length r11.2.2.2.2) : Nat) : Int) = (1 : Int))))
  (some true)
  (cond (decide ((0 : Int) < (((List.length r11.2.2.2.2) : Nat) : Int)))
  ((cond (decide (0 < (List.length r11.2.2.2.2)))
  ((some (!(decide ((List.map (fun (n : Int) => UInt8.ofNat n.toNat) (List.getD r11.2.2.2.2 0 (EK.dflt (.sl (.int .u8))))) = ([122] : List UInt8))))))
  none))
  none))))
  fun r19 =>
  (cond r19
  (some false)
  (let v20 : List Int := ([(1 : Int)] : List Int)
  (let v21 : List Int := ([(122 : Int)] : List Int)
  (cond (((decide (1 ≤ (List.length v20))) && ((decide (1 ≤ (List.length v21))) && true)) && true)
  ((let v23 : List Bool := ([false, true, true] : List Bool)
  (cond (((decide (3 ≤ (List.length v23))) && true) && true)
  (Option.bind (rs_Code_Rebuild N (([([] : List Int), (List.take 1 (List.drop 0 v20)), (List.take 1 (List.drop 0 v21))] : List (List Int)), (List.take 3 (List.drop 0 v23)), r11.2.1, r11.2.2.1, r11.2.2.2.1)) fun r24 =>
  (let v25 : List Int := ([(122 : Int)] : List Int)
  (cond (((decide (1 ≤ (List.length v25))) && true) && true)
  ((let v27 : List Bool := ([false, false, true] : List Bool)
  (cond (((decide (3 ≤ (List.length v27))) && true) && true)
  (Option.bind (rs_Code_Rebuild N (([([] : List Int), ([] : List Int), (List.take 1 (List.drop 0 v25))] : List (List Int)), (List.take 3 (List.drop 0 v27)), r24.2.1, r24.2.2.1, r24.2.2.2.1)) fun r28 =>
  (Option.bind
  (Option.bind (granarylaw03_num r24.1) fun r29 =>
  (cond (decide (r29 = (0 : Int)))
  (let v31 : List Int := ([(1 : Int)] : List Int)
  (let v32 : List Int := ([(1 : Int)] : List Int)
  (let v33 : List Int := ([(122 : Int)] : List Int)
  (cond (((decide (1 ≤ (List.length v31))) && ((decide (1 ≤ (List.length v32))) && ((decide (1 ≤ (List.length v33))) && true))) && true)
  ((Option.bind (granaryref03_Same N (r24.2.2.2.2, ([(List.take 1 (List.drop 0 v31)), (List.take 1 (List.drop 0 v32)), (List.take 1 (List.drop 0 v33))] : List (List Int)))) fun r35 =>
  (cond r35
  (Option.bind (granarylaw03_num r28.1) fun r36 =>
  (some (decide (r36 = (30 : Int)))))
  (some false))))
  none))))
  (some false)))
  fun r38 =>
  (some r38)))
  none)))
  none)))
  none)))
  none)))))))
  none)))))))
noncomputable def granaryref03_New (x : Int × Int) : Option ((Unit) ⊕ (Int × Int)) :=
  (Option.bind
  (cond (decide (x.1 < (1 : Int)))
  (some true)
  (cond (decide ((16 : Int) < x.1))
  (some true)
  (cond (decide (x.2 < (0 : Int)))
  (some true)
  (some (decide ((8 : Int) < x.2))))))
  fun r5 =>
  (cond r5
  (some (.inl ()))
  (some (.inr ((x.1, x.2))))))
noncomputable def granarylaw03_both (N : Nat) (x : Int × Int) : Option ((Bool) ⊕ (Int × Int) ⊕ (Int × Int × (List Int)) ⊕ (Bool × Int × Int × Int × Int × (List Int))) :=
  (Option.bind (rs_New N (x.1, x.2)) fun r1 =>
  (match r1 with
  | .inl y2 =>
  (Option.bind (granaryref03_New (x.1, x.2)) fun r4 =>
  (match r4 with
  | .inl y5 =>
  (Option.bind (granarylaw03_num (2 : Int)) fun r7 =>
  (cond (decide (r7 = (2 : Int)))
  (some (.inl true))
  (some (.inl false))))
  | .inr z6 =>
  (Option.bind (granarylaw03_num (2 : Int)) fun r9 =>
  (cond (decide (r9 = (0 : Int)))
  (some (.inr (.inl (z6.1, z6.2))))
  (some (.inr (.inl (z6.1, z6.2))))))))
  | .inr z3 =>
  (Option.bind (granaryref03_New (x.1, x.2)) fun r11 =>
  (match r11 with
  | .inl y12 =>
  (Option.bind (granarylaw03_num (0 : Int)) fun r14 =>
  (cond (decide (r14 = (2 : Int)))
  (some (.inr (.inr (.inl (z3.1, z3.2.1, z3.2.2)))))
  (some (.inr (.inr (.inl (z3.1, z3.2.1, z3.2.2)))))))
  | .inr z13 =>
  (Option.bind (granarylaw03_num (0 : Int)) fun r16 =>
  (cond (decide (r16 = (0 : Int)))
  (some (.inr (.inr (.inr ((true, z3.1, z3.2.1, z13.1, z13.2, z3.2.2))))))
  (some (.inr (.inr (.inr ((false, z3.1, z3.2.1, z13.1, z13.2, z3.2.2))))))))))))
noncomputable def granaryref02_Mul_b0 (N : Nat) (next : Int × Int × Int × Int → Option (Int)) (x : Int × Int × Int × Int) : Option (Int) :=
  (cond (decide (x.2.2.2 < (8 : Int)))
  (let v2 : Int := (wrapF .u64 x.2.2.2)
  (cond (decide ((0 : Int) ≤ v2))
  ((Option.bind
  (cond (!(decide ((andF .u8 x.1 (shlF .u8 (1 : Int) v2)) = (0 : Int))))
  (some (xorF .i64 x.2.1 x.2.2.1))
  (some x.2.1))
  fun r7 =>
  (let v8 : Int := (wrapF .i64 ((2 : Int) * x.2.2.1))
  (Option.bind
  (cond (decide ((255 : Int) < v8))
  (some (xorF .i64 v8 (285 : Int)))
  (some v8))
  fun r11 =>
  (next (x.1, r7, r11, (wrapF .i64 (x.2.2.2 + (1 : Int)))))))))
  none))
  (some x.2.1))
noncomputable def granaryref02_Mul_l0 (N : Nat) : Int × Int × Int × Int → Option (Int) := loopF (granaryref02_Mul_b0 N) N
noncomputable def granaryref02_Mul (N : Nat) (x : Int × Int) : Option (Int) :=
  (Option.bind (granaryref02_Mul_l0 N (x.2, (0 : Int), (wrapF .i64 x.1), (0 : Int))) fun r2 =>
  (some (wrapF .u8 r2)))
noncomputable def granaryref02_power_b0 (N : Nat) (next : Int × Int × Int × Int → Option (Int)) (x : Int × Int × Int × Int) : Option (Int) :=
  (cond (decide (x.2.2.2 < x.2.1))
  (Option.bind (granaryref02_Mul N (x.2.2.1, x.1)) fun r2 =>
  (next (x.1, x.2.1, r2, (wrapF .i64 (x.2.2.2 + (1 : Int))))))
  (some x.2.2.1))
noncomputable def granaryref02_power_l0 (N : Nat) : Int × Int × Int × Int → Option (Int) := loopF (granaryref02_power_b0 N) N
noncomputable def granaryref02_power (N : Nat) (x : Int × Int) : Option (Int) :=
  (Option.bind (granaryref02_power_l0 N (x.1, x.2, (1 : Int), (0 : Int))) fun r1 =>
  (some r1))
noncomputable def granaryref02_Inv (N : Nat) (x : Int) : Option (Int × Int) :=
  (cond (decide (x = (0 : Int)))
  (some ((0 : Int), (20 : Int)))
  (Option.bind (granaryref02_power N (x, (254 : Int))) fun r2 =>
  (some (r2, (0 : Int)))))
noncomputable def granaryref03_Code_Row_b0 (N : Nat) (next : Int × Int × Int × (List Int) → Option ((Int × (List Int)))) (x : Int × Int × Int × (List Int)) : Option ((Int × (List Int))) :=
  (cond (decide (x.2.1 < x.2.2.1))
  (Option.bind
  (cond (decide (x.1 < x.2.2.1))
  (some (decide (x.1 = x.2.1)))
  (some false))
  fun r4 =>
  (Option.bind
  (cond r4
  (cond ((decide ((0 : Int) ≤ x.2.1)) && (decide (x.2.1 < (((List.length x.2.2.2) : Nat) : Int))))
  ((let v5 : Nat := (Int.toNat x.2.1)
  (cond (decide (v5 < (List.length x.2.2.2)))
  ((some (List.set x.2.2.2 v5 (1 : Int))))
  none)))
  none)
  (some x.2.2.2))
  fun r7 =>
  (Option.bind
  (cond (decide (x.2.2.1 ≤ x.1))
  (Option.bind (granaryref02_Inv N (xorF .u8 (wrapF .u8 x.1) (wrapF .u8 x.2.1))) fun r12 =>
  (cond ((decide ((0 : Int) ≤ x.2.1)) && (decide (x.2.1 < (((List.length r7) : Nat) : Int))))
  ((let v13 : Nat := (Int.toNat x.2.1)
  (cond (decide (v13 < (List.length r7)))
  ((some (List.set r7 v13 r12.1)))
  none)))
  none))
  (some r7))
  fun r15 =>
  (next (x.1, (wrapF .i64 (x.2.1 + (1 : Int))), x.2.2.1, r15)))))
  (some (x.2.2.1, x.2.2.2)))
noncomputable def granaryref03_Code_Row_l0 (N : Nat) : Int × Int × Int × (List Int) → Option ((Int × (List Int))) := loopF (granaryref03_Code_Row_b0 N) N
noncomputable def granaryref03_Code_Row (N : Nat) (x : Int × Int × Int) : Option (Int × Int × (List Int)) :=
  (Option.bind
  (cond (decide (x.1 < (0 : Int)))
  (some true)
  (some (decide ((wrapF .i64 (x.2.1 + x.2.2)) ≤ x.1))))
  fun r4 =>
  (cond r4
  (some (x.2.1, x.2.2, ([] : List Int)))
  (cond ((decide ((0 : Int) ≤ x.2.1)) && (fits 1 (Int.toNat x.2.1)))
  ((Option.bind (granaryref03_Code_Row_l0 N (x.1, (0 : Int), x.2.1, (List.replicate (Int.toNat x.2.1) (EK.dflt (.int .u8))))) fun r6 =>
  (some (r6.1, x.2.2, r6.2))))
  none)))
noncomputable def granarylaw03_lent_b0 (N : Nat) (next : (List (List Int)) × Int × (List (List Int)) → Option (((List (List Int))))) (x : (List (List Int)) × Int × (List (List Int))) : Option (((List (List Int)))) :=
  (cond (decide (x.2.1 < (((List.length x.1) : Nat) : Int)))
  (cond ((decide ((0 : Int) ≤ x.2.1)) && (decide (x.2.1 < (((List.length x.1) : Nat) : Int))))
  ((let v4 : (List Int) := (List.getD x.1 (Int.toNat x.2.1) (EK.dflt (.sl (.int .u8))))
  (cond (fits 1 (List.length v4))
  ((let v5 : List Int := ([(9 : Int), (9 : Int)] : List Int)
  (cond ((decide (2 ≤ (List.length v5))) && (fits 1 ((List.length v4) + (List.length (List.take 2 (List.drop 0 v5))))))
  ((let v6 : List Int := (v4 ++ (List.take 2 (List.drop 0 v5)))
  (cond ((decide ((0 : Int) ≤ x.2.1)) && (decide (x.2.1 < (((List.length x.1) : Nat) : Int))))
  ((let v8 : Int := (((List.length (List.getD x.1 (Int.toNat x.2.1) (EK.dflt (.sl (.int .u8))))) : Nat) : Int)
  (cond ((decide ((0 : Int) ≤ v8)) && (decide (v8 ≤ (((List.length v6) : Nat) : Int))))
  ((let v9 : Nat := (Int.toNat v8)
  (cond (((decide ((0 + v9) ≤ (List.length v6))) && true) && true)
  ((let v10 : List (List Int) := ([(List.take v9 (List.drop 0 v6))] : List (List Int))
  (cond (fits 24 ((List.length x.2.2) + (List.length v10)))
  ((next (x.1, (wrapF .i64 (x.2.1 + (1 : Int))), (x.2.2 ++ v10))))
  none)))
  none)))
  none)))
  none)))
  none)))
  none)))
  none)
  (some x.2.2))
noncomputable def granarylaw03_lent_l0 (N : Nat) : (List (List Int)) × Int × (List (List Int)) → Option (((List (List Int)))) := loopF (granarylaw03_lent_b0 N) N
noncomputable def granarylaw03_lent (N : Nat) (x : (List (List Int))) : Option ((List (List Int))) :=
  (Option.bind (granarylaw03_lent_l0 N (x, (0 : Int), ([] : List (List Int)))) fun r1 =>
  (some r1))
noncomputable def granaryref03_Same_v1_b0 (N : Nat) (next : (List (List Int)) × (List (List Int)) × Int → Option (Unit ⊕ Unit)) (x : (List (List Int)) × (List (List Int)) × Int) : Option (Unit ⊕ Unit) :=
  (cond (decide (x.2.2 < (((List.length x.1) : Nat) : Int)))
  (cond ((decide ((0 : Int) ≤ x.2.2)) && (decide (x.2.2 < (((List.length x.1) : Nat) : Int))))
  ((cond ((decide ((0 : Int) ≤ x.2.2)) && (decide (x.2.2 < (((List.length x.2.1) : Nat) : Int))))
  ((cond (!(decide ((List.map (fun (n : Int) => UInt8.ofNat n.toNat) (List.getD x.1 (Int.toNat x.2.2) (EK.dflt (.sl (.int .u8))))) = (List.map (fun (n : Int) => UInt8.ofNat n.toNat) (List.getD x.2.1 (Int.toNat x.2.2) (EK.dflt (.sl (.int .u8))))))))
  (some (.inl ()))
  (next (x.1, x.2.1, (wrapF .i64 (x.2.2 + (1 : Int)))))))
  none))
  none)
  (some (.inr (()))))
noncomputable def granaryref03_Same_v1_l0 (N : Nat) : (List (List Int)) × (List (List Int)) × Int → Option (Unit ⊕ Unit) := loopF (granaryref03_Same_v1_b0 N) N
noncomputable def granaryref03_Same_v1 (N : Nat) (x : (List (List Int)) × (List (List Int))) : Option (Bool) :=
  (cond (!(decide ((((List.length x.1) : Nat) : Int) = (((List.length x.2) : Nat) : Int))))
  (some false)
  (Option.bind (granaryref03_Same_v1_l0 N (x.1, x.2, (0 : Int))) fun r4 =>
  (match r4 with
  | .inl y5 =>
  (some false)
  | .inr z6 =>
  (some true))))
noncomputable def granarylaw03_spoil_b2 (N : Nat) (next : Int × Int × (List (List Int)) → Option (((List (List Int))))) (x : Int × Int × (List (List Int))) : Option (((List (List Int)))) :=
  (cond ((decide ((0 : Int) ≤ x.1)) && (decide (x.1 < (((List.length x.2.2) : Nat) : Int))))
  ((let v1 : Nat := (Int.toNat x.1)
  (cond (decide (v1 < (List.length x.2.2)))
  ((cond (decide (x.2.1 < (((List.length (List.getD x.2.2 v1 [])) : Nat) : Int)))
  (cond ((decide ((0 : Int) ≤ x.1)) && (decide (x.1 < (((List.length x.2.2) : Nat) : Int))))
  ((let v4 : Nat := (Int.toNat x.1)
  (cond (decide (v4 < (List.length x.2.2)))
  ((cond ((decide ((0 : Int) ≤ x.1)) && (decide (x.1 < (((List.length x.2.2) : Nat) : Int))))
  ((let v5 : Nat := (Int.toNat x.1)
  (cond (decide (v5 < (List.length x.2.2)))
  ((cond ((decide ((0 : Int) ≤ x.2.1)) && (decide (x.2.1 < (((List.length (List.getD x.2.2 v5 [])) : Nat) : Int))))
  ((let v6 : Nat := (Int.toNat x.2.1)
  (cond (decide (v6 < (List.length (List.getD x.2.2 v5 []))))
  ((cond ((decide ((0 : Int) ≤ x.2.1)) && (decide (x.2.1 < (((List.length (List.getD x.2.2 v4 [])) : Nat) : Int))))
  ((let v9 : Nat := (Int.toNat x.2.1)
  (cond (decide (v9 < (List.length (List.getD x.2.2 v4 []))))
  ((next (x.1, (wrapF .i64 (x.2.1 + (1 : Int))), (List.set x.2.2 v4 (List.set (List.getD x.2.2 v4 []) v9 (xorF .u8 (List.getD (List.getD x.2.2 v5 []) v6 0) (85 : Int)))))))
  none)))
  none))
  none)))
  none))
  none)))
  none))
  none)))
  none)
  (some x.2.2)))
  none)))
  none)
noncomputable def granarylaw03_spoil_l2 (N : Nat) : Int × Int × (List (List Int)) → Option (((List (List Int)))) := loopF (granarylaw03_spoil_b2 N) N
noncomputable def granarylaw03_spoil_b0 (N : Nat) (next : Int × (List (List Int)) → Option (((List (List Int))))) (x : Int × (List (List Int))) : Option (((List (List Int)))) :=
  (cond (decide (x.1 < (((List.length x.2) : Nat) : Int)))
  (Option.bind (granarylaw03_spoil_l2 N (x.1, (0 : Int), x.2)) fun r3 =>
  (next ((wrapF .i64 (x.1 + (1 : Int))), r3)))
  (some x.2))
noncomputable def granarylaw03_spoil_l0 (N : Nat) : Int × (List (List Int)) → Option (((List (List Int)))) := loopF (granarylaw03_spoil_b0 N) N
noncomputable def granarylaw03_spoil (N : Nat) (x : (List (List Int))) : Option ((List (List Int))) :=
  (Option.bind (granarylaw03_spoil_l0 N ((0 : Int), x)) fun r1 =>
  (some r1))
noncomputable def rs_Code_Rebuild_v2_b0 (N : Nat) (next : (List (List Int)) × (List Bool) × (List Bool) × Int × Int × (List (List Int)) × (List Int) → Option (((List (List Int)) × (List Int)))) (x : (List (List Int)) × (List Bool) × (List Bool) × Int × Int × (List (List Int)) × (List Int)) : Option (((List (List Int)) × (List Int))) :=
  (cond (decide (x.2.2.2.2.1 < x.2.2.2.1))
  (cond ((decide ((0 : Int) ≤ x.2.2.2.2.1)) && (decide (x.2.2.2.2.1 < (((List.length x.2.2.1) : Nat) : Int))))
  ((Option.bind
  (cond (List.getD x.2.2.1 (Int.toNat x.2.2.2.2.1) (EK.dflt .bool))
  (cond ((decide ((0 : Int) ≤ x.2.2.2.2.1)) && (decide (x.2.2.2.2.1 < (((List.length x.1) : Nat) : Int))))
  ((let v4 : List (List Int) := ([(List.getD x.1 (Int.toNat x.2.2.2.2.1) (EK.dflt (.sl (.int .u8))))] : List (List Int))
  (cond ((decide (1 ≤ (List.length v4))) && (fits 24 ((List.length x.2.2.2.2.2.1) + (List.length (List.take 1 (List.drop 0 v4))))))
  ((let v6 : List Int := ([x.2.2.2.2.1] : List Int)
  (cond ((decide (1 ≤ (List.length v6))) && (fits 8 ((List.length x.2.2.2.2.2.2) + (List.length (List.take 1 (List.drop 0 v6))))))
  ((some ((x.2.2.2.2.2.1 ++ (List.take 1 (List.drop 0 v4))), (x.2.2.2.2.2.2 ++ (List.take 1 (List.drop 0 v6))))))
  none)))
  none)))
  none)
  (some (x.2.2.2.2.2.1, x.2.2.2.2.2.2)))
  fun r8 =>
  (next (x.1, x.2.1, x.2.2.1, x.2.2.2.1, (wrapF .i64 (x.2.2.2.2.1 + (1 : Int))), r8.1, r8.2))))
  none)
  (some (x.2.2.2.2.2.1, x.2.2.2.2.2.2)))
noncomputable def rs_Code_Rebuild_v2_l0 (N : Nat) : (List (List Int)) × (List Bool) × (List Bool) × Int × Int × (List (List Int)) × (List Int) → Option (((List (List Int)) × (List Int))) := loopF (rs_Code_Rebuild_v2_b0 N) N
noncomputable def rs_Code_Rebuild_v2_b3 (N : Nat) (next : (List (List Int)) × Int × (List Bool) × Int × Int × Int × Int × (List Int) × (List (List Int)) × (List (List Int)) → Option ((Int × Int × (List Int) × (List (List Int)) × (List (List Int))))) (x : (List (List Int)) × Int × (List Bool) × Int × Int × Int × Int × (List Int) × (List (List Int)) × (List (List Int))) : Option ((Int × Int × (List Int) × (List (List Int)) × (List (List Int)))) :=
  (cond (decide (x.2.2.2.2.1 < x.2.2.2.1))
  (cond ((decide ((0 : Int) ≤ x.2.2.2.2.1)) && (decide (x.2.2.2.2.1 < (((List.length x.2.2.1) : Nat) : Int))))
  ((cond ((decide ((0 : Int) ≤ x.2.1)) && (fits 1 (Int.toNat x.2.1)))
  ((let v3 : List Int := (List.replicate (Int.toNat x.2.1) (EK.dflt (.int .u8)))
  (Option.bind
  (cond (List.getD x.2.2.1 (Int.toNat x.2.2.2.2.1) (EK.dflt .bool))
  (cond ((decide ((0 : Int) ≤ x.2.2.2.2.1)) && (decide (x.2.2.2.2.1 < (((List.length x.1) : Nat) : Int))))
  ((let v4 : (List Int) := (List.getD x.1 (Int.toNat x.2.2.2.2.1) (EK.dflt (.sl (.int .u8))))
  (cond (decide ((0 + (List.length v3)) ≤ (List.length v3)))
  ((some (x.2.2.2.2.2.1, x.2.2.2.2.2.2.1, x.2.2.2.2.2.2.2.1, (List.take 0 v3 ++ List.take (min (List.length v4) (List.length v3)) v4 ++ List.drop (0 + (min (List.length v4) (List.length v3))) v3))))
  none)))
  none)
  (Option.bind (rs_Code_Row (x.2.2.2.2.1, x.2.2.2.2.2.1, x.2.2.2.2.2.2.1, x.2.2.2.2.2.2.2.1)) fun r7 =>
  (Option.bind (rs_mixed_v1 N (r7.2.2.2, x.2.2.2.2.2.2.2.2.1, x.2.1)) fun r8 =>
  (cond (decide ((0 + (List.length v3)) ≤ (List.length v3)))
  ((some (r7.1, r7.2.1, r7.2.2.1, (List.take 0 v3 ++ List.take (min (List.length r8) (List.length v3)) r8 ++ List.drop (0 + (min (List.length r8) (List.length v3))) v3))))
  none))))
  fun r11 =>
  (let v12 : List (List Int) := ([r11.2.2.2] : List (List Int))
  (cond (fits 24 ((List.length x.2.2.2.2.2.2.2.2.2) + (List.length v12)))
  ((next (x.1, x.2.1, x.2.2.1, x.2.2.2.1, (wrapF .i64 (x.2.2.2.2.1 + (1 : Int))), r11.1, r11.2.1, r11.2.2.1, x.2.2.2.2.2.2.2.2.1, (x.2.2.2.2.2.2.2.2.2 ++ v12))))
  none)))))
  none))
  none)
  (some (x.2.2.2.2.2.1, x.2.2.2.2.2.2.1, x.2.2.2.2.2.2.2.1, x.2.2.2.2.2.2.2.2.1, x.2.2.2.2.2.2.2.2.2)))
noncomputable def rs_Code_Rebuild_v2_l3 (N : Nat) : (List (List Int)) × Int × (List Bool) × Int × Int × Int × Int × (List Int) × (List (List Int)) × (List (List Int)) → Option ((Int × Int × (List Int) × (List (List Int)) × (List (List Int)))) := loopF (rs_Code_Rebuild_v2_b3 N) N
noncomputable def rs_Code_Rebuild_v2 (N : Nat) (x : (List (List Int)) × (List Bool) × Int × Int × (List Int)) : Option (Int × Int × Int × (List Int) × (List (List Int))) :=
  (Option.bind
  (cond (!(decide ((((List.length x.1) : Nat) : Int) = (wrapF .i64 (x.2.2.1 + x.2.2.2.1)))))
  (some true)
  (some (!(decide ((((List.length x.2.1) : Nat) : Int) = (wrapF .i64 (x.2.2.1 + x.2.2.2.1)))))))
  fun r7 =>
  (cond r7
  (some ((2 : Int), x.2.2.1, x.2.2.2.1, x.2.2.2.2, ([] : List (List Int))))
  (Option.bind (rs_Code_Rebuild_v2_l0 N (x.1, x.2.1, x.2.1, (((List.length x.2.1) : Nat) : Int), (0 : Int), ([] : List (List Int)), ([] : List Int))) fun r9 =>
  (Option.bind (rs_even_v1 N r9.1) fun r10 =>
  (cond (!(decide (r10.2 = (0 : Int))))
  (some (r10.2, x.2.2.1, x.2.2.2.1, x.2.2.2.2, ([] : List (List Int))))
  (cond (decide ((((List.length r9.1) : Nat) : Int) < x.2.2.1))
  (some ((30 : Int), x.2.2.1, x.2.2.2.1, x.2.2.2.2, ([] : List (List Int))))
  (cond ((decide ((0 : Int) ≤ x.2.2.1)) && (decide (x.2.2.1 ≤ (((List.length r9.1) : Nat) : Int))))
  ((let v14 : Nat := (Int.toNat x.2.2.1)
  (cond ((decide ((0 : Int) ≤ x.2.2.1)) && (decide (x.2.2.1 ≤ (((List.length r9.2) : Nat) : Int))))
  ((let v15 : Nat := (Int.toNat x.2.2.1)
  (cond (((decide ((0 + v14) ≤ (List.length r9.1))) && ((decide ((0 + v15) ≤ (List.length r9.2))) && true)) && true)
  (Option.bind (rs_Code_solve N ((List.take v14 (List.drop 0 r9.1)), (List.take v15 (List.drop 0 r9.2)), r10.1, x.2.2.1, x.2.2.2.1, x.2.2.2.2)) fun r16 =>
  (cond (!(decide (r16.1 = (0 : Int))))
  (some (r16.1, r16.2.1, r16.2.2.1, r16.2.2.2.1, ([] : List (List Int))))
  (Option.bind (rs_Code_Rebuild_v2_l3 N (x.1, r10.1, x.2.1, (((List.length x.2.1) : Nat) : Int), (0 : Int), r16.2.1, r16.2.2.1, r16.2.2.2.1, r16.2.2.2.2, ([] : List (List Int)))) fun r20 =>
  (some ((0 : Int), r20.1, r20.2.1, r20.2.2.1, r20.2.2.2.2)))))
  none)))
  none)))
  none)))))))
noncomputable def granaryref02_Check (x : Int × Int × (List Int)) : Option (Int) :=
  (Option.bind
  (cond (decide (x.1 < (1 : Int)))
  (some true)
  (cond (decide ((64 : Int) < x.1))
  (some true)
  (cond (decide (x.2.1 < (1 : Int)))
  (some true)
  (some (decide ((64 : Int) < x.2.1))))))
  fun r5 =>
  (cond r5
  (some (2 : Int))
  (cond (!(decide ((((List.length x.2.2) : Nat) : Int) = (wrapF .i64 (x.1 * x.2.1)))))
  (some (23 : Int))
  (some (0 : Int)))))
noncomputable def granaryref02_At (x : Int × Int × (List Int) × Int × Int) : Option (Int) :=
  (let v2 : Int := (wrapF .i64 ((wrapF .i64 (x.2.2.2.1 * x.2.1)) + x.2.2.2.2))
  (cond ((decide ((0 : Int) ≤ v2)) && (decide (v2 < (((List.length x.2.2.1) : Nat) : Int))))
  ((some (List.getD x.2.2.1 (Int.toNat v2) (EK.dflt (.int .u8)))))
  none))
noncomputable def granaryref02_At_v1 (x : Int × Int × (List Int) × Int × Int) : Option (Int) :=
  (let v2 : Int := (wrapF .i64 ((wrapF .i64 (x.2.2.2.1 * x.2.1)) + x.2.2.2.2))
  (cond ((decide ((0 : Int) ≤ v2)) && (decide (v2 < (((List.length x.2.2.1) : Nat) : Int))))
  ((some (List.getD x.2.2.1 (Int.toNat v2) (EK.dflt (.int .u8)))))
  none))
noncomputable def granaryref02_cleared_b10 (N : Nat) (next : Int × Int × Int × Int × Int × Int × (List Int) × Int × Int → Option (((List Int) × Int × Int))) (x : Int × Int × Int × Int × Int × Int × (List Int) × Int × Int) : Option (((List Int) × Int × Int)) :=
  (Option.bind
  (cond (decide (x.2.2.2.2.2.1 < x.2.2.2.2.2.2.2.2))
  (cond (!(decide (x.2.2.2.1 = x.2.1)))
  (some (!(decide (x.2.2.2.2.1 = (0 : Int)))))
  (some false))
  (some false))
  fun r4 =>
  (cond r4
  (let v6 : Int := (wrapF .i64 ((wrapF .i64 (x.2.2.2.1 * x.2.2.2.2.2.2.2.2)) + x.2.2.2.2.2.1))
  (Option.bind (granaryref02_At_v1 (x.2.2.2.2.2.2.2.1, x.2.2.2.2.2.2.2.2, x.2.2.2.2.2.2.1, x.2.2.2.1, x.2.2.2.2.2.1)) fun r7 =>
  (Option.bind (granaryref02_At_v1 (x.2.2.2.2.2.2.2.1, x.2.2.2.2.2.2.2.2, x.2.2.2.2.2.2.1, x.2.1, x.2.2.2.2.2.1)) fun r8 =>
  (Option.bind (granaryref02_Mul N (x.2.2.2.2.1, r8)) fun r9 =>
  (cond ((decide ((0 : Int) ≤ v6)) && (decide (v6 < (((List.length x.2.2.2.2.2.2.1) : Nat) : Int))))
  ((let v11 : Nat := (Int.toNat v6)
  (cond (decide (v11 < (List.length x.2.2.2.2.2.2.1)))
  ((next (x.1, x.2.1, x.2.2.1, x.2.2.2.1, x.2.2.2.2.1, (wrapF .i64 (x.2.2.2.2.2.1 + (1 : Int))), (List.set x.2.2.2.2.2.2.1 v11 (xorF .u8 r7 r9)), x.2.2.2.2.2.2.2.1, x.2.2.2.2.2.2.2.2)))
  none)))
  none)))))
  (some (x.2.2.2.2.2.2.1, x.2.2.2.2.2.2.2.1, x.2.2.2.2.2.2.2.2))))
noncomputable def granaryref02_cleared_l10 (N : Nat) : Int × Int × Int × Int × Int × Int × (List Int) × Int × Int → Option (((List Int) × Int × Int)) := loopF (granaryref02_cleared_b10 N) N
noncomputable def granaryref02_cleared_b2 (N : Nat) (next : Int × Int × Int × Int × (List Int) × Int × Int → Option ((Int × (List Int) × Int × Int))) (x : Int × Int × Int × Int × (List Int) × Int × Int) : Option ((Int × (List Int) × Int × Int)) :=
  (Option.bind
  (cond (decide (x.2.2.2.1 < x.2.2.2.2.2.1))
  (Option.bind (granaryref02_At_v1 (x.2.2.2.2.2.1, x.2.2.2.2.2.2, x.2.2.2.2.1, x.2.2.2.1, x.2.2.1)) fun r2 =>
  (some (decide (r2 = (0 : Int)))))
  (some false))
  fun r4 =>
  (cond r4
  (next (x.1, x.2.1, x.2.2.1, (wrapF .i64 (x.2.2.2.1 + (1 : Int))), x.2.2.2.2.1, x.2.2.2.2.2.1, x.2.2.2.2.2.2))
  (some (x.2.2.2.1, x.2.2.2.2.1, x.2.2.2.2.2.1, x.2.2.2.2.2.2))))
noncomputable def granaryref02_cleared_l2 (N : Nat) : Int × Int × Int × Int × (List Int) × Int × Int → Option ((Int × (List Int) × Int × Int)) := loopF (granaryref02_cleared_b2 N) N
noncomputable def granaryref02_cleared_b4 (N : Nat) (next : Int × Int × Int × Int × Int × (List Int) × Int × Int → Option (((List Int) × Int × Int))) (x : Int × Int × Int × Int × Int × (List Int) × Int × Int) : Option (((List Int) × Int × Int)) :=
  (cond (decide (x.2.2.2.2.1 < x.2.2.2.2.2.2.2))
  (let v3 : Int := (wrapF .i64 ((wrapF .i64 (x.2.1 * x.2.2.2.2.2.2.2)) + x.2.2.2.2.1))
  (let v5 : Int := (wrapF .i64 ((wrapF .i64 (x.2.2.2.1 * x.2.2.2.2.2.2.2)) + x.2.2.2.2.1))
  (let v7 : Int := (wrapF .i64 ((wrapF .i64 (x.2.2.2.1 * x.2.2.2.2.2.2.2)) + x.2.2.2.2.1))
  (cond ((decide ((0 : Int) ≤ v7)) && (decide (v7 < (((List.length x.2.2.2.2.2.1) : Nat) : Int))))
  ((let v8 : Nat := (Int.toNat v7)
  (cond (decide (v8 < (List.length x.2.2.2.2.2.1)))
  ((let v11 : Int := (wrapF .i64 ((wrapF .i64 (x.2.1 * x.2.2.2.2.2.2.2)) + x.2.2.2.2.1))
  (cond ((decide ((0 : Int) ≤ v11)) && (decide (v11 < (((List.length x.2.2.2.2.2.1) : Nat) : Int))))
  ((let v12 : Nat := (Int.toNat v11)
  (cond (decide (v12 < (List.length x.2.2.2.2.2.1)))
  ((cond ((decide ((0 : Int) ≤ v3)) && (decide (v3 < (((List.length x.2.2.2.2.2.1) : Nat) : Int))))
  ((let v14 : Nat := (Int.toNat v3)
  (cond (decide (v14 < (List.length x.2.2.2.2.2.1)))
  ((let v15 : List Int := (List.set x.2.2.2.2.2.1 v14 (List.getD x.2.2.2.2.2.1 v8 (EK.dflt (.int .u8))))
  (cond ((decide ((0 : Int) ≤ v5)) && (decide (v5 < (((List.length v15) : Nat) : Int))))
  ((let v16 : Nat := (Int.toNat v5)
  (cond (decide (v16 < (List.length v15)))
  ((next (x.1, x.2.1, x.2.2.1, x.2.2.2.1, (wrapF .i64 (x.2.2.2.2.1 + (1 : Int))), (List.set v15 v16 (List.getD x.2.2.2.2.2.1 v12 (EK.dflt (.int .u8)))), x.2.2.2.2.2.2.1, x.2.2.2.2.2.2.2)))
  none)))
  none)))
  none)))
  none))
  none)))
  none)))
  none)))
  none))))
  (some (x.2.2.2.2.2.1, x.2.2.2.2.2.2.1, x.2.2.2.2.2.2.2)))
noncomputable def granaryref02_cleared_l4 (N : Nat) : Int × Int × Int × Int × Int × (List Int) × Int × Int → Option (((List Int) × Int × Int)) := loopF (granaryref02_cleared_b4 N) N
noncomputable def granaryref02_cleared_b6 (N : Nat) (next : Int × Int × Int × Int × Int × (List Int) × Int × Int → Option (((List Int) × Int × Int))) (x : Int × Int × Int × Int × Int × (List Int) × Int × Int) : Option (((List Int) × Int × Int)) :=
  (cond (decide (x.2.2.2.2.1 < x.2.2.2.2.2.2.2))
  (let v3 : Int := (wrapF .i64 ((wrapF .i64 (x.2.1 * x.2.2.2.2.2.2.2)) + x.2.2.2.2.1))
  (Option.bind (granaryref02_At_v1 (x.2.2.2.2.2.2.1, x.2.2.2.2.2.2.2, x.2.2.2.2.2.1, x.2.1, x.2.2.2.2.1)) fun r4 =>
  (Option.bind (granaryref02_Mul N (x.2.2.2.1, r4)) fun r5 =>
  (cond ((decide ((0 : Int) ≤ v3)) && (decide (v3 < (((List.length x.2.2.2.2.2.1) : Nat) : Int))))
  ((let v6 : Nat := (Int.toNat v3)
  (cond (decide (v6 < (List.length x.2.2.2.2.2.1)))
  ((next (x.1, x.2.1, x.2.2.1, x.2.2.2.1, (wrapF .i64 (x.2.2.2.2.1 + (1 : Int))), (List.set x.2.2.2.2.2.1 v6 r5), x.2.2.2.2.2.2.1, x.2.2.2.2.2.2.2)))
  none)))
  none))))
  (some (x.2.2.2.2.2.1, x.2.2.2.2.2.2.1, x.2.2.2.2.2.2.2)))
noncomputable def granaryref02_cleared_l6 (N : Nat) : Int × Int × Int × Int × Int × (List Int) × Int × Int → Option (((List Int) × Int × Int)) := loopF (granaryref02_cleared_b6 N) N
noncomputable def granaryref02_cleared_b8 (N : Nat) (next : Int × Int × Int × Int × (List Int) × Int × Int → Option (((List Int) × Int × Int))) (x : Int × Int × Int × Int × (List Int) × Int × Int) : Option (((List Int) × Int × Int)) :=
  (cond (decide (x.2.2.2.1 < x.2.2.2.2.2.1))
  (Option.bind (granaryref02_At_v1 (x.2.2.2.2.2.1, x.2.2.2.2.2.2, x.2.2.2.2.1, x.2.2.2.1, x.2.2.1)) fun r2 =>
  (Option.bind (granaryref02_cleared_l10 N (x.1, x.2.1, x.2.2.1, x.2.2.2.1, r2, (0 : Int), x.2.2.2.2.1, x.2.2.2.2.2.1, x.2.2.2.2.2.2)) fun r3 =>
  (next (x.1, x.2.1, x.2.2.1, (wrapF .i64 (x.2.2.2.1 + (1 : Int))), r3.1, r3.2.1, r3.2.2))))
  (some (x.2.2.2.2.1, x.2.2.2.2.2.1, x.2.2.2.2.2.2)))
noncomputable def granaryref02_cleared_l8 (N : Nat) : Int × Int × Int × Int × (List Int) × Int × Int → Option (((List Int) × Int × Int)) := loopF (granaryref02_cleared_b8 N) N
noncomputable def granaryref02_cleared_b0 (N : Nat) (next : Int × Int × Int × (List Int) × Int × Int → Option ((Int × (List Int) × Int × Int))) (x : Int × Int × Int × (List Int) × Int × Int) : Option ((Int × (List Int) × Int × Int)) :=
  (Option.bind
  (cond (decide (x.2.2.1 < x.1))
  (some (decide (x.2.1 < x.2.2.2.2.1)))
  (some false))
  fun r3 =>
  (cond r3
  (Option.bind
  (Option.bind (granaryref02_cleared_l2 N (x.1, x.2.1, x.2.2.1, x.2.1, x.2.2.2.1, x.2.2.2.2.1, x.2.2.2.2.2)) fun r4 =>
  (cond (decide (r4.1 = r4.2.2.1))
  (some (x.2.1, r4.2.1, r4.2.2.1, r4.2.2.2))
  (Option.bind (granaryref02_cleared_l4 N (x.1, x.2.1, x.2.2.1, r4.1, (0 : Int), r4.2.1, r4.2.2.1, r4.2.2.2)) fun r6 =>
  (Option.bind (granaryref02_At_v1 (r6.2.1, r6.2.2, r6.1, x.2.1, x.2.2.1)) fun r7 =>
  (Option.bind (granaryref02_Inv N r7) fun r8 =>
  (Option.bind (granaryref02_cleared_l6 N (x.1, x.2.1, x.2.2.1, r8.1, (0 : Int), r6.1, r6.2.1, r6.2.2)) fun r9 =>
  (Option.bind (granaryref02_cleared_l8 N (x.1, x.2.1, x.2.2.1, (0 : Int), r9.1, r9.2.1, r9.2.2)) fun r10 =>
  (some ((wrapF .i64 (x.2.1 + (1 : Int))), r10.1, r10.2.1, r10.2.2)))))))))
  fun r12 =>
  (next (x.1, r12.1, (wrapF .i64 (x.2.2.1 + (1 : Int))), r12.2.1, r12.2.2.1, r12.2.2.2)))
  (some (x.2.1, x.2.2.2.1, x.2.2.2.2.1, x.2.2.2.2.2))))
noncomputable def granaryref02_cleared_l0 (N : Nat) : Int × Int × Int × (List Int) × Int × Int → Option ((Int × (List Int) × Int × Int)) := loopF (granaryref02_cleared_b0 N) N
noncomputable def granaryref02_cleared (N : Nat) (x : Int × Int × (List Int) × Int) : Option (Int × Int × Int × (List Int)) :=
  (cond (fits 1 (List.length x.2.2.1))
  ((Option.bind (granaryref02_cleared_l0 N (x.2.2.2, (0 : Int), (0 : Int), x.2.2.1, x.1, x.2.1)) fun r2 =>
  (some (r2.2.2.1, r2.2.2.2, r2.1, r2.2.1))))
  none)
noncomputable def granaryref02_New (x : Int × Int) : Option (Int × Int × (List Int)) :=
  (let v1 : Int := (wrapF .i64 (x.1 * x.2))
  (cond ((decide ((0 : Int) ≤ v1)) && (fits 1 (Int.toNat v1)))
  ((some (x.1, x.2, (List.replicate (Int.toNat v1) (EK.dflt (.int .u8))))))
  none))
noncomputable def granaryref02_Inverse_b2 (N : Nat) (next : Int × Int × Int × Int × Int × (List Int) × (List Int) × Int × Int → Option ((Int × Int × (List Int) × (List Int) × Int × Int))) (x : Int × Int × Int × Int × Int × (List Int) × (List Int) × Int × Int) : Option ((Int × Int × (List Int) × (List Int) × Int × Int)) :=
  (cond (decide (x.2.2.1 < x.1))
  (let v4 : Int := (wrapF .i64 ((wrapF .i64 ((wrapF .i64 ((2 : Int) * x.1)) * x.2.1)) + x.2.2.1))
  (Option.bind (granaryref02_At (x.2.2.2.1, x.2.2.2.2.1, x.2.2.2.2.2.1, x.2.1, x.2.2.1)) fun r5 =>
  (cond ((decide ((0 : Int) ≤ v4)) && (decide (v4 < (((List.length x.2.2.2.2.2.2.1) : Nat) : Int))))
  ((let v6 : Nat := (Int.toNat v4)
  (cond (decide (v6 < (List.length x.2.2.2.2.2.2.1)))
  ((next (x.1, x.2.1, (wrapF .i64 (x.2.2.1 + (1 : Int))), x.2.2.2.1, x.2.2.2.2.1, x.2.2.2.2.2.1, (List.set x.2.2.2.2.2.2.1 v6 r5), x.2.2.2.2.2.2.2.1, x.2.2.2.2.2.2.2.2)))
  none)))
  none)))
  (some (x.2.2.2.1, x.2.2.2.2.1, x.2.2.2.2.2.1, x.2.2.2.2.2.2.1, x.2.2.2.2.2.2.2.1, x.2.2.2.2.2.2.2.2)))
noncomputable def granaryref02_Inverse_l2 (N : Nat) : Int × Int × Int × Int × Int × (List Int) × (List Int) × Int × Int → Option ((Int × Int × (List Int) × (List Int) × Int × Int)) := loopF (granaryref02_Inverse_b2 N) N
noncomputable def granaryref02_Inverse_b6 (N : Nat) (next : Int × Int × Int × Int × Int × (List Int) × (List Int) × Int × Int → Option ((Int × Int × (List Int) × (List Int) × Int × Int))) (x : Int × Int × Int × Int × Int × (List Int) × (List Int) × Int × Int) : Option ((Int × Int × (List Int) × (List Int) × Int × Int)) :=
  (cond (decide (x.2.2.1 < x.1))
  (let v3 : Int := (wrapF .i64 ((wrapF .i64 (x.1 * x.2.1)) + x.2.2.1))
  (Option.bind (granaryref02_At_v1 (x.2.2.2.1, x.2.2.2.2.1, x.2.2.2.2.2.1, x.2.1, (wrapF .i64 (x.1 + x.2.2.1)))) fun r5 =>
  (cond ((decide ((0 : Int) ≤ v3)) && (decide (v3 < (((List.length x.2.2.2.2.2.2.1) : Nat) : Int))))
  ((let v6 : Nat := (Int.toNat v3)
  (cond (decide (v6 < (List.length x.2.2.2.2.2.2.1)))
  ((next (x.1, x.2.1, (wrapF .i64 (x.2.2.1 + (1 : Int))), x.2.2.2.1, x.2.2.2.2.1, x.2.2.2.2.2.1, (List.set x.2.2.2.2.2.2.1 v6 r5), x.2.2.2.2.2.2.2.1, x.2.2.2.2.2.2.2.2)))
  none)))
  none)))
  (some (x.2.2.2.1, x.2.2.2.2.1, x.2.2.2.2.2.1, x.2.2.2.2.2.2.1, x.2.2.2.2.2.2.2.1, x.2.2.2.2.2.2.2.2)))
noncomputable def granaryref02_Inverse_l6 (N : Nat) : Int × Int × Int × Int × Int × (List Int) × (List Int) × Int × Int → Option ((Int × Int × (List Int) × (List Int) × Int × Int)) := loopF (granaryref02_Inverse_b6 N) N
noncomputable def granaryref02_Inverse_b0 (N : Nat) (next : Int × Int × Int × Int × (List Int) × (List Int) × Int × Int → Option ((Int × Int × (List Int) × (List Int) × Int × Int))) (x : Int × Int × Int × Int × (List Int) × (List Int) × Int × Int) : Option ((Int × Int × (List Int) × (List Int) × Int × Int)) :=
  (cond (decide (x.2.1 < x.1))
  (Option.bind (granaryref02_Inverse_l2 N (x.1, x.2.1, (0 : Int), x.2.2.1, x.2.2.2.1, x.2.2.2.2.1, x.2.2.2.2.2.1, x.2.2.2.2.2.2.1, x.2.2.2.2.2.2.2)) fun r2 =>
  (let v6 : Int := (wrapF .i64 ((wrapF .i64 ((wrapF .i64 ((wrapF .i64 ((2 : Int) * x.1)) * x.2.1)) + x.1)) + x.2.1))
  (cond ((decide ((0 : Int) ≤ v6)) && (decide (v6 < (((List.length r2.2.2.2.1) : Nat) : Int))))
  ((let v7 : Nat := (Int.toNat v6)
  (cond (decide (v7 < (List.length r2.2.2.2.1)))
  ((next (x.1, (wrapF .i64 (x.2.1 + (1 : Int))), r2.1, r2.2.1, r2.2.2.1, (List.set r2.2.2.2.1 v7 (1 : Int)), r2.2.2.2.2.1, r2.2.2.2.2.2)))
  none)))
  none)))
  (some (x.2.2.1, x.2.2.2.1, x.2.2.2.2.1, x.2.2.2.2.2.1, x.2.2.2.2.2.2.1, x.2.2.2.2.2.2.2)))
noncomputable def granaryref02_Inverse_l0 (N : Nat) : Int × Int × Int × Int × (List Int) × (List Int) × Int × Int → Option ((Int × Int × (List Int) × (List Int) × Int × Int)) := loopF (granaryref02_Inverse_b0 N) N
noncomputable def granaryref02_Inverse_b4 (N : Nat) (next : Int × Int × Int × Int × (List Int) × (List Int) × Int × Int → Option ((Int × Int × (List Int) × (List Int) × Int × Int))) (x : Int × Int × Int × Int × (List Int) × (List Int) × Int × Int) : Option ((Int × Int × (List Int) × (List Int) × Int × Int)) :=
  (cond (decide (x.2.1 < x.1))
  (Option.bind (granaryref02_Inverse_l6 N (x.1, x.2.1, (0 : Int), x.2.2.1, x.2.2.2.1, x.2.2.2.2.1, x.2.2.2.2.2.1, x.2.2.2.2.2.2.1, x.2.2.2.2.2.2.2)) fun r2 =>
  (next (x.1, (wrapF .i64 (x.2.1 + (1 : Int))), r2.1, r2.2.1, r2.2.2.1, r2.2.2.2.1, r2.2.2.2.2.1, r2.2.2.2.2.2)))
  (some (x.2.2.1, x.2.2.2.1, x.2.2.2.2.1, x.2.2.2.2.2.1, x.2.2.2.2.2.2.1, x.2.2.2.2.2.2.2)))
noncomputable def granaryref02_Inverse_l4 (N : Nat) : Int × Int × Int × Int × (List Int) × (List Int) × Int × Int → Option ((Int × Int × (List Int) × (List Int) × Int × Int)) := loopF (granaryref02_Inverse_b4 N) N
noncomputable def granaryref02_Inverse (N : Nat) (x : Int × Int × (List Int)) : Option (Int × Int × Int × (List Int)) :=
  (Option.bind (granaryref02_Check (x.1, x.2.1, x.2.2)) fun r1 =>
  (cond (!(decide (r1 = (0 : Int))))
  (some ((0 : Int), (0 : Int), r1, ([] : List Int)))
  (cond (!(decide (x.1 = x.2.1)))
  (some ((0 : Int), (0 : Int), (23 : Int), ([] : List Int)))
  (let v6 : Int := (wrapF .i64 ((wrapF .i64 ((2 : Int) * x.1)) * x.1))
  (cond ((decide ((0 : Int) ≤ v6)) && (fits 1 (Int.toNat v6)))
  ((Option.bind (granaryref02_Inverse_l0 N (x.1, (0 : Int), x.1, x.2.1, x.2.2, (List.replicate (Int.toNat v6) (EK.dflt (.int .u8))), x.1, (wrapF .i64 ((2 : Int) * x.1)))) fun r8 =>
  (Option.bind (granaryref02_cleared N (r8.2.2.2.2.1, r8.2.2.2.2.2, r8.2.2.2.1, x.1)) fun r9 =>
  (cond (decide (r9.2.2.1 < x.1))
  (some ((0 : Int), (0 : Int), (22 : Int), ([] : List Int)))
  (Option.bind (granaryref02_New (x.1, x.1)) fun r11 =>
  (Option.bind (granaryref02_Inverse_l4 N (x.1, (0 : Int), r9.1, r9.2.1, r9.2.2.2, r11.2.2, r11.1, r11.2.1)) fun r12 =>
  (some (r12.2.2.2.2.1, r12.2.2.2.2.2, (0 : Int), r12.2.2.2.1))))))))
  none)))))
noncomputable def granaryref03_Mix_v1_b2 (N : Nat) (next : (List Int) × (List (List Int)) × Int × Int × Int × (List Int) → Option (((List Int)))) (x : (List Int) × (List (List Int)) × Int × Int × Int × (List Int)) : Option (((List Int))) :=
  (cond (decide (x.2.2.2.2.1 < x.2.2.1))
  (cond ((decide ((0 : Int) ≤ x.2.2.2.2.1)) && (decide (x.2.2.2.2.1 < (((List.length x.2.2.2.2.2) : Nat) : Int))))
  ((let v2 : Nat := (Int.toNat x.2.2.2.2.1)
  (cond (decide (v2 < (List.length x.2.2.2.2.2)))
  ((cond ((decide ((0 : Int) ≤ x.2.2.2.1)) && (decide (x.2.2.2.1 < (((List.length x.1) : Nat) : Int))))
  ((cond ((decide ((0 : Int) ≤ x.2.2.2.1)) && (decide (x.2.2.2.1 < (((List.length x.2.1) : Nat) : Int))))
  ((let v5 : (List Int) := (List.getD x.2.1 (Int.toNat x.2.2.2.1) (EK.dflt (.sl (.int .u8))))
  (cond ((decide ((0 : Int) ≤ x.2.2.2.2.1)) && (decide (x.2.2.2.2.1 < (((List.length v5) : Nat) : Int))))
  ((Option.bind (granaryref02_Mul N ((List.getD x.1 (Int.toNat x.2.2.2.1) (EK.dflt (.int .u8))), (List.getD v5 (Int.toNat x.2.2.2.2.1) (EK.dflt (.int .u8))))) fun r7 =>
  (cond ((decide ((0 : Int) ≤ x.2.2.2.2.1)) && (decide (x.2.2.2.2.1 < (((List.length x.2.2.2.2.2) : Nat) : Int))))
  ((let v9 : Nat := (Int.toNat x.2.2.2.2.1)
  (cond (decide (v9 < (List.length x.2.2.2.2.2)))
  ((next (x.1, x.2.1, x.2.2.1, x.2.2.2.1, (wrapF .i64 (x.2.2.2.2.1 + (1 : Int))), (List.set x.2.2.2.2.2 v9 (xorF .u8 (List.getD x.2.2.2.2.2 v2 (EK.dflt (.int .u8))) r7)))))
  none)))
  none)))
  none)))
  none))
  none))
  none)))
  none)
  (some x.2.2.2.2.2))
noncomputable def granaryref03_Mix_v1_l2 (N : Nat) : (List Int) × (List (List Int)) × Int × Int × Int × (List Int) → Option (((List Int))) := loopF (granaryref03_Mix_v1_b2 N) N
noncomputable def granaryref03_Mix_v1_b0 (N : Nat) (next : (List Int) × (List (List Int)) × Int × Int × (List Int) → Option (((List Int)))) (x : (List Int) × (List (List Int)) × Int × Int × (List Int)) : Option (((List Int))) :=
  (cond (decide (x.2.2.2.1 < (((List.length x.1) : Nat) : Int)))
  (Option.bind (granaryref03_Mix_v1_l2 N (x.1, x.2.1, x.2.2.1, x.2.2.2.1, (0 : Int), x.2.2.2.2)) fun r3 =>
  (next (x.1, x.2.1, x.2.2.1, (wrapF .i64 (x.2.2.2.1 + (1 : Int))), r3)))
  (some x.2.2.2.2))
noncomputable def granaryref03_Mix_v1_l0 (N : Nat) : (List Int) × (List (List Int)) × Int × Int × (List Int) → Option (((List Int))) := loopF (granaryref03_Mix_v1_b0 N) N
noncomputable def granaryref03_Mix_v1 (N : Nat) (x : (List Int) × (List (List Int)) × Int) : Option ((List Int)) :=
  (cond ((decide ((0 : Int) ≤ x.2.2)) && (fits 1 (Int.toNat x.2.2)))
  ((Option.bind (granaryref03_Mix_v1_l0 N (x.1, x.2.1, x.2.2, (0 : Int), (List.replicate (Int.toNat x.2.2) (EK.dflt (.int .u8))))) fun r2 =>
  (some r2)))
  none)
noncomputable def granaryref03_Code_Rebuild_b0 (N : Nat) (next : (List (List Int)) × (List Bool) × Int × Int × Int × Int × Int × Int × (List Int) × (List (List Int)) → Option ((Int × Int) ⊕ (Int × Int × Int × Int × (List Int) × (List (List Int))))) (x : (List (List Int)) × (List Bool) × Int × Int × Int × Int × Int × Int × (List Int) × (List (List Int))) : Option ((Int × Int) ⊕ (Int × Int × Int × Int × (List Int) × (List (List Int)))) :=
  (cond (decide (x.2.2.2.2.2.1 < x.2.2.1))
  (Option.bind
  ((cond ((decide ((0 : Int) ≤ x.2.2.2.2.2.1)) && (decide (x.2.2.2.2.2.1 < (((List.length x.2.1) : Nat) : Int))))
  ((cond (!(List.getD x.2.1 (Int.toNat x.2.2.2.2.2.1) (EK.dflt .bool)))
  (some (.inl (x.2.2.2.1, x.2.2.2.2.1, x.2.2.2.2.2.2.1, x.2.2.2.2.2.2.2.1, x.2.2.2.2.2.2.2.2.1, x.2.2.2.2.2.2.2.2.2)))
  (Option.bind
  (cond (decide ((0 : Int) ≤ x.2.2.2.1))
  (cond ((decide ((0 : Int) ≤ x.2.2.2.2.2.1)) && (decide (x.2.2.2.2.2.1 < (((List.length x.1) : Nat) : Int))))
  ((some (!(decide ((((List.length (List.getD x.1 (Int.toNat x.2.2.2.2.2.1) (EK.dflt (.sl (.int .u8))))) : Nat) : Int) = x.2.2.2.1)))))
  none)
  (some false))
  fun r8 =>
  (cond r8
  (some (.inr ((x.2.2.2.2.2.2.1, x.2.2.2.2.2.2.2.1))))
  (cond ((decide ((0 : Int) ≤ x.2.2.2.2.2.1)) && (decide (x.2.2.2.2.2.1 < (((List.length x.1) : Nat) : Int))))
  ((Option.bind
  (cond (decide ((((List.length x.2.2.2.2.2.2.2.2.2) : Nat) : Int) < x.2.2.2.2.2.2.1))
  (cond ((decide ((0 : Int) ≤ x.2.2.2.2.2.1)) && (decide (x.2.2.2.2.2.1 < (((List.length x.1) : Nat) : Int))))
  ((let v15 : List (List Int) := ([(List.getD x.1 (Int.toNat x.2.2.2.2.2.1) (EK.dflt (.sl (.int .u8))))] : List (List Int))
  (cond ((decide (1 ≤ (List.length v15))) && (fits 24 ((List.length x.2.2.2.2.2.2.2.2.2) + (List.length (List.take 1 (List.drop 0 v15))))))
  ((Option.bind (granaryref03_Code_Row N (x.2.2.2.2.2.1, x.2.2.2.2.2.2.1, x.2.2.2.2.2.2.2.1)) fun r17 =>
  (cond (fits 1 ((List.length x.2.2.2.2.2.2.2.2.1) + (List.length r17.2.2)))
  ((some (r17.1, r17.2.1, (x.2.2.2.2.2.2.2.2.1 ++ r17.2.2), (x.2.2.2.2.2.2.2.2.2 ++ (List.take 1 (List.drop 0 v15))))))
  none)))
  none)))
  none)
  (some (x.2.2.2.2.2.2.1, x.2.2.2.2.2.2.2.1, x.2.2.2.2.2.2.2.2.1, x.2.2.2.2.2.2.2.2.2)))
  fun r19 =>
  (some (.inl ((((List.length (List.getD x.1 (Int.toNat x.2.2.2.2.2.1) (EK.dflt (.sl (.int .u8))))) : Nat) : Int), (wrapF .i64 (x.2.2.2.2.1 + (1 : Int))), r19.1, r19.2.1, r19.2.2.1, r19.2.2.2)))))
  none)))))
  none) : Option ((Int × Int × Int × Int × (List Int) × (List (List Int))) ⊕ (Int × Int)))
  fun r20 =>
  (match r20 with
  | .inl y21 =>
  (next (x.1, x.2.1, x.2.2.1, y21.1, y21.2.1, (wrapF .i64 (x.2.2.2.2.2.1 + (1 : Int))), y21.2.2.1, y21.2.2.2.1, y21.2.2.2.2.1, y21.2.2.2.2.2))
  | .inr z22 =>
  (some (.inl (z22.1, z22.2)))))
  (some (.inr ((x.2.2.2.1, x.2.2.2.2.1, x.2.2.2.2.2.2.1, x.2.2.2.2.2.2.2.1, x.2.2.2.2.2.2.2.2.1, x.2.2.2.2.2.2.2.2.2)))))
noncomputable def granaryref03_Code_Rebuild_l0 (N : Nat) : (List (List Int)) × (List Bool) × Int × Int × Int × Int × Int × Int × (List Int) × (List (List Int)) → Option ((Int × Int) ⊕ (Int × Int × Int × Int × (List Int) × (List (List Int)))) := loopF (granaryref03_Code_Rebuild_b0 N) N
noncomputable def granaryref03_Code_Rebuild_b2 (N : Nat) (next : (List (List Int)) × (List Bool) × Int × Int × Int × Int × (List (List Int)) × (List Int) × Int × Int × (List (List Int)) → Option ((Int × (List (List Int)) × (List Int) × Int × Int × (List (List Int))))) (x : (List (List Int)) × (List Bool) × Int × Int × Int × Int × (List (List Int)) × (List Int) × Int × Int × (List (List Int))) : Option ((Int × (List (List Int)) × (List Int) × Int × Int × (List (List Int)))) :=
  (cond (decide (x.2.2.2.2.1 < x.2.2.2.2.2.1))
  (let v2 : Int := (wrapF .i64 (x.2.2.2.2.1 * x.2.2.2.2.2.1))
  (let v4 : Int := (wrapF .i64 ((wrapF .i64 (x.2.2.2.2.1 + (1 : Int))) * x.2.2.2.2.2.1))
  (cond (((decide ((0 : Int) ≤ v2)) && (decide (v2 ≤ v4))) && (decide (v4 ≤ (((List.length x.2.2.2.2.2.2.2.1) : Nat) : Int))))
  ((let v5 : Nat := (Int.toNat v2)
  (let v6 : Nat := ((Int.toNat v4) - (Int.toNat v2))
  (cond (cond (decide ((v5 + v6) ≤ (List.length x.2.2.2.2.2.2.2.1))) true false)
  (Option.bind (granaryref03_Mix_v1 N ((List.take v6 (List.drop v5 x.2.2.2.2.2.2.2.1)), x.2.2.2.2.2.2.1, x.2.2.2.1)) fun r7 =>
  (let v8 : List (List Int) := ([r7] : List (List Int))
  (cond (fits 24 ((List.length x.2.2.2.2.2.2.2.2.2.2) + (List.length v8)))
  ((next (x.1, x.2.1, x.2.2.1, x.2.2.2.1, (wrapF .i64 (x.2.2.2.2.1 + (1 : Int))), x.2.2.2.2.2.1, x.2.2.2.2.2.2.1, x.2.2.2.2.2.2.2.1, x.2.2.2.2.2.2.2.2.1, x.2.2.2.2.2.2.2.2.2.1, (x.2.2.2.2.2.2.2.2.2.2 ++ v8))))
  none)))
  none))))
  none)))
  (some (x.2.2.2.2.2.1, x.2.2.2.2.2.2.1, x.2.2.2.2.2.2.2.1, x.2.2.2.2.2.2.2.2.1, x.2.2.2.2.2.2.2.2.2.1, x.2.2.2.2.2.2.2.2.2.2)))
noncomputable def granaryref03_Code_Rebuild_l2 (N : Nat) : (List (List Int)) × (List Bool) × Int × Int × Int × Int × (List (List Int)) × (List Int) × Int × Int × (List (List Int)) → Option ((Int × (List (List Int)) × (List Int) × Int × Int × (List (List Int)))) := loopF (granaryref03_Code_Rebuild_b2 N) N
noncomputable def granaryref03_Code_Rebuild_b4 (N : Nat) (next : (List (List Int)) × (List Bool) × Int × Int × Int × Int × Int × (List (List Int)) × (List (List Int)) → Option ((Int × Int × (List (List Int)) × (List (List Int))))) (x : (List (List Int)) × (List Bool) × Int × Int × Int × Int × Int × (List (List Int)) × (List (List Int))) : Option ((Int × Int × (List (List Int)) × (List (List Int)))) :=
  (cond (decide (x.2.2.2.2.1 < x.2.2.1))
  (cond ((decide ((0 : Int) ≤ x.2.2.2.2.1)) && (decide (x.2.2.2.2.1 < (((List.length x.2.1) : Nat) : Int))))
  ((Option.bind
  (cond (List.getD x.2.1 (Int.toNat x.2.2.2.2.1) (EK.dflt .bool))
  (cond ((decide ((0 : Int) ≤ x.2.2.2.2.1)) && (decide (x.2.2.2.2.1 < (((List.length x.1) : Nat) : Int))))
  ((let v4 : (List Int) := (List.getD x.1 (Int.toNat x.2.2.2.2.1) (EK.dflt (.sl (.int .u8))))
  (cond (fits 1 (List.length v4))
  ((let v5 : List (List Int) := ([v4] : List (List Int))
  (cond (fits 24 ((List.length x.2.2.2.2.2.2.2.2) + (List.length v5)))
  ((some (x.2.2.2.2.2.1, x.2.2.2.2.2.2.1, (x.2.2.2.2.2.2.2.2 ++ v5))))
  none)))
  none)))
  none)
  (Option.bind (granaryref03_Code_Row N (x.2.2.2.2.1, x.2.2.2.2.2.1, x.2.2.2.2.2.2.1)) fun r7 =>
  (Option.bind (granaryref03_Mix_v1 N (r7.2.2, x.2.2.2.2.2.2.2.1, x.2.2.2.1)) fun r8 =>
  (let v9 : List (List Int) := ([r8] : List (List Int))
  (cond (fits 24 ((List.length x.2.2.2.2.2.2.2.2) + (List.length v9)))
  ((some (r7.1, r7.2.1, (x.2.2.2.2.2.2.2.2 ++ v9))))
  none)))))
  fun r11 =>
  (next (x.1, x.2.1, x.2.2.1, x.2.2.2.1, (wrapF .i64 (x.2.2.2.2.1 + (1 : Int))), r11.1, r11.2.1, x.2.2.2.2.2.2.2.1, r11.2.2))))
  none)
  (some (x.2.2.2.2.2.1, x.2.2.2.2.2.2.1, x.2.2.2.2.2.2.2.1, x.2.2.2.2.2.2.2.2)))
noncomputable def granaryref03_Code_Rebuild_l4 (N : Nat) : (List (List Int)) × (List Bool) × Int × Int × Int × Int × Int × (List (List Int)) × (List (List Int)) → Option ((Int × Int × (List (List Int)) × (List (List Int)))) := loopF (granaryref03_Code_Rebuild_b4 N) N
noncomputable def granaryref03_Code_Rebuild (N : Nat) (x : (List (List Int)) × (List Bool) × Int × Int) : Option (Int × Int × Int × (List (List Int))) :=
  (let v1 : Int := (wrapF .i64 (x.2.2.1 + x.2.2.2))
  (Option.bind
  (cond (!(decide ((((List.length x.1) : Nat) : Int) = v1)))
  (some true)
  (some (!(decide ((((List.length x.2.1) : Nat) : Int) = v1)))))
  fun r6 =>
  (cond r6
  (some ((2 : Int), x.2.2.1, x.2.2.2, ([] : List (List Int))))
  (Option.bind (granaryref03_Code_Rebuild_l0 N (x.1, x.2.1, v1, (-1 : Int), (0 : Int), (0 : Int), x.2.2.1, x.2.2.2, ([] : List Int), ([] : List (List Int)))) fun r7 =>
  (match r7 with
  | .inl y8 =>
  (some ((2 : Int), y8.1, y8.2, ([] : List (List Int))))
  | .inr z9 =>
  (cond (decide ((4096 : Int) < z9.1))
  (some ((1 : Int), z9.2.2.1, z9.2.2.2.1, ([] : List (List Int))))
  (cond (decide (z9.2.1 < z9.2.2.1))
  (some ((30 : Int), z9.2.2.1, z9.2.2.2.1, ([] : List (List Int))))
  (Option.bind (granaryref02_Inverse N (z9.2.2.1, z9.2.2.1, z9.2.2.2.2.1)) fun r12 =>
  (Option.bind (granaryref03_Code_Rebuild_l2 N (x.1, x.2.1, v1, z9.1, (0 : Int), z9.2.2.1, z9.2.2.2.2.2, r12.2.2.2, r12.1, r12.2.1, ([] : List (List Int)))) fun r13 =>
  (Option.bind (granaryref03_Code_Rebuild_l4 N (x.1, x.2.1, v1, z9.1, (0 : Int), r13.1, z9.2.2.2.1, r13.2.2.2.2.2, ([] : List (List Int)))) fun r14 =>
  (some ((0 : Int), r14.1, r14.2.1, r14.2.2.2))))))))))))
end Go.Rf.W
