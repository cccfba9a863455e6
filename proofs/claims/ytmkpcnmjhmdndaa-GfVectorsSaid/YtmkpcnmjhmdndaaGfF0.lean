/-
  The printed functions: plain data in, plain data out; none: beyond the number of rounds N, or where Go would panic.
-/
import Derived.Test.YtmkpcnmjhmdndaaRfA
set_option linter.unusedVariables false
set_option maxRecDepth 100000
namespace Go.Rf.W
open Go Go.Rf
noncomputable def gf_Mul_b0 (N : Nat) (next : Int × Int × Int → Option (Int)) (x : Int × Int × Int) : Option (Int) :=
  (cond (!(decide (x.1 = (0 : Int))))
  (Option.bind
  (cond (decide ((andF .u8 x.1 (1 : Int)) = (1 : Int)))
  (some (xorF .i64 x.2.1 x.2.2))
  (some x.2.1))
  fun r5 =>
  (let v6 : Int := (shlF .i64 x.2.2 (1 : Int))
  (Option.bind
  (cond (decide ((255 : Int) < v6))
  (some (xorF .i64 v6 (285 : Int)))
  (some v6))
  fun r9 =>
  (next ((shrF .u8 x.1 (1 : Int)), r5, r9)))))
  (some x.2.1))
noncomputable def gf_Mul_l0 (N : Nat) : Int × Int × Int → Option (Int) := loopF (gf_Mul_b0 N) N
noncomputable def gf_Mul (N : Nat) (x : Int × Int) : Option (Int) :=
  (Option.bind (gf_Mul_l0 N (x.2, (0 : Int), (wrapF .i64 x.1))) fun r2 =>
  (some (wrapF .u8 r2)))
noncomputable def gf_Add (x : Int × Int) : Option (Int) :=
  (some (xorF .u8 x.1 x.2))
noncomputable def gf_Pow_b0 (N : Nat) (next : Int × Int × Int → Option (Int)) (x : Int × Int × Int) : Option (Int) :=
  (cond (decide ((0 : Int) < x.2.1))
  (Option.bind
  (cond (decide ((andF .i64 x.2.1 (1 : Int)) = (1 : Int)))
  (Option.bind (gf_Mul N (x.2.2, x.1)) fun r4 =>
  (some r4))
  (some x.2.2))
  fun r5 =>
  (Option.bind (gf_Mul N (x.1, x.1)) fun r6 =>
  (next (r6, (shrF .i64 x.2.1 (1 : Int)), r5))))
  (some x.2.2))
noncomputable def gf_Pow_l0 (N : Nat) : Int × Int × Int → Option (Int) := loopF (gf_Pow_b0 N) N
noncomputable def gf_Pow (N : Nat) (x : Int × Int) : Option (Int) :=
  (cond (decide (x.1 = (0 : Int)))
  (cond (decide (x.2 = (0 : Int)))
  (some (1 : Int))
  (some (0 : Int)))
  (let v3 : Int := (Int.tmod x.2 (255 : Int))
  (Option.bind
  (cond (decide (v3 < (0 : Int)))
  (some (wrapF .i64 (v3 + (255 : Int))))
  (some v3))
  fun r6 =>
  (Option.bind (gf_Pow_l0 N (x.1, r6, (1 : Int))) fun r7 =>
  (some r7)))))
noncomputable def gf_Div (N : Nat) (x : Int × Int) : Option (Int × Int) :=
  (cond (decide (x.2 = (0 : Int)))
  (some ((0 : Int), (20 : Int)))
  (Option.bind (gf_Pow N (x.2, (254 : Int))) fun r2 =>
  (Option.bind (gf_Mul N (x.1, r2)) fun r3 =>
  (some (r3, (0 : Int))))))
noncomputable def gf_Inv (N : Nat) (x : Int) : Option (Int × Int) :=
  (Option.bind (gf_Div N ((1 : Int), x)) fun r1 =>
  (some (r1.1, r1.2)))
noncomputable def granarylaw02_num (x : Int) : Option (Int) :=
  (some x)
noncomputable def gf_side (x : Int) : Option (Bool) :=
  (Option.bind
  (cond (decide ((1 : Int) ≤ x))
  (some (decide (x ≤ (64 : Int))))
  (some false))
  fun r3 =>
  (some r3))
noncomputable def gf_Check (x : Int × Int × (List Int)) : Option (Int) :=
  (Option.bind
  (Option.bind (gf_side x.1) fun r1 =>
  (cond (!r1)
  (some true)
  (Option.bind (gf_side x.2.1) fun r3 =>
  (some (!r3)))))
  fun r5 =>
  (cond r5
  (some (2 : Int))
  (cond (!(decide ((((List.length x.2.2) : Nat) : Int) = (wrapF .i64 (x.1 * x.2.1)))))
  (some (23 : Int))
  (some (0 : Int)))))
noncomputable def slices_Clone_byte_byte (x : (List Int)) : Option ((List Int)) :=
  (agreeC (decide ((List.length x) = 0)) false
  (some ([] : List Int))
  (cond (fits 1 (List.length x))
  ((some x))
  none))
noncomputable def gf_Make (x : Int × Int × (List Int)) : Option (Int × Int × Int × (List Int)) :=
  (Option.bind (gf_Check (x.1, x.2.1, x.2.2)) fun r1 =>
  (cond (!(decide (r1 = (0 : Int))))
  (some ((0 : Int), (0 : Int), r1, ([] : List Int)))
  (Option.bind (slices_Clone_byte_byte x.2.2) fun r3 =>
  (some (x.1, x.2.1, (0 : Int), r3)))))
noncomputable def gf_zeros (x : Int × Int) : Option (Int × Int × (List Int)) :=
  (let v1 : Int := (wrapF .i64 (x.1 * x.2))
  (cond ((decide ((0 : Int) ≤ v1)) && (fits 1 (Int.toNat v1)))
  ((some (x.1, x.2, (List.replicate (Int.toNat v1) (EK.dflt (.int .u8))))))
  none))
noncomputable def gf_row (x : Int × Int × Int × (List Int)) : Option (Nat × Nat × (List Int)) :=
  (let v1 : Int := (wrapF .i64 (x.2.2.1 * x.2.1))
  (let v3 : Int := (wrapF .i64 ((wrapF .i64 (x.2.2.1 + (1 : Int))) * x.2.1))
  (let v5 : Int := (wrapF .i64 ((wrapF .i64 (x.2.2.1 + (1 : Int))) * x.2.1))
  (cond ((((decide ((0 : Int) ≤ v1)) && (decide (v1 ≤ v3))) && (decide (v3 ≤ v5))) && (decide (v5 ≤ (((List.length x.2.2.2) : Nat) : Int))))
  ((some ((Int.toNat v1), ((Int.toNat v3) - (Int.toNat v1)), x.2.2.2)))
  none))))
noncomputable def gf_Identity_b0 (N : Nat) (next : Int × Int × (List Int) × Int × Int → Option (((List Int) × Int × Int))) (x : Int × Int × (List Int) × Int × Int) : Option (((List Int) × Int × Int)) :=
  (cond (decide (x.2.1 < x.1))
  (Option.bind (gf_row (x.2.2.2.1, x.2.2.2.2, x.2.1, x.2.2.1)) fun r2 =>
  (cond ((decide ((0 : Int) ≤ x.2.1)) && (decide (x.2.1 < ((r2.2.1 : Nat) : Int))))
  ((let v3 : Nat := ((Int.toNat x.2.1) + r2.1)
  (cond (decide (v3 < (List.length r2.2.2)))
  ((next (x.1, (wrapF .i64 (x.2.1 + (1 : Int))), (List.set r2.2.2 v3 (1 : Int)), x.2.2.2.1, x.2.2.2.2)))
  none)))
  none))
  (some (x.2.2.1, x.2.2.2.1, x.2.2.2.2)))
noncomputable def gf_Identity_l0 (N : Nat) : Int × Int × (List Int) × Int × Int → Option (((List Int) × Int × Int)) := loopF (gf_Identity_b0 N) N
noncomputable def gf_Identity (N : Nat) (x : Int) : Option (Int × Int × Int × (List Int)) :=
  (Option.bind (gf_side x) fun r1 =>
  (cond (!r1)
  (some ((0 : Int), (0 : Int), (2 : Int), ([] : List Int)))
  (Option.bind (gf_zeros (x, x)) fun r3 =>
  (Option.bind (gf_Identity_l0 N (x, (0 : Int), r3.2.2, r3.1, r3.2.1)) fun r4 =>
  (some (r4.2.1, r4.2.2, (0 : Int), r4.1))))))
noncomputable def gf_own (x : Int × Int × (List Int)) : Option (Int × Int × (List Int)) :=
  (Option.bind (slices_Clone_byte_byte x.2.2) fun r1 =>
  (some (x.1, x.2.1, r1)))
noncomputable def gf_Scale_b0 (N : Nat) (next : Int × (List Int) × Int × Int × (List Int) → Option (((List Int)))) (x : Int × (List Int) × Int × Int × (List Int)) : Option (((List Int))) :=
  (cond (decide (x.2.2.2.1 < x.2.2.1))
  (cond ((decide ((0 : Int) ≤ x.2.2.2.1)) && (decide (x.2.2.2.1 < (((List.length x.2.1) : Nat) : Int))))
  ((Option.bind (gf_Mul N (x.1, (List.getD x.2.1 (Int.toNat x.2.2.2.1) (EK.dflt (.int .u8))))) fun r3 =>
  (cond ((decide ((0 : Int) ≤ x.2.2.2.1)) && (decide (x.2.2.2.1 < (((List.length x.2.2.2.2) : Nat) : Int))))
  ((let v4 : Nat := (Int.toNat x.2.2.2.1)
  (cond (decide (v4 < (List.length x.2.2.2.2)))
  ((next (x.1, x.2.1, x.2.2.1, (wrapF .i64 (x.2.2.2.1 + (1 : Int))), (List.set x.2.2.2.2 v4 r3))))
  none)))
  none)))
  none)
  (some x.2.2.2.2))
noncomputable def gf_Scale_l0 (N : Nat) : Int × (List Int) × Int × Int × (List Int) → Option (((List Int))) := loopF (gf_Scale_b0 N) N
noncomputable def gf_Scale (N : Nat) (x : Int × (List Int)) : Option ((List Int)) :=
  (let v1 : Int := (((List.length x.2) : Nat) : Int)
  (cond ((decide ((0 : Int) ≤ v1)) && (fits 1 (Int.toNat v1)))
  ((Option.bind (gf_Scale_l0 N (x.1, x.2, (((List.length x.2) : Nat) : Int), (0 : Int), (List.replicate (Int.toNat v1) (EK.dflt (.int .u8))))) fun r4 =>
  (some r4)))
  none))
noncomputable def gf_add_b0 (N : Nat) (next : Nat × Nat × Int × Nat × Nat × Int × Int × (List Int) → Option (((List Int)))) (x : Nat × Nat × Int × Nat × Nat × Int × Int × (List Int)) : Option (((List Int))) :=
  (cond (decide (x.2.2.2.2.2.2.1 < x.2.2.2.2.2.1))
  (cond ((decide ((0 : Int) ≤ x.2.2.2.2.2.2.1)) && (decide (x.2.2.2.2.2.2.1 < ((x.2.2.2.2.1 : Nat) : Int))))
  ((let v2 : Nat := ((Int.toNat x.2.2.2.2.2.2.1) + x.2.2.2.1)
  (cond (decide (v2 < (List.length x.2.2.2.2.2.2.2)))
  ((cond ((decide ((0 : Int) ≤ x.2.2.2.2.2.2.1)) && (decide (x.2.2.2.2.2.2.1 < ((x.2.1 : Nat) : Int))))
  ((let v4 : Nat := ((Int.toNat x.2.2.2.2.2.2.1) + x.1)
  (cond (decide (v4 < (List.length x.2.2.2.2.2.2.2)))
  ((Option.bind (gf_Mul N (x.2.2.1, (List.getD x.2.2.2.2.2.2.2 v2 (EK.dflt (.int .u8))))) fun r6 =>
  (cond ((decide ((0 : Int) ≤ x.2.2.2.2.2.2.1)) && (decide (x.2.2.2.2.2.2.1 < ((x.2.1 : Nat) : Int))))
  ((let v8 : Nat := ((Int.toNat x.2.2.2.2.2.2.1) + x.1)
  (cond (decide (v8 < (List.length x.2.2.2.2.2.2.2)))
  ((next (x.1, x.2.1, x.2.2.1, x.2.2.2.1, x.2.2.2.2.1, x.2.2.2.2.2.1, (wrapF .i64 (x.2.2.2.2.2.2.1 + (1 : Int))), (List.set x.2.2.2.2.2.2.2 v8 (xorF .u8 (List.getD x.2.2.2.2.2.2.2 v4 (EK.dflt (.int .u8))) r6)))))
  none)))
  none)))
  none)))
  none))
  none)))
  none)
  (some x.2.2.2.2.2.2.2))
noncomputable def gf_add_l0 (N : Nat) : Nat × Nat × Int × Nat × Nat × Int × Int × (List Int) → Option (((List Int))) := loopF (gf_add_b0 N) N
noncomputable def gf_add (N : Nat) (x : Nat × Nat × Int × Nat × Nat × (List Int)) : Option ((List Int)) :=
  (cond (decide (x.2.2.1 = (0 : Int)))
  (some x.2.2.2.2.2)
  (Option.bind (gf_add_l0 N (x.1, x.2.1, x.2.2.1, x.2.2.2.1, x.2.2.2.2.1, ((x.2.2.2.2.1 : Nat) : Int), (0 : Int), x.2.2.2.2.2)) fun r3 =>
  (some r3)))
noncomputable def gf_clear2_b6_1 (N : Nat) (next : Int × Int × Int × Int × Nat × Nat × Nat × Nat × Int × Int × Nat × Nat × Int × Int × (List Int) → Option (((List Int)))) (x : Int × Int × Int × Int × Nat × Nat × Nat × Nat × Int × Int × Nat × Nat × Int × Int × (List Int)) : Option (((List Int))) :=
  (cond (decide (x.2.2.2.2.2.2.2.2.2.2.2.2.2.1 < x.2.2.2.2.2.2.2.2.2.2.2.2.1))
  (cond ((decide ((0 : Int) ≤ x.2.2.2.2.2.2.2.2.2.2.2.2.2.1)) && (decide (x.2.2.2.2.2.2.2.2.2.2.2.2.2.1 < ((x.2.2.2.2.2.2.2.1 : Nat) : Int))))
  ((let v2 : Nat := ((Int.toNat x.2.2.2.2.2.2.2.2.2.2.2.2.2.1) + x.2.2.2.2.2.2.1)
  (cond (decide (v2 < (List.length x.2.2.2.2.2.2.2.2.2.2.2.2.2.2)))
  ((cond ((decide ((0 : Int) ≤ x.2.2.2.2.2.2.2.2.2.2.2.2.2.1)) && (decide (x.2.2.2.2.2.2.2.2.2.2.2.2.2.1 < ((x.2.2.2.2.2.1 : Nat) : Int))))
  ((let v4 : Nat := ((Int.toNat x.2.2.2.2.2.2.2.2.2.2.2.2.2.1) + x.2.2.2.2.1)
  (cond (decide (v4 < (List.length x.2.2.2.2.2.2.2.2.2.2.2.2.2.2)))
  ((cond ((decide ((0 : Int) ≤ x.2.2.2.2.2.2.2.2.2.2.2.2.2.1)) && (decide (x.2.2.2.2.2.2.2.2.2.2.2.2.2.1 < ((x.2.2.2.2.2.1 : Nat) : Int))))
  ((let v6 : Nat := ((Int.toNat x.2.2.2.2.2.2.2.2.2.2.2.2.2.1) + x.2.2.2.2.1)
  (cond (decide (v6 < (List.length x.2.2.2.2.2.2.2.2.2.2.2.2.2.2)))
  ((let v7 : List Int := (List.set x.2.2.2.2.2.2.2.2.2.2.2.2.2.2 v6 (List.getD x.2.2.2.2.2.2.2.2.2.2.2.2.2.2 v2 (EK.dflt (.int .u8))))
  (cond ((decide ((0 : Int) ≤ x.2.2.2.2.2.2.2.2.2.2.2.2.2.1)) && (decide (x.2.2.2.2.2.2.2.2.2.2.2.2.2.1 < ((x.2.2.2.2.2.2.2.1 : Nat) : Int))))
  ((let v8 : Nat := ((Int.toNat x.2.2.2.2.2.2.2.2.2.2.2.2.2.1) + x.2.2.2.2.2.2.1)
  (cond (decide (v8 < (List.length v7)))
  ((next (x.1, x.2.1, x.2.2.1, x.2.2.2.1, x.2.2.2.2.1, x.2.2.2.2.2.1, x.2.2.2.2.2.2.1, x.2.2.2.2.2.2.2.1, x.2.2.2.2.2.2.2.2.1, x.2.2.2.2.2.2.2.2.2.1, x.2.2.2.2.2.2.2.2.2.2.1, x.2.2.2.2.2.2.2.2.2.2.2.1, x.2.2.2.2.2.2.2.2.2.2.2.2.1, (wrapF .i64 (x.2.2.2.2.2.2.2.2.2.2.2.2.2.1 + (1 : Int))), (List.set v7 v8 (List.getD x.2.2.2.2.2.2.2.2.2.2.2.2.2.2 v4 (EK.dflt (.int .u8)))))))
  none)))
  none)))
  none)))
  none))
  none)))
  none))
  none)))
  none)
  (some x.2.2.2.2.2.2.2.2.2.2.2.2.2.2))
noncomputable def gf_clear2_l6_1 (N : Nat) : Int × Int × Int × Int × Nat × Nat × Nat × Nat × Int × Int × Nat × Nat × Int × Int × (List Int) → Option (((List Int))) := loopF (gf_clear2_b6_1 N) N
noncomputable def gf_clear2_b6_2 (N : Nat) (next : Int × Int × Int × Int × Nat × Nat × Nat × Nat × Int × Int × Nat × Nat × Int × Int × (List Int) → Option (((List Int)))) (x : Int × Int × Int × Int × Nat × Nat × Nat × Nat × Int × Int × Nat × Nat × Int × Int × (List Int)) : Option (((List Int))) :=
  (cond (decide (x.2.2.2.2.2.2.2.2.2.2.2.2.2.1 < x.2.2.2.2.2.2.2.2.2.2.2.2.1))
  (cond ((decide ((0 : Int) ≤ x.2.2.2.2.2.2.2.2.2.2.2.2.2.1)) && (decide (x.2.2.2.2.2.2.2.2.2.2.2.2.2.1 < ((x.2.2.2.2.2.2.2.1 : Nat) : Int))))
  ((let v2 : Nat := ((Int.toNat x.2.2.2.2.2.2.2.2.2.2.2.2.2.1) + x.2.2.2.2.2.2.1)
  (cond (decide (v2 < (List.length x.2.2.2.2.2.2.2.2.2.2.2.2.2.2)))
  ((cond ((decide ((0 : Int) ≤ x.2.2.2.2.2.2.2.2.2.2.2.2.2.1)) && (decide (x.2.2.2.2.2.2.2.2.2.2.2.2.2.1 < ((x.2.2.2.2.2.1 : Nat) : Int))))
  ((let v4 : Nat := ((Int.toNat x.2.2.2.2.2.2.2.2.2.2.2.2.2.1) + x.2.2.2.2.1)
  (cond (decide (v4 < (List.length x.2.2.2.2.2.2.2.2.2.2.2.2.2.2)))
  ((cond ((decide ((0 : Int) ≤ x.2.2.2.2.2.2.2.2.2.2.2.2.2.1)) && (decide (x.2.2.2.2.2.2.2.2.2.2.2.2.2.1 < ((x.2.2.2.2.2.1 : Nat) : Int))))
  ((let v6 : Nat := ((Int.toNat x.2.2.2.2.2.2.2.2.2.2.2.2.2.1) + x.2.2.2.2.1)
  (cond (decide (v6 < (List.length x.2.2.2.2.2.2.2.2.2.2.2.2.2.2)))
  ((let v7 : List Int := (List.set x.2.2.2.2.2.2.2.2.2.2.2.2.2.2 v6 (List.getD x.2.2.2.2.2.2.2.2.2.2.2.2.2.2 v2 (EK.dflt (.int .u8))))
  (cond ((decide ((0 : Int) ≤ x.2.2.2.2.2.2.2.2.2.2.2.2.2.1)) && (decide (x.2.2.2.2.2.2.2.2.2.2.2.2.2.1 < ((x.2.2.2.2.2.2.2.1 : Nat) : Int))))
  ((let v8 : Nat := ((Int.toNat x.2.2.2.2.2.2.2.2.2.2.2.2.2.1) + x.2.2.2.2.2.2.1)
  (cond (decide (v8 < (List.length v7)))
  ((next (x.1, x.2.1, x.2.2.1, x.2.2.2.1, x.2.2.2.2.1, x.2.2.2.2.2.1, x.2.2.2.2.2.2.1, x.2.2.2.2.2.2.2.1, x.2.2.2.2.2.2.2.2.1, x.2.2.2.2.2.2.2.2.2.1, x.2.2.2.2.2.2.2.2.2.2.1, x.2.2.2.2.2.2.2.2.2.2.2.1, x.2.2.2.2.2.2.2.2.2.2.2.2.1, (wrapF .i64 (x.2.2.2.2.2.2.2.2.2.2.2.2.2.1 + (1 : Int))), (List.set v7 v8 (List.getD x.2.2.2.2.2.2.2.2.2.2.2.2.2.2 v4 (EK.dflt (.int .u8)))))))
  none)))
  none)))
  none)))
  none))
  none)))
  none))
  none)))
  none)
  (some x.2.2.2.2.2.2.2.2.2.2.2.2.2.2))
noncomputable def gf_clear2_l6_2 (N : Nat) : Int × Int × Int × Int × Nat × Nat × Nat × Nat × Int × Int × Nat × Nat × Int × Int × (List Int) → Option (((List Int))) := loopF (gf_clear2_b6_2 N) N
noncomputable def gf_clear2_b2 (N : Nat) (next : Int × Int × Int × Int × Int × (List Int) × Int × Int → Option ((Int × (List Int) × Int × Int))) (x : Int × Int × Int × Int × Int × (List Int) × Int × Int) : Option ((Int × (List Int) × Int × Int)) :=
  (Option.bind
  (cond (decide (x.2.2.1 < x.2.2.2.2.2.2.1))
  (Option.bind (gf_row (x.2.2.2.2.2.2.1, x.2.2.2.2.2.2.2, x.2.2.1, x.2.2.2.2.2.1)) fun r2 =>
  (cond ((decide ((0 : Int) ≤ x.2.1)) && (decide (x.2.1 < ((r2.2.1 : Nat) : Int))))
  ((let v3 : Nat := ((Int.toNat x.2.1) + r2.1)
  (cond (decide (v3 < (List.length r2.2.2)))
  ((some ((decide ((List.getD r2.2.2 v3 (EK.dflt (.int .u8))) = (0 : Int))), r2.2.2)))
  none)))
  none))
  (some (false, x.2.2.2.2.2.1)))
  fun r6 =>
  (cond r6.1
  (next (x.1, x.2.1, (wrapF .i64 (x.2.2.1 + (1 : Int))), x.2.2.2.1, x.2.2.2.2.1, r6.2, x.2.2.2.2.2.2.1, x.2.2.2.2.2.2.2))
  (some (x.2.2.1, r6.2, x.2.2.2.2.2.2.1, x.2.2.2.2.2.2.2))))
noncomputable def gf_clear2_l2 (N : Nat) : Int × Int × Int × Int × Int × (List Int) × Int × Int → Option ((Int × (List Int) × Int × Int)) := loopF (gf_clear2_b2 N) N
noncomputable def gf_clear2_b8 (N : Nat) (next : Int × Int × Int × Int × Int × Int × (List Int) × (List Int) × Int × Int × Int × Int → Option (((List Int) × (List Int) × Int × Int × Int × Int))) (x : Int × Int × Int × Int × Int × Int × (List Int) × (List Int) × Int × Int × Int × Int) : Option (((List Int) × (List Int) × Int × Int × Int × Int)) :=
  (cond (decide (x.2.2.2.2.2.1 < x.2.2.2.2.1))
  (Option.bind
  (cond (!(decide (x.2.2.2.2.2.1 = x.1)))
  (Option.bind (gf_row (x.2.2.2.2.2.2.2.2.1, x.2.2.2.2.2.2.2.2.2.1, x.2.2.2.2.2.1, x.2.2.2.2.2.2.1)) fun r3 =>
  (cond ((decide ((0 : Int) ≤ x.2.1)) && (decide (x.2.1 < ((r3.2.1 : Nat) : Int))))
  ((let v4 : Nat := ((Int.toNat x.2.1) + r3.1)
  (cond (decide (v4 < (List.length r3.2.2)))
  ((let v5 : Int := (List.getD r3.2.2 v4 (EK.dflt (.int .u8)))
  (Option.bind (gf_row (x.2.2.2.2.2.2.2.2.1, x.2.2.2.2.2.2.2.2.2.1, x.2.2.2.2.2.1, r3.2.2)) fun r6 =>
  (Option.bind (gf_row (x.2.2.2.2.2.2.2.2.1, x.2.2.2.2.2.2.2.2.2.1, x.1, r6.2.2)) fun r7 =>
  (Option.bind (gf_add N (r6.1, r6.2.1, v5, r7.1, r7.2.1, r7.2.2)) fun r8 =>
  (Option.bind
  (cond (decide ((0 : Int) < x.2.2.2.2.2.2.2.2.2.2.1))
  (Option.bind (gf_row (x.2.2.2.2.2.2.2.2.2.2.1, x.2.2.2.2.2.2.2.2.2.2.2, x.2.2.2.2.2.1, x.2.2.2.2.2.2.2.1)) fun r10 =>
  (Option.bind (gf_row (x.2.2.2.2.2.2.2.2.2.2.1, x.2.2.2.2.2.2.2.2.2.2.2, x.1, r10.2.2)) fun r11 =>
  (Option.bind (gf_add N (r10.1, r10.2.1, v5, r11.1, r11.2.1, r11.2.2)) fun r12 =>
  (some r12))))
  (some x.2.2.2.2.2.2.2.1))
  fun r13 =>
  (some (r8, r13))))))))
  none)))
  none))
  (some (x.2.2.2.2.2.2.1, x.2.2.2.2.2.2.2.1)))
  fun r14 =>
  (next (x.1, x.2.1, x.2.2.1, x.2.2.2.1, x.2.2.2.2.1, (wrapF .i64 (x.2.2.2.2.2.1 + (1 : Int))), r14.1, r14.2, x.2.2.2.2.2.2.2.2.1, x.2.2.2.2.2.2.2.2.2.1, x.2.2.2.2.2.2.2.2.2.2.1, x.2.2.2.2.2.2.2.2.2.2.2)))
  (some (x.2.2.2.2.2.2.1, x.2.2.2.2.2.2.2.1, x.2.2.2.2.2.2.2.2.1, x.2.2.2.2.2.2.2.2.2.1, x.2.2.2.2.2.2.2.2.2.2.1, x.2.2.2.2.2.2.2.2.2.2.2)))
noncomputable def gf_clear2_l8 (N : Nat) : Int × Int × Int × Int × Int × Int × (List Int) × (List Int) × Int × Int × Int × Int → Option (((List Int) × (List Int) × Int × Int × Int × Int)) := loopF (gf_clear2_b8 N) N
noncomputable def gf_clear2_b0 (N : Nat) (next : Int × Int × Int × (List Int) × (List Int) × Int × Int × Int × Int → Option ((Int × (List Int) × (List Int) × Int × Int × Int × Int))) (x : Int × Int × Int × (List Int) × (List Int) × Int × Int × Int × Int) : Option ((Int × (List Int) × (List Int) × Int × Int × Int × Int)) :=
  (cond (decide (x.2.2.1 < x.2.1))
  (Option.bind
  (Option.bind (gf_clear2_l2 N (x.1, x.2.2.1, x.1, x.2.1, x.2.2.1, x.2.2.2.1, x.2.2.2.2.2.1, x.2.2.2.2.2.2.1)) fun r2 =>
  (cond (decide (r2.1 = r2.2.2.1))
  (some (x.1, r2.2.1, x.2.2.2.2.1, r2.2.2.1, r2.2.2.2, x.2.2.2.2.2.2.2.1, x.2.2.2.2.2.2.2.2))
  (Option.bind (gf_row (r2.2.2.1, r2.2.2.2, r2.1, r2.2.1)) fun r4 =>
  (cond ((decide ((0 : Int) ≤ x.2.2.1)) && (decide (x.2.2.1 < ((r4.2.1 : Nat) : Int))))
  ((let v5 : Nat := ((Int.toNat x.2.2.1) + r4.1)
  (cond (decide (v5 < (List.length r4.2.2)))
  ((Option.bind (gf_Inv N (List.getD r4.2.2 v5 (EK.dflt (.int .u8)))) fun r7 =>
  (Option.bind
  (cond (decide (r2.2.2.1 = (0 : Int)))
  (some r4.2.2)
  (Option.bind (gf_row (r2.2.2.1, r2.2.2.2, r2.1, r4.2.2)) fun r9 =>
  (Option.bind (gf_row (r2.2.2.1, r2.2.2.2, x.1, r9.2.2)) fun r10 =>
  (Option.bind (gf_clear2_l6_1 N (x.1, x.2.2.1, r2.1, r7.1, r9.1, r9.2.1, r10.1, r10.2.1, x.2.1, x.2.2.1, 0, 2, ((r9.2.1 : Nat) : Int), (0 : Int), r10.2.2)) fun r12 =>
  (cond (cond (decide ((r10.1 + r10.2.1) ≤ (List.length r12))) true false)
  (Option.bind (gf_Scale N (r7.1, (List.take r10.2.1 (List.drop r10.1 r12)))) fun r13 =>
  (cond (decide ((r10.1 + r10.2.1) ≤ (List.length r12)))
  ((some (List.take r10.1 r12 ++ List.take (min (List.length r13) r10.2.1) r13 ++ List.drop (r10.1 + (min (List.length r13) r10.2.1)) r12)))
  none))
  none)))))
  fun r16 =>
  (Option.bind
  (cond (decide (x.2.2.2.2.2.2.2.1 = (0 : Int)))
  (some x.2.2.2.2.1)
  (Option.bind (gf_row (x.2.2.2.2.2.2.2.1, x.2.2.2.2.2.2.2.2, r2.1, x.2.2.2.2.1)) fun r18 =>
  (Option.bind (gf_row (x.2.2.2.2.2.2.2.1, x.2.2.2.2.2.2.2.2, x.1, r18.2.2)) fun r19 =>
  (Option.bind (gf_clear2_l6_2 N (x.1, x.2.2.1, r2.1, r7.1, r18.1, r18.2.1, r19.1, r19.2.1, x.2.1, x.2.2.1, 0, 2, ((r18.2.1 : Nat) : Int), (0 : Int), r19.2.2)) fun r21 =>
  (cond (cond (decide ((r19.1 + r19.2.1) ≤ (List.length r21))) true false)
  (Option.bind (gf_Scale N (r7.1, (List.take r19.2.1 (List.drop r19.1 r21)))) fun r22 =>
  (cond (decide ((r19.1 + r19.2.1) ≤ (List.length r21)))
  ((some (List.take r19.1 r21 ++ List.take (min (List.length r22) r19.2.1) r22 ++ List.drop (r19.1 + (min (List.length r22) r19.2.1)) r21)))
  none))
  none)))))
  fun r25 =>
  (Option.bind (gf_clear2_l8 N (x.1, x.2.2.1, x.2.1, x.2.2.1, r2.2.2.1, (0 : Int), r16, r25, r2.2.2.1, r2.2.2.2, x.2.2.2.2.2.2.2.1, x.2.2.2.2.2.2.2.2)) fun r26 =>
  (some ((wrapF .i64 (x.1 + (1 : Int))), r26.1, r26.2.1, r26.2.2.1, r26.2.2.2.1, r26.2.2.2.2.1, r26.2.2.2.2.2)))))))
  none)))
  none))))
  fun r28 =>
  (next (r28.1, x.2.1, (wrapF .i64 (x.2.2.1 + (1 : Int))), r28.2.1, r28.2.2.1, r28.2.2.2.1, r28.2.2.2.2.1, r28.2.2.2.2.2.1, r28.2.2.2.2.2.2)))
  (some (x.1, x.2.2.2.1, x.2.2.2.2.1, x.2.2.2.2.2.1, x.2.2.2.2.2.2.1, x.2.2.2.2.2.2.2.1, x.2.2.2.2.2.2.2.2)))
noncomputable def gf_clear2_l0 (N : Nat) : Int × Int × Int × (List Int) × (List Int) × Int × Int × Int × Int → Option ((Int × (List Int) × (List Int) × Int × Int × Int × Int)) := loopF (gf_clear2_b0 N) N
noncomputable def gf_clear2 (N : Nat) (x : Int × Int × Int × Int × (List Int) × (List Int)) : Option (Int × (List Int) × (List Int)) :=
  (Option.bind (gf_clear2_l0 N ((0 : Int), x.2.1, (0 : Int), x.2.2.2.2.1, x.2.2.2.2.2, x.1, x.2.1, x.2.2.1, x.2.2.2.1)) fun r1 =>
  (some (r1.1, r1.2.1, r1.2.2.1)))
noncomputable def gf_Inverse (N : Nat) (x : Int × Int × (List Int)) : Option (Int × Int × Int × (List Int)) :=
  (Option.bind (gf_Check (x.1, x.2.1, x.2.2)) fun r1 =>
  (cond (!(decide (r1 = (0 : Int))))
  (some ((0 : Int), (0 : Int), r1, ([] : List Int)))
  (cond (!(decide (x.1 = x.2.1)))
  (some ((0 : Int), (0 : Int), (23 : Int), ([] : List Int)))
  (Option.bind (gf_Identity N x.1) fun r4 =>
  (Option.bind (gf_own (x.1, x.2.1, x.2.2)) fun r5 =>
  (Option.bind (gf_clear2 N (r5.1, r5.2.1, r4.1, r4.2.1, r5.2.2, r4.2.2.2)) fun r6 =>
  (cond (decide (r6.1 < x.1))
  (some ((0 : Int), (0 : Int), (22 : Int), ([] : List Int)))
  (some (r4.1, r4.2.1, (0 : Int), r6.2.2)))))))))
noncomputable def granaryref02_Same (x : Int × Int × (List Int) × Int × Int × (List Int)) : Option (Bool) :=
  (Option.bind
  (cond (decide (x.1 = x.2.2.2.1))
  (cond (decide (x.2.1 = x.2.2.2.2.1))
  (some (decide ((List.map (fun (n : Int) => UInt8.ofNat n.toNat) x.2.2.1) = (List.map (fun (n : Int) => UInt8.ofNat n.toNat) x.2.2.2.2.2))))
  (some false))
  (some false))
  fun r6 =>
  (some r6))
noncomputable def granarylaw02_live (N : Nat) (x : Unit) : Option (Bool) :=
  (Option.bind (gf_Inv N (2 : Int)) fun r1 =>
  (Option.bind (gf_Inv N (0 : Int)) fun r2 =>
  (let v3 : List Int := ([(1 : Int), (0 : Int), (1 : Int), (1 : Int)] : List Int)
  (cond (cond (decide (4 ≤ (List.length v3))) true false)
  (Option.bind (gf_Make ((2 : Int), (2 : Int), (List.take 4 (List.drop 0 v3)))) fun r4 =>
  (Option.bind (gf_Inverse N (r4.1, r4.2.1, r4.2.2.2)) fun r5 =>
  (let v6 : List Int := ([(1 : Int), (1 : Int), (1 : Int), (1 : Int)] : List Int)
  (cond (cond ((decide (4 ≤ (List.length v6))) && true) true false)
  (Option.bind (gf_Inverse N ((2 : Int), (2 : Int), (List.take 4 (List.drop 0 v6)))) fun r7 =>
  (Option.bind
  (Option.bind (gf_Mul N ((2 : Int), (128 : Int))) fun r8 =>
  (cond (decide (r8 = (29 : Int)))
  (Option.bind (gf_Mul N ((3 : Int), (7 : Int))) fun r10 =>
  (cond (decide (r10 = (9 : Int)))
  (cond (decide (r1.1 = (142 : Int)))
  (Option.bind (granarylaw02_num r1.2) fun r13 =>
  (cond (decide (r13 = (0 : Int)))
  (Option.bind (granarylaw02_num r2.2) fun r15 =>
  (cond (decide (r15 = (20 : Int)))
  (Option.bind (granarylaw02_num r4.2.2.1) fun r17 =>
  (cond (decide (r17 = (0 : Int)))
  (Option.bind (granarylaw02_num r5.2.2.1) fun r19 =>
  (cond (decide (r19 = (0 : Int)))
  (Option.bind (granaryref02_Same (r4.1, r4.2.1, r4.2.2.2, r5.1, r5.2.1, r5.2.2.2)) fun r21 =>
  (cond r21
  (Option.bind (granarylaw02_num r7.2.2.1) fun r22 =>
  (cond (decide (r22 = (22 : Int)))
  (Option.bind (gf_Pow N ((2 : Int), (-1 : Int))) fun r24 =>
  (some (decide (r24 = (142 : Int)))))
  (some false)))
  (some false)))
  (some false)))
  (some false)))
  (some false)))
  (some false)))
  (some false))
  (some false)))
  (some false)))
  fun r26 =>
  (some r26)))
  none))))
  none))))
noncomputable def granaryref02_New (x : Int × Int) : Option (Int × Int × (List Int)) :=
  (let v1 : Int := (wrapF .i64 (x.1 * x.2))
  (cond ((decide ((0 : Int) ≤ v1)) && (fits 1 (Int.toNat v1)))
  ((some (x.1, x.2, (List.replicate (Int.toNat v1) (EK.dflt (.int .u8))))))
  none))
noncomputable def granaryref02_Identity_b0 (N : Nat) (next : Int × Int × (List Int) × Int × Int → Option (((List Int) × Int × Int))) (x : Int × Int × (List Int) × Int × Int) : Option (((List Int) × Int × Int)) :=
  (cond (decide (x.2.1 < x.1))
  (let v3 : Int := (wrapF .i64 ((wrapF .i64 (x.2.1 * x.1)) + x.2.1))
  (cond ((decide ((0 : Int) ≤ v3)) && (decide (v3 < (((List.length x.2.2.1) : Nat) : Int))))
  ((let v4 : Nat := (Int.toNat v3)
  (cond (decide (v4 < (List.length x.2.2.1)))
  ((next (x.1, (wrapF .i64 (x.2.1 + (1 : Int))), (List.set x.2.2.1 v4 (1 : Int)), x.2.2.2.1, x.2.2.2.2)))
  none)))
  none))
  (some (x.2.2.1, x.2.2.2.1, x.2.2.2.2)))
noncomputable def granaryref02_Identity_l0 (N : Nat) : Int × Int × (List Int) × Int × Int → Option (((List Int) × Int × Int)) := loopF (granaryref02_Identity_b0 N) N
noncomputable def granaryref02_Identity (N : Nat) (x : Int) : Option (Int × Int × Int × (List Int)) :=
  (Option.bind
  (cond (decide (x < (1 : Int)))
  (some true)
  (some (decide ((64 : Int) < x))))
  fun r3 =>
  (cond r3
  (some ((0 : Int), (0 : Int), (2 : Int), ([] : List Int)))
  (Option.bind (granaryref02_New (x, x)) fun r4 =>
  (Option.bind (granaryref02_Identity_l0 N (x, (0 : Int), r4.2.2, r4.1, r4.2.1)) fun r5 =>
  (some (r5.2.1, r5.2.2, (0 : Int), r5.1))))))
noncomputable def gf_Powers_b2 (N : Nat) (next : Int × Int × Int × Int × Int × Int × (List Int) × Int × Int → Option (((List Int) × Int × Int))) (x : Int × Int × Int × Int × Int × Int × (List Int) × Int × Int) : Option (((List Int) × Int × Int)) :=
  (cond (decide (x.2.2.2.2.2.1 < x.2.2.2.2.1))
  (Option.bind (gf_row (x.2.2.2.2.2.2.2.1, x.2.2.2.2.2.2.2.2, x.2.1, x.2.2.2.2.2.2.1)) fun r2 =>
  (Option.bind (gf_Pow N ((wrapF .u8 x.2.1), x.2.2.2.2.2.1)) fun r4 =>
  (cond ((decide ((0 : Int) ≤ x.2.2.2.2.2.1)) && (decide (x.2.2.2.2.2.1 < ((r2.2.1 : Nat) : Int))))
  ((let v5 : Nat := ((Int.toNat x.2.2.2.2.2.1) + r2.1)
  (cond (decide (v5 < (List.length r2.2.2)))
  ((next (x.1, x.2.1, x.2.2.1, x.2.2.2.1, x.2.2.2.2.1, (wrapF .i64 (x.2.2.2.2.2.1 + (1 : Int))), (List.set r2.2.2 v5 r4), x.2.2.2.2.2.2.2.1, x.2.2.2.2.2.2.2.2)))
  none)))
  none)))
  (some (x.2.2.2.2.2.2.1, x.2.2.2.2.2.2.2.1, x.2.2.2.2.2.2.2.2)))
noncomputable def gf_Powers_l2 (N : Nat) : Int × Int × Int × Int × Int × Int × (List Int) × Int × Int → Option (((List Int) × Int × Int)) := loopF (gf_Powers_b2 N) N
noncomputable def gf_Powers_b0 (N : Nat) (next : Int × Int × Int × (List Int) × Int × Int → Option (((List Int) × Int × Int))) (x : Int × Int × Int × (List Int) × Int × Int) : Option (((List Int) × Int × Int)) :=
  (cond (decide (x.2.2.1 < x.2.1))
  (Option.bind (gf_Powers_l2 N (x.1, x.2.2.1, x.2.1, x.2.2.1, x.1, (0 : Int), x.2.2.2.1, x.2.2.2.2.1, x.2.2.2.2.2)) fun r2 =>
  (next (x.1, x.2.1, (wrapF .i64 (x.2.2.1 + (1 : Int))), r2.1, r2.2.1, r2.2.2)))
  (some (x.2.2.2.1, x.2.2.2.2.1, x.2.2.2.2.2)))
noncomputable def gf_Powers_l0 (N : Nat) : Int × Int × Int × (List Int) × Int × Int → Option (((List Int) × Int × Int)) := loopF (gf_Powers_b0 N) N
noncomputable def gf_Powers (N : Nat) (x : Int × Int) : Option (Int × Int × Int × (List Int)) :=
  (Option.bind
  (Option.bind (gf_side x.1) fun r1 =>
  (cond (!r1)
  (some true)
  (Option.bind (gf_side x.2) fun r3 =>
  (some (!r3)))))
  fun r5 =>
  (cond r5
  (some ((0 : Int), (0 : Int), (2 : Int), ([] : List Int)))
  (Option.bind (gf_zeros (x.1, x.2)) fun r6 =>
  (Option.bind (gf_Powers_l0 N (x.2, x.1, (0 : Int), r6.2.2, r6.1, r6.2.1)) fun r7 =>
  (some (r7.2.1, r7.2.2, (0 : Int), r7.1))))))
noncomputable def granaryref02_Mul_b0 (N : Nat) (next : Int × Int × Int × Int → Option (Int)) (x : Int × Int × Int × Int) : Option (Int) :=
  (cond (decide (x.2.2.2 < (8 : Int)))
  (let v2 : Int := (wrapF .u64 x.2.2.2)
  (cond (decide ((0 : Int) ≤ v2))
  ((Option.bind
  (cond (!(decide ((andF .u8 x.1 (shlF .u8 (1 : Int) v2)) = (0 : Int))))
  (some (xorF .i64 x.2.1 x.2.2.1))
  (some x.2.1))
  fun r7 =>
  (let v8 : Int := (wrapF .i64 ((2 : Int) * x.2.2.1))
  (Option.bind
  (cond (decide ((255 : Int) < v8))
  (some (xorF .i64 v8 (285 : Int)))
  (some v8))
  fun r11 =>
  (next (x.1, r7, r11, (wrapF .i64 (x.2.2.2 + (1 : Int)))))))))
  none))
  (some x.2.1))
noncomputable def granaryref02_Mul_l0 (N : Nat) : Int × Int × Int × Int → Option (Int) := loopF (granaryref02_Mul_b0 N) N
noncomputable def granaryref02_Mul (N : Nat) (x : Int × Int) : Option (Int) :=
  (Option.bind (granaryref02_Mul_l0 N (x.2, (0 : Int), (wrapF .i64 x.1), (0 : Int))) fun r2 =>
  (some (wrapF .u8 r2)))
noncomputable def granaryref02_power_b0 (N : Nat) (next : Int × Int × Int × Int → Option (Int)) (x : Int × Int × Int × Int) : Option (Int) :=
  (cond (decide (x.2.2.2 < x.2.1))
  (Option.bind (granaryref02_Mul N (x.2.2.1, x.1)) fun r2 =>
  (next (x.1, x.2.1, r2, (wrapF .i64 (x.2.2.2 + (1 : Int))))))
  (some x.2.2.1))
noncomputable def granaryref02_power_l0 (N : Nat) : Int × Int × Int × Int → Option (Int) := loopF (granaryref02_power_b0 N) N
noncomputable def granaryref02_power (N : Nat) (x : Int × Int) : Option (Int) :=
  (Option.bind (granaryref02_power_l0 N (x.1, x.2, (1 : Int), (0 : Int))) fun r1 =>
  (some r1))
noncomputable def granaryref02_Pow (N : Nat) (x : Int × Int) : Option (Int) :=
  (cond (decide (x.1 = (0 : Int)))
  (cond (decide (x.2 = (0 : Int)))
  (some (1 : Int))
  (some (0 : Int)))
  (let v3 : Int := (Int.tmod x.2 (255 : Int))
  (Option.bind
  (cond (decide (v3 < (0 : Int)))
  (some (wrapF .i64 (v3 + (255 : Int))))
  (some v3))
  fun r6 =>
  (Option.bind (granaryref02_power N (x.1, r6)) fun r7 =>
  (some r7)))))
noncomputable def granaryref02_Powers_b2 (N : Nat) (next : Int × Int × Int × Int × (List Int) × Int × Int → Option (((List Int) × Int × Int))) (x : Int × Int × Int × Int × (List Int) × Int × Int) : Option (((List Int) × Int × Int)) :=
  (cond (decide (x.2.2.2.1 < x.2.1))
  (let v3 : Int := (wrapF .i64 ((wrapF .i64 (x.2.2.1 * x.2.1)) + x.2.2.2.1))
  (Option.bind (granaryref02_Pow N ((wrapF .u8 x.2.2.1), x.2.2.2.1)) fun r5 =>
  (cond ((decide ((0 : Int) ≤ v3)) && (decide (v3 < (((List.length x.2.2.2.2.1) : Nat) : Int))))
  ((let v6 : Nat := (Int.toNat v3)
  (cond (decide (v6 < (List.length x.2.2.2.2.1)))
  ((next (x.1, x.2.1, x.2.2.1, (wrapF .i64 (x.2.2.2.1 + (1 : Int))), (List.set x.2.2.2.2.1 v6 r5), x.2.2.2.2.2.1, x.2.2.2.2.2.2)))
  none)))
  none)))
  (some (x.2.2.2.2.1, x.2.2.2.2.2.1, x.2.2.2.2.2.2)))
noncomputable def granaryref02_Powers_l2 (N : Nat) : Int × Int × Int × Int × (List Int) × Int × Int → Option (((List Int) × Int × Int)) := loopF (granaryref02_Powers_b2 N) N
noncomputable def granaryref02_Powers_b0 (N : Nat) (next : Int × Int × Int × (List Int) × Int × Int → Option (((List Int) × Int × Int))) (x : Int × Int × Int × (List Int) × Int × Int) : Option (((List Int) × Int × Int)) :=
  (cond (decide (x.2.2.1 < x.1))
  (Option.bind (granaryref02_Powers_l2 N (x.1, x.2.1, x.2.2.1, (0 : Int), x.2.2.2.1, x.2.2.2.2.1, x.2.2.2.2.2)) fun r2 =>
  (next (x.1, x.2.1, (wrapF .i64 (x.2.2.1 + (1 : Int))), r2.1, r2.2.1, r2.2.2)))
  (some (x.2.2.2.1, x.2.2.2.2.1, x.2.2.2.2.2)))
noncomputable def granaryref02_Powers_l0 (N : Nat) : Int × Int × Int × (List Int) × Int × Int → Option (((List Int) × Int × Int)) := loopF (granaryref02_Powers_b0 N) N
noncomputable def granaryref02_Powers (N : Nat) (x : Int × Int) : Option (Int × Int × Int × (List Int)) :=
  (Option.bind
  (cond (decide (x.1 < (1 : Int)))
  (some true)
  (cond (decide ((64 : Int) < x.1))
  (some true)
  (cond (decide (x.2 < (1 : Int)))
  (some true)
  (some (decide ((64 : Int) < x.2))))))
  fun r5 =>
  (cond r5
  (some ((0 : Int), (0 : Int), (2 : Int), ([] : List Int)))
  (Option.bind (granaryref02_New (x.1, x.2)) fun r6 =>
  (Option.bind (granaryref02_Powers_l0 N (x.1, x.2, (0 : Int), r6.2.2, r6.1, r6.2.1)) fun r7 =>
  (some (r7.2.1, r7.2.2, (0 : Int), r7.1))))))
noncomputable def granaryref02_Same_v1 (x : Int × Int × (List Int) × Int × Int × (List Int)) : Option (Bool) :=
  (Option.bind
  (cond (decide (x.1 = x.2.2.2.1))
  (cond (decide (x.2.1 = x.2.2.2.2.1))
  (some (decide ((List.map (fun (n : Int) => UInt8.ofNat n.toNat) x.2.2.1) = (List.map (fun (n : Int) => UInt8.ofNat n.toNat) x.2.2.2.2.2))))
  (some false))
  (some false))
  fun r6 =>
  (some r6))
noncomputable def granarylaw02_same (x : Int × Int × (List Int) × Int × Int × Int × (List Int) × Int) : Option (Bool) :=
  (Option.bind
  (Option.bind (granaryref02_Same_v1 (x.1, x.2.1, x.2.2.1, x.2.2.2.2.1, x.2.2.2.2.2.1, x.2.2.2.2.2.2.1)) fun r1 =>
  (cond r1
  (Option.bind (granarylaw02_num x.2.2.2.1) fun r2 =>
  (some (decide (r2 = x.2.2.2.2.2.2.2))))
  (some false)))
  fun r4 =>
  (some r4))
noncomputable def granaryref02_Inv (N : Nat) (x : Int) : Option (Int × Int) :=
  (cond (decide (x = (0 : Int)))
  (some ((0 : Int), (20 : Int)))
  (Option.bind (granaryref02_power N (x, (254 : Int))) fun r2 =>
  (some (r2, (0 : Int)))))
noncomputable def granaryref02_Div (N : Nat) (x : Int × Int) : Option (Int × Int) :=
  (Option.bind (granaryref02_Inv N x.2) fun r1 =>
  (Option.bind (granaryref02_Mul N (x.1, r1.1)) fun r2 =>
  (some (r2, r1.2))))
noncomputable def gf_made_b0 (N : Nat) (next : Int × Int × (List Int) × (List Int) → Option (((List Int) × (List Int)))) (x : Int × Int × (List Int) × (List Int)) : Option (((List Int) × (List Int))) :=
  (cond (decide (x.2.1 < (255 : Int)))
  (cond ((decide ((0 : Int) ≤ x.2.1)) && (decide (x.2.1 < (255 : Int))))
  ((let v3 : Nat := (Int.toNat x.2.1)
  (cond (decide (v3 < (List.length x.2.2.1)))
  ((cond ((decide ((0 : Int) ≤ x.1)) && (decide (x.1 < (256 : Int))))
  ((let v5 : Nat := (Int.toNat x.1)
  (cond (decide (v5 < (List.length x.2.2.2)))
  ((let v7 : Int := (wrapF .i64 (x.1 * (2 : Int)))
  (Option.bind
  (cond (decide ((255 : Int) < v7))
  (some (xorF .i64 v7 (285 : Int)))
  (some v7))
  fun r10 =>
  (next (r10, (wrapF .i64 (x.2.1 + (1 : Int))), (List.set x.2.2.1 v3 (wrapF .u8 x.1)), (List.set x.2.2.2 v5 x.2.1))))))
  none)))
  none))
  none)))
  none)
  (some (x.2.2.1, x.2.2.2)))
noncomputable def gf_made_l0 (N : Nat) : Int × Int × (List Int) × (List Int) → Option (((List Int) × (List Int))) := loopF (gf_made_b0 N) N
noncomputable def gf_made (N : Nat) (x : Unit) : Option ((List Int) × (List Int)) :=
  (Option.bind (gf_made_l0 N ((1 : Int), (0 : Int), (List.replicate 255 (EK.dflt (.int .u8))), (List.replicate 256 (EK.dflt (.int .i64))))) fun r3 =>
  (some (r3.1, r3.2)))
noncomputable def gf_Log (N : Nat) (x : Int) : Option (Int × Int) :=
  (cond (decide (x = (0 : Int)))
  (some ((0 : Int), (20 : Int)))
  (Option.bind (gf_made N ()) fun r2 =>
  (cond ((decide ((0 : Int) ≤ x)) && (decide (x < (256 : Int))))
  ((let v3 : Nat := (Int.toNat x)
  (cond (decide (v3 < (List.length r2.2)))
  ((some ((List.getD r2.2 v3 (EK.dflt (.int .i64))), (0 : Int))))
  none)))
  none)))
noncomputable def granaryref02_Log_b0 (N : Nat) (next : Int × Int × Int → Option (Int)) (x : Int × Int × Int) : Option (Int) :=
  (cond (!(decide (x.2.2 = x.1)))
  (Option.bind (granaryref02_Mul N (x.2.2, (2 : Int))) fun r3 =>
  (next (x.1, (wrapF .i64 (x.2.1 + (1 : Int))), r3)))
  (some x.2.1))
noncomputable def granaryref02_Log_l0 (N : Nat) : Int × Int × Int → Option (Int) := loopF (granaryref02_Log_b0 N) N
noncomputable def granaryref02_Log (N : Nat) (x : Int) : Option (Int × Int) :=
  (cond (decide (x = (0 : Int)))
  (some ((0 : Int), (20 : Int)))
  (Option.bind (granaryref02_Log_l0 N (x, (0 : Int), (1 : Int))) fun r2 =>
  (some (r2, (0 : Int)))))
noncomputable def gf_Exp (N : Nat) (x : Int) : Option (Int) :=
  (Option.bind (gf_Pow N ((2 : Int), x)) fun r1 =>
  (some r1))
noncomputable def slices_Index_byte_byte_b0 (N : Nat) (next : (List Int) × Int × Int × Int → Option (Int ⊕ Unit)) (x : (List Int) × Int × Int × Int) : Option (Int ⊕ Unit) :=
  (cond (decide (x.2.2.2 < x.2.2.1))
  (cond ((decide ((0 : Int) ≤ x.2.2.2)) && (decide (x.2.2.2 < (((List.length x.1) : Nat) : Int))))
  ((cond (decide (x.2.1 = (List.getD x.1 (Int.toNat x.2.2.2) (EK.dflt (.int .u8)))))
  (some (.inl x.2.2.2))
  (next (x.1, x.2.1, x.2.2.1, (wrapF .i64 (x.2.2.2 + (1 : Int)))))))
  none)
  (some (.inr (()))))
noncomputable def slices_Index_byte_byte_l0 (N : Nat) : (List Int) × Int × Int × Int → Option (Int ⊕ Unit) := loopF (slices_Index_byte_byte_b0 N) N
noncomputable def slices_Index_byte_byte (N : Nat) (x : (List Int) × Int) : Option (Int) :=
  (Option.bind (slices_Index_byte_byte_l0 N (x.1, x.2, (((List.length x.1) : Nat) : Int), (0 : Int))) fun r2 =>
  (match r2 with
  | .inl y3 =>
  (some y3)
  | .inr z4 =>
  (some (-1 : Int))))
noncomputable def slices_Contains_byte_byte (N : Nat) (x : (List Int) × Int) : Option (Bool) :=
  (Option.bind (slices_Index_byte_byte N (x.1, x.2)) fun r1 =>
  (some (decide ((0 : Int) ≤ r1))))
noncomputable def gf_Eval_st (N : Nat) (X : Int) (l : List Int) : Option Int := List.foldl (fun r c => Option.bind r fun y => Option.bind (gf_Mul N (y, X)) fun m => some (xorF .u8 m c)) (some (0 : Int)) l
structure gf_Eval_good (N : Nat) (X : Int) (zs : List Int) : Prop where
  hX : 0 ≤ X ∧ X < 256
  hz : ∀ c, c ∈ zs → 0 ≤ c ∧ c < 256
  mul : ∀ a b, 0 ≤ a → a < 256 → 0 ≤ b → b < 256 → ∃ m, gf_Mul N (a, b) = some m ∧ 0 ≤ m ∧ m < 256
  xor : ∀ a b, 0 ≤ a → a < 256 → 0 ≤ b → b < 256 → 0 ≤ xorF .u8 a b ∧ xorF .u8 a b < 256
  len : zs.length * 8 ≤ 140737488351232
noncomputable def gf_Eval (N : Nat) (x : List Int × Int) : Option (Int) :=
  @ite _ (gf_Eval_good N x.2 x.1) (Classical.propDecidable _) (gf_Eval_st N x.2 (List.reverse x.1)) none
noncomputable def gf_Through_b4 (N : Nat) (next : (List Int) × Int × Int × Int × (List Int) × Int × Int × Int × Int × (List Int) × (List Int) → Option (((List Int) × (List Int)))) (x : (List Int) × Int × Int × Int × (List Int) × Int × Int × Int × Int × (List Int) × (List Int)) : Option (((List Int) × (List Int))) :=
  (cond (decide (x.2.2.2.2.2.2.2.2.1 < x.2.2.2.2.2.2.2.1))
  (cond ((decide ((0 : Int) ≤ x.2.2.2.2.2.2.2.2.1)) && (decide (x.2.2.2.2.2.2.2.2.1 < (((List.length x.2.2.2.2.2.2.2.2.2.1) : Nat) : Int))))
  ((let v2 : Nat := (Int.toNat x.2.2.2.2.2.2.2.2.1)
  (cond (decide (v2 < (List.length x.2.2.2.2.2.2.2.2.2.1)))
  ((cond ((decide ((0 : Int) ≤ x.2.2.2.2.2.2.2.2.1)) && (decide (x.2.2.2.2.2.2.2.2.1 < (((List.length x.2.2.2.2.2.2.2.2.2.2) : Nat) : Int))))
  ((let v4 : Nat := (Int.toNat x.2.2.2.2.2.2.2.2.1)
  (cond (decide (v4 < (List.length x.2.2.2.2.2.2.2.2.2.2)))
  ((Option.bind (gf_Mul N (x.2.2.2.1, (List.getD x.2.2.2.2.2.2.2.2.2.2 v4 (EK.dflt (.int .u8))))) fun r6 =>
  (cond ((decide ((0 : Int) ≤ x.2.2.2.2.2.2.2.2.1)) && (decide (x.2.2.2.2.2.2.2.2.1 < (((List.length x.2.2.2.2.2.2.2.2.2.1) : Nat) : Int))))
  ((let v8 : Nat := (Int.toNat x.2.2.2.2.2.2.2.2.1)
  (cond (decide (v8 < (List.length x.2.2.2.2.2.2.2.2.2.1)))
  ((next (x.1, x.2.1, x.2.2.1, x.2.2.2.1, x.2.2.2.2.1, x.2.2.2.2.2.1, x.2.2.2.2.2.2.1, x.2.2.2.2.2.2.2.1, (wrapF .i64 (x.2.2.2.2.2.2.2.2.1 + (1 : Int))), (List.set x.2.2.2.2.2.2.2.2.2.1 v8 (xorF .u8 (List.getD x.2.2.2.2.2.2.2.2.2.1 v2 (EK.dflt (.int .u8))) r6)), x.2.2.2.2.2.2.2.2.2.2)))
  none)))
  none)))
  none)))
  none))
  none)))
  none)
  (some (x.2.2.2.2.2.2.2.2.2.1, x.2.2.2.2.2.2.2.2.2.2)))
noncomputable def gf_Through_l4 (N : Nat) : (List Int) × Int × Int × Int × (List Int) × Int × Int × Int × Int × (List Int) × (List Int) → Option (((List Int) × (List Int))) := loopF (gf_Through_b4 N) N
noncomputable def gf_Through_b6 (N : Nat) (next : (List Int) × Int × Int × (List Int) × Int × Int × (List Int) → Option (((List Int)))) (x : (List Int) × Int × Int × (List Int) × Int × Int × (List Int)) : Option (((List Int))) :=
  (cond (decide ((0 : Int) < x.2.2.1))
  (let v2 : Int := (wrapF .i64 (x.2.2.1 - (1 : Int)))
  (cond ((decide ((0 : Int) ≤ v2)) && (decide (v2 < (((List.length x.2.2.2.2.2.2) : Nat) : Int))))
  ((let v3 : Nat := (Int.toNat v2)
  (cond (decide (v3 < (List.length x.2.2.2.2.2.2)))
  ((cond ((decide ((0 : Int) ≤ x.2.2.1)) && (decide (x.2.2.1 < (((List.length x.2.2.2.2.2.2) : Nat) : Int))))
  ((let v5 : Nat := (Int.toNat x.2.2.1)
  (cond (decide (v5 < (List.length x.2.2.2.2.2.2)))
  ((Option.bind (gf_Mul N ((List.getD x.2.2.2.2.2.2 v5 (EK.dflt (.int .u8))), x.2.1)) fun r7 =>
  (cond ((decide ((0 : Int) ≤ x.2.2.1)) && (decide (x.2.2.1 < (((List.length x.2.2.2.2.2.2) : Nat) : Int))))
  ((let v9 : Nat := (Int.toNat x.2.2.1)
  (cond (decide (v9 < (List.length x.2.2.2.2.2.2)))
  ((next (x.1, x.2.1, (wrapF .i64 (x.2.2.1 - (1 : Int))), x.2.2.2.1, x.2.2.2.2.1, x.2.2.2.2.2.1, (List.set x.2.2.2.2.2.2 v9 (xorF .u8 (List.getD x.2.2.2.2.2.2 v3 (EK.dflt (.int .u8))) r7)))))
  none)))
  none)))
  none)))
  none))
  none)))
  none))
  (some x.2.2.2.2.2.2))
noncomputable def gf_Through_l6 (N : Nat) : (List Int) × Int × Int × (List Int) × Int × Int × (List Int) → Option (((List Int))) := loopF (gf_Through_b6 N) N
noncomputable def gf_Through_b0 (N : Nat) (next : (List Int) × (List Int) × (List Int) × Int × Int → Option (Unit ⊕ Unit)) (x : (List Int) × (List Int) × (List Int) × Int × Int) : Option (Unit ⊕ Unit) :=
  (cond (decide (x.2.2.2.2 < x.2.2.2.1))
  (cond ((decide ((0 : Int) ≤ x.2.2.2.2)) && (decide (x.2.2.2.2 < (((List.length x.2.2.1) : Nat) : Int))))
  ((cond ((decide ((0 : Int) ≤ x.2.2.2.2)) && (decide (x.2.2.2.2 ≤ (((List.length x.1) : Nat) : Int))))
  ((Option.bind (slices_Contains_byte_byte N ((List.take (Int.toNat x.2.2.2.2) (List.drop 0 x.1)), (List.getD x.2.2.1 (Int.toNat x.2.2.2.2) (EK.dflt (.int .u8))))) fun r4 =>
  (cond r4
  (some (.inl ()))
  (next (x.1, x.2.1, x.2.2.1, x.2.2.2.1, (wrapF .i64 (x.2.2.2.2 + (1 : Int))))))))
  none))
  none)
  (some (.inr (()))))
noncomputable def gf_Through_l0 (N : Nat) : (List Int) × (List Int) × (List Int) × Int × Int → Option (Unit ⊕ Unit) := loopF (gf_Through_b0 N) N
noncomputable def gf_Through_b2 (N : Nat) (next : (List Int) × (List Int) × Int × Int × (List Int) × (List Int) → Option (((List Int) × (List Int)))) (x : (List Int) × (List Int) × Int × Int × (List Int) × (List Int)) : Option (((List Int) × (List Int))) :=
  (cond (decide (x.2.2.2.1 < x.2.2.1))
  (cond ((decide ((0 : Int) ≤ x.2.2.2.1)) && (decide (x.2.2.2.1 < (((List.length x.2.1) : Nat) : Int))))
  ((let v2 : Int := (List.getD x.2.1 (Int.toNat x.2.2.2.1) (EK.dflt (.int .u8)))
  (cond ((decide ((0 : Int) ≤ x.2.2.2.1)) && (decide (x.2.2.2.1 < (((List.length x.1) : Nat) : Int))))
  ((Option.bind (gf_Eval N (x.2.2.2.2.1, v2)) fun r4 =>
  (let v6 : Int := (wrapF .i64 (x.2.2.2.1 + (1 : Int)))
  (cond ((decide ((0 : Int) ≤ v6)) && (decide (v6 ≤ (((List.length x.2.2.2.2.2) : Nat) : Int))))
  ((let v7 : Nat := (Int.toNat v6)
  (cond (cond (decide ((0 + v7) ≤ (List.length x.2.2.2.2.2))) true false)
  (Option.bind (gf_Eval N ((List.take v7 (List.drop 0 x.2.2.2.2.2)), v2)) fun r8 =>
  (Option.bind (gf_Div N ((xorF .u8 (List.getD x.1 (Int.toNat x.2.2.2.1) (EK.dflt (.int .u8))) r4), r8)) fun r9 =>
  (Option.bind (gf_Through_l4 N (x.1, x.2.2.2.1, v2, r9.1, x.2.1, x.2.2.1, x.2.2.2.1, (wrapF .i64 (x.2.2.2.1 + (1 : Int))), (0 : Int), x.2.2.2.2.1, x.2.2.2.2.2)) fun r11 =>
  (Option.bind (gf_Through_l6 N (x.1, v2, (wrapF .i64 (x.2.2.2.1 + (1 : Int))), x.2.1, x.2.2.1, x.2.2.2.1, r11.2)) fun r13 =>
  (cond (decide ((0 : Int) < (((List.length r13) : Nat) : Int)))
  ((cond (decide (0 < (List.length r13)))
  ((Option.bind (gf_Mul N ((List.getD r13 0 (EK.dflt (.int .u8))), v2)) fun r15 =>
  (cond (decide ((0 : Int) < (((List.length r13) : Nat) : Int)))
  ((cond (decide (0 < (List.length r13)))
  ((next (x.1, x.2.1, x.2.2.1, (wrapF .i64 (x.2.2.2.1 + (1 : Int))), r11.1, (List.set r13 0 r15))))
  none))
  none)))
  none))
  none)))))
  none)))
  none))))
  none)))
  none)
  (some (x.2.2.2.2.1, x.2.2.2.2.2)))
noncomputable def gf_Through_l2 (N : Nat) : (List Int) × (List Int) × Int × Int × (List Int) × (List Int) → Option (((List Int) × (List Int))) := loopF (gf_Through_b2 N) N
noncomputable def gf_Through (N : Nat) (x : (List Int) × (List Int)) : Option (Int × (List Int)) :=
  (cond (!(decide ((((List.length x.1) : Nat) : Int) = (((List.length x.2) : Nat) : Int))))
  (some ((23 : Int), ([] : List Int)))
  (Option.bind (gf_Through_l0 N (x.1, x.2, x.1, (((List.length x.1) : Nat) : Int), (0 : Int))) fun r5 =>
  (match r5 with
  | .inl y6 =>
  (some ((21 : Int), ([] : List Int)))
  | .inr z7 =>
  (let v8 : Int := (((List.length x.1) : Nat) : Int)
  (cond ((decide ((0 : Int) ≤ v8)) && (fits 1 (Int.toNat v8)))
  ((let v11 : Int := (wrapF .i64 ((((List.length x.1) : Nat) : Int) + (1 : Int)))
  (cond ((decide ((0 : Int) ≤ v11)) && (fits 1 (Int.toNat v11)))
  ((let v12 : List Int := (List.replicate (Int.toNat v11) (EK.dflt (.int .u8)))
  (cond (decide ((0 : Int) < (((List.length v12) : Nat) : Int)))
  ((cond (decide (0 < (List.length v12)))
  ((Option.bind (gf_Through_l2 N (x.2, x.1, (((List.length x.1) : Nat) : Int), (0 : Int), (List.replicate (Int.toNat v8) (EK.dflt (.int .u8))), (List.set v12 0 (1 : Int)))) fun r15 =>
  (some ((0 : Int), r15.1))))
  none))
  none)))
  none)))
  none)))))
noncomputable def gf_Sum_b0 (N : Nat) (next : (List Int) × (List Int) × Int × Int × (List Int) → Option (((List Int)))) (x : (List Int) × (List Int) × Int × Int × (List Int)) : Option (((List Int))) :=
  (cond (decide (x.2.2.2.1 < x.2.2.1))
  (cond ((decide ((0 : Int) ≤ x.2.2.2.1)) && (decide (x.2.2.2.1 < (((List.length x.2.1) : Nat) : Int))))
  ((cond ((decide ((0 : Int) ≤ x.2.2.2.1)) && (decide (x.2.2.2.1 < (((List.length x.1) : Nat) : Int))))
  ((cond ((decide ((0 : Int) ≤ x.2.2.2.1)) && (decide (x.2.2.2.1 < (((List.length x.2.2.2.2) : Nat) : Int))))
  ((let v5 : Nat := (Int.toNat x.2.2.2.1)
  (cond (decide (v5 < (List.length x.2.2.2.2)))
  ((next (x.1, x.2.1, x.2.2.1, (wrapF .i64 (x.2.2.2.1 + (1 : Int))), (List.set x.2.2.2.2 v5 (xorF .u8 (List.getD x.2.1 (Int.toNat x.2.2.2.1) (EK.dflt (.int .u8))) (List.getD x.1 (Int.toNat x.2.2.2.1) (EK.dflt (.int .u8))))))))
  none)))
  none))
  none))
  none)
  (some x.2.2.2.2))
noncomputable def gf_Sum_l0 (N : Nat) : (List Int) × (List Int) × Int × Int × (List Int) → Option (((List Int))) := loopF (gf_Sum_b0 N) N
noncomputable def gf_Sum (N : Nat) (x : (List Int) × (List Int)) : Option (Int × (List Int)) :=
  (cond (!(decide ((((List.length x.1) : Nat) : Int) = (((List.length x.2) : Nat) : Int))))
  (some ((23 : Int), ([] : List Int)))
  (let v4 : Int := (((List.length x.1) : Nat) : Int)
  (cond ((decide ((0 : Int) ≤ v4)) && (fits 1 (Int.toNat v4)))
  ((Option.bind (gf_Sum_l0 N (x.2, x.1, (((List.length x.1) : Nat) : Int), (0 : Int), (List.replicate (Int.toNat v4) (EK.dflt (.int .u8))))) fun r7 =>
  (some ((0 : Int), r7))))
  none)))
noncomputable def granaryref02_Sum_b0 (N : Nat) (next : (List Int) × (List Int) × Int × (List Int) → Option (((List Int)))) (x : (List Int) × (List Int) × Int × (List Int)) : Option (((List Int))) :=
  (cond (decide (x.2.2.1 < (((List.length x.1) : Nat) : Int)))
  (cond ((decide ((0 : Int) ≤ x.2.2.1)) && (decide (x.2.2.1 < (((List.length x.1) : Nat) : Int))))
  ((cond ((decide ((0 : Int) ≤ x.2.2.1)) && (decide (x.2.2.1 < (((List.length x.2.1) : Nat) : Int))))
  ((let v6 : List Int := ([(xorF .u8 (List.getD x.1 (Int.toNat x.2.2.1) (EK.dflt (.int .u8))) (List.getD x.2.1 (Int.toNat x.2.2.1) (EK.dflt (.int .u8))))] : List Int)
  (cond ((decide (1 ≤ (List.length v6))) && (fits 1 ((List.length x.2.2.2) + (List.length (List.take 1 (List.drop 0 v6))))))
  ((next (x.1, x.2.1, (wrapF .i64 (x.2.2.1 + (1 : Int))), (x.2.2.2 ++ (List.take 1 (List.drop 0 v6))))))
  none)))
  none))
  none)
  (some x.2.2.2))
noncomputable def granaryref02_Sum_l0 (N : Nat) : (List Int) × (List Int) × Int × (List Int) → Option (((List Int))) := loopF (granaryref02_Sum_b0 N) N
noncomputable def granaryref02_Sum (N : Nat) (x : (List Int) × (List Int)) : Option (Int × (List Int)) :=
  (cond (!(decide ((((List.length x.1) : Nat) : Int) = (((List.length x.2) : Nat) : Int))))
  (some ((23 : Int), ([] : List Int)))
  (Option.bind (granaryref02_Sum_l0 N (x.1, x.2, (0 : Int), ([] : List Int))) fun r4 =>
  (some ((0 : Int), r4))))
noncomputable def granaryref02_Through_b8 (N : Nat) (next : (List Int) × (List Int) × Int × Int × Int × Int × Int × (List Int) → Option (((List Int)))) (x : (List Int) × (List Int) × Int × Int × Int × Int × Int × (List Int)) : Option (((List Int))) :=
  (cond (decide ((0 : Int) ≤ x.2.2.2.2.2.2.1))
  (Option.bind
  (cond (decide ((0 : Int) < x.2.2.2.2.2.2.1))
  (let v3 : Int := (wrapF .i64 (x.2.2.2.2.2.2.1 - (1 : Int)))
  (cond ((decide ((0 : Int) ≤ v3)) && (decide (v3 < (((List.length x.2.2.2.2.2.2.2) : Nat) : Int))))
  ((let v4 : Nat := (Int.toNat v3)
  (cond (decide (v4 < (List.length x.2.2.2.2.2.2.2)))
  ((some (List.getD x.2.2.2.2.2.2.2 v4 (EK.dflt (.int .u8)))))
  none)))
  none))
  (some (0 : Int)))
  fun r6 =>
  (cond ((decide ((0 : Int) ≤ x.2.2.2.2.2.2.1)) && (decide (x.2.2.2.2.2.2.1 < (((List.length x.2.2.2.2.2.2.2) : Nat) : Int))))
  ((let v7 : Nat := (Int.toNat x.2.2.2.2.2.2.1)
  (cond (decide (v7 < (List.length x.2.2.2.2.2.2.2)))
  ((cond ((decide ((0 : Int) ≤ x.2.2.2.2.2.1)) && (decide (x.2.2.2.2.2.1 < (((List.length x.1) : Nat) : Int))))
  ((Option.bind (granaryref02_Mul N ((List.getD x.2.2.2.2.2.2.2 v7 (EK.dflt (.int .u8))), (List.getD x.1 (Int.toNat x.2.2.2.2.2.1) (EK.dflt (.int .u8))))) fun r10 =>
  (cond ((decide ((0 : Int) ≤ x.2.2.2.2.2.2.1)) && (decide (x.2.2.2.2.2.2.1 < (((List.length x.2.2.2.2.2.2.2) : Nat) : Int))))
  ((let v12 : Nat := (Int.toNat x.2.2.2.2.2.2.1)
  (cond (decide (v12 < (List.length x.2.2.2.2.2.2.2)))
  ((next (x.1, x.2.1, x.2.2.1, x.2.2.2.1, x.2.2.2.2.1, x.2.2.2.2.2.1, (wrapF .i64 (x.2.2.2.2.2.2.1 - (1 : Int))), (List.set x.2.2.2.2.2.2.2 v12 (xorF .u8 r6 r10)))))
  none)))
  none)))
  none))
  none)))
  none))
  (some x.2.2.2.2.2.2.2))
noncomputable def granaryref02_Through_l8 (N : Nat) : (List Int) × (List Int) × Int × Int × Int × Int × Int × (List Int) → Option (((List Int))) := loopF (granaryref02_Through_b8 N) N
noncomputable def granaryref02_Through_b2 (N : Nat) (next : (List Int) × (List Int) × Int × Int → Option (Unit ⊕ Unit)) (x : (List Int) × (List Int) × Int × Int) : Option (Unit ⊕ Unit) :=
  (cond (decide (x.2.2.2 < x.2.2.1))
  (cond ((decide ((0 : Int) ≤ x.2.2.1)) && (decide (x.2.2.1 < (((List.length x.1) : Nat) : Int))))
  ((cond ((decide ((0 : Int) ≤ x.2.2.2)) && (decide (x.2.2.2 < (((List.length x.1) : Nat) : Int))))
  ((cond (decide ((List.getD x.1 (Int.toNat x.2.2.1) (EK.dflt (.int .u8))) = (List.getD x.1 (Int.toNat x.2.2.2) (EK.dflt (.int .u8)))))
  (some (.inl ()))
  (next (x.1, x.2.1, x.2.2.1, (wrapF .i64 (x.2.2.2 + (1 : Int)))))))
  none))
  none)
  (some (.inr (()))))
noncomputable def granaryref02_Through_l2 (N : Nat) : (List Int) × (List Int) × Int × Int → Option (Unit ⊕ Unit) := loopF (granaryref02_Through_b2 N) N
noncomputable def granaryref02_Through_b6 (N : Nat) (next : (List Int) × (List Int) × Int × Int × Int × Int × (List Int) → Option ((Int × (List Int)))) (x : (List Int) × (List Int) × Int × Int × Int × Int × (List Int)) : Option ((Int × (List Int))) :=
  (cond (decide (x.2.2.2.2.2.1 < (((List.length x.1) : Nat) : Int)))
  (Option.bind
  (cond (decide (x.2.2.2.2.2.1 = x.2.2.1))
  (some (x.2.2.2.1, x.2.2.2.2.1, x.2.2.2.2.2.2))
  (Option.bind (granaryref02_Through_l8 N (x.1, x.2.1, x.2.2.1, x.2.2.2.1, x.2.2.2.2.1, x.2.2.2.2.2.1, x.2.2.2.1, x.2.2.2.2.2.2)) fun r4 =>
  (cond ((decide ((0 : Int) ≤ x.2.2.1)) && (decide (x.2.2.1 < (((List.length x.1) : Nat) : Int))))
  ((cond ((decide ((0 : Int) ≤ x.2.2.2.2.2.1)) && (decide (x.2.2.2.2.2.1 < (((List.length x.1) : Nat) : Int))))
  ((Option.bind (granaryref02_Mul N (x.2.2.2.2.1, (xorF .u8 (List.getD x.1 (Int.toNat x.2.2.1) (EK.dflt (.int .u8))) (List.getD x.1 (Int.toNat x.2.2.2.2.2.1) (EK.dflt (.int .u8)))))) fun r9 =>
  (some ((wrapF .i64 (x.2.2.2.1 + (1 : Int))), r9, r4))))
  none))
  none)))
  fun r10 =>
  (next (x.1, x.2.1, x.2.2.1, r10.1, r10.2.1, (wrapF .i64 (x.2.2.2.2.2.1 + (1 : Int))), r10.2.2)))
  (some (x.2.2.2.2.1, x.2.2.2.2.2.2)))
noncomputable def granaryref02_Through_l6 (N : Nat) : (List Int) × (List Int) × Int × Int × Int × Int × (List Int) → Option ((Int × (List Int))) := loopF (granaryref02_Through_b6 N) N
noncomputable def granaryref02_Through_b10 (N : Nat) (next : (List Int) × (List Int) × Int × Int × Int × (List Int) × (List Int) → Option (((List Int) × (List Int)))) (x : (List Int) × (List Int) × Int × Int × Int × (List Int) × (List Int)) : Option (((List Int) × (List Int))) :=
  (cond (decide (x.2.2.2.2.1 < (((List.length x.1) : Nat) : Int)))
  (cond ((decide ((0 : Int) ≤ x.2.2.2.2.1)) && (decide (x.2.2.2.2.1 < (((List.length x.2.2.2.2.2.1) : Nat) : Int))))
  ((let v3 : Nat := (Int.toNat x.2.2.2.2.1)
  (cond (decide (v3 < (List.length x.2.2.2.2.2.1)))
  ((cond ((decide ((0 : Int) ≤ x.2.2.2.2.1)) && (decide (x.2.2.2.2.1 < (((List.length x.2.2.2.2.2.2) : Nat) : Int))))
  ((let v5 : Nat := (Int.toNat x.2.2.2.2.1)
  (cond (decide (v5 < (List.length x.2.2.2.2.2.2)))
  ((Option.bind (granaryref02_Mul N (x.2.2.2.1, (List.getD x.2.2.2.2.2.2 v5 (EK.dflt (.int .u8))))) fun r7 =>
  (cond ((decide ((0 : Int) ≤ x.2.2.2.2.1)) && (decide (x.2.2.2.2.1 < (((List.length x.2.2.2.2.2.1) : Nat) : Int))))
  ((let v9 : Nat := (Int.toNat x.2.2.2.2.1)
  (cond (decide (v9 < (List.length x.2.2.2.2.2.1)))
  ((next (x.1, x.2.1, x.2.2.1, x.2.2.2.1, (wrapF .i64 (x.2.2.2.2.1 + (1 : Int))), (List.set x.2.2.2.2.2.1 v9 (xorF .u8 (List.getD x.2.2.2.2.2.1 v3 (EK.dflt (.int .u8))) r7)), x.2.2.2.2.2.2)))
  none)))
  none)))
  none)))
  none))
  none)))
  none)
  (some (x.2.2.2.2.2.1, x.2.2.2.2.2.2)))
noncomputable def granaryref02_Through_l10 (N : Nat) : (List Int) × (List Int) × Int × Int × Int × (List Int) × (List Int) → Option (((List Int) × (List Int))) := loopF (granaryref02_Through_b10 N) N
noncomputable def granaryref02_Through_b0 (N : Nat) (next : (List Int) × (List Int) × Int → Option (Unit ⊕ Unit)) (x : (List Int) × (List Int) × Int) : Option (Unit ⊕ Unit) :=
  (cond (decide (x.2.2 < (((List.length x.1) : Nat) : Int)))
  (Option.bind (granaryref02_Through_l2 N (x.1, x.2.1, x.2.2, (0 : Int))) fun r3 =>
  (match r3 with
  | .inl y4 =>
  (some (.inl ()))
  | .inr z5 =>
  (next (x.1, x.2.1, (wrapF .i64 (x.2.2 + (1 : Int)))))))
  (some (.inr (()))))
noncomputable def granaryref02_Through_l0 (N : Nat) : (List Int) × (List Int) × Int → Option (Unit ⊕ Unit) := loopF (granaryref02_Through_b0 N) N
noncomputable def granaryref02_Through_b4 (N : Nat) (next : (List Int) × (List Int) × Int × (List Int) → Option (((List Int)))) (x : (List Int) × (List Int) × Int × (List Int)) : Option (((List Int))) :=
  (cond (decide (x.2.2.1 < (((List.length x.1) : Nat) : Int)))
  (let v3 : Int := (((List.length x.1) : Nat) : Int)
  (cond ((decide ((0 : Int) ≤ v3)) && (fits 1 (Int.toNat v3)))
  ((let v4 : List Int := (List.replicate (Int.toNat v3) (EK.dflt (.int .u8)))
  (cond (decide ((0 : Int) < (((List.length v4) : Nat) : Int)))
  ((cond (decide (0 < (List.length v4)))
  ((Option.bind (granaryref02_Through_l6 N (x.1, x.2.1, x.2.2.1, (1 : Int), (1 : Int), (0 : Int), (List.set v4 0 (1 : Int)))) fun r6 =>
  (cond ((decide ((0 : Int) ≤ x.2.2.1)) && (decide (x.2.2.1 < (((List.length x.2.1) : Nat) : Int))))
  ((Option.bind (granaryref02_Div N ((List.getD x.2.1 (Int.toNat x.2.2.1) (EK.dflt (.int .u8))), r6.1)) fun r8 =>
  (Option.bind (granaryref02_Through_l10 N (x.1, x.2.1, x.2.2.1, r8.1, (0 : Int), x.2.2.2, r6.2)) fun r9 =>
  (next (x.1, x.2.1, (wrapF .i64 (x.2.2.1 + (1 : Int))), r9.1)))))
  none)))
  none))
  none)))
  none))
  (some x.2.2.2))
noncomputable def granaryref02_Through_l4 (N : Nat) : (List Int) × (List Int) × Int × (List Int) → Option (((List Int))) := loopF (granaryref02_Through_b4 N) N
noncomputable def granaryref02_Through (N : Nat) (x : (List Int) × (List Int)) : Option (Int × (List Int)) :=
  (cond (!(decide ((((List.length x.1) : Nat) : Int) = (((List.length x.2) : Nat) : Int))))
  (some ((23 : Int), ([] : List Int)))
  (Option.bind (granaryref02_Through_l0 N (x.1, x.2, (0 : Int))) fun r4 =>
  (match r4 with
  | .inl y5 =>
  (some ((21 : Int), ([] : List Int)))
  | .inr z6 =>
  (let v7 : Int := (((List.length x.1) : Nat) : Int)
  (cond ((decide ((0 : Int) ≤ v7)) && (fits 1 (Int.toNat v7)))
  ((Option.bind (granaryref02_Through_l4 N (x.1, x.2, (0 : Int), (List.replicate (Int.toNat v7) (EK.dflt (.int .u8))))) fun r9 =>
  (some ((0 : Int), r9))))
  none)))))
noncomputable def granaryref02_Scale_b0 (N : Nat) (next : Int × (List Int) × Int × (List Int) → Option (((List Int)))) (x : Int × (List Int) × Int × (List Int)) : Option (((List Int))) :=
  (cond (decide (x.2.2.1 < (((List.length x.2.1) : Nat) : Int)))
  (cond ((decide ((0 : Int) ≤ x.2.2.1)) && (decide (x.2.2.1 < (((List.length x.2.1) : Nat) : Int))))
  ((Option.bind (granaryref02_Mul N (x.1, (List.getD x.2.1 (Int.toNat x.2.2.1) (EK.dflt (.int .u8))))) fun r4 =>
  (let v5 : List Int := ([r4] : List Int)
  (cond ((decide (1 ≤ (List.length v5))) && (fits 1 ((List.length x.2.2.2) + (List.length (List.take 1 (List.drop 0 v5))))))
  ((next (x.1, x.2.1, (wrapF .i64 (x.2.2.1 + (1 : Int))), (x.2.2.2 ++ (List.take 1 (List.drop 0 v5))))))
  none))))
  none)
  (some x.2.2.2))
noncomputable def granaryref02_Scale_l0 (N : Nat) : Int × (List Int) × Int × (List Int) → Option (((List Int))) := loopF (granaryref02_Scale_b0 N) N
noncomputable def granaryref02_Scale (N : Nat) (x : Int × (List Int)) : Option ((List Int)) :=
  (Option.bind (granaryref02_Scale_l0 N (x.1, x.2, (0 : Int), ([] : List Int))) fun r1 =>
  (some r1))
noncomputable def granaryref02_Eval_b0 (N : Nat) (next : (List Int) × Int × Int × Int → Option (Int)) (x : (List Int) × Int × Int × Int) : Option (Int) :=
  (cond (decide ((0 : Int) ≤ x.2.2.2))
  (Option.bind (granaryref02_Mul N (x.2.2.1, x.2.1)) fun r2 =>
  (cond ((decide ((0 : Int) ≤ x.2.2.2)) && (decide (x.2.2.2 < (((List.length x.1) : Nat) : Int))))
  ((next (x.1, x.2.1, (xorF .u8 r2 (List.getD x.1 (Int.toNat x.2.2.2) (EK.dflt (.int .u8)))), (wrapF .i64 (x.2.2.2 - (1 : Int))))))
  none))
  (some x.2.2.1))
noncomputable def granaryref02_Eval_l0 (N : Nat) : (List Int) × Int × Int × Int → Option (Int) := loopF (granaryref02_Eval_b0 N) N
noncomputable def granaryref02_Eval (N : Nat) (x : (List Int) × Int) : Option (Int) :=
  (Option.bind (granaryref02_Eval_l0 N (x.1, x.2, (0 : Int), (wrapF .i64 ((((List.length x.1) : Nat) : Int) - (1 : Int))))) fun r3 =>
  (some r3))
end Go.Rf.W
