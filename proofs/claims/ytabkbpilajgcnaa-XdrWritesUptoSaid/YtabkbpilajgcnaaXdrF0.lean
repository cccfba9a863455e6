/-
  The printed functions: plain data in, plain data out; none: beyond the number of rounds N, or where Go would panic.
-/
import Derived.Test.YtabkbpilajgcnaaRfA
set_option linter.unusedVariables false
set_option maxRecDepth 100000
namespace Go.Rf.W
open Go Go.Rf
noncomputable def xdr_NewWriter (x : Unit) : Option (Unit) :=
  (some ())
noncomputable def xdr_Writer_bad (x : Int) : Option (Bool × Int) :=
  (some ((!(decide (x = (0 : Int)))), x))
noncomputable def octet_Lay_b0 (N : Nat) (next : Nat × Nat × Int × Int × (List Int) → Option (((List Int)))) (x : Nat × Nat × Int × Int × (List Int)) : Option (((List Int))) :=
  (cond (decide ((0 : Int) ≤ x.2.2.2.1))
  (cond ((decide ((0 : Int) ≤ x.2.2.2.1)) && (decide (x.2.2.2.1 < ((x.2.1 : Nat) : Int))))
  ((let v3 : Nat := ((Int.toNat x.2.2.2.1) + x.1)
  (cond (decide (v3 < (List.length x.2.2.2.2)))
  ((next (x.1, x.2.1, (shrF .u64 x.2.2.1 (8 : Int)), (wrapF .i64 (x.2.2.2.1 - (1 : Int))), (List.set x.2.2.2.2 v3 (wrapF .u8 x.2.2.1)))))
  none)))
  none)
  (some x.2.2.2.2))
noncomputable def octet_Lay_l0 (N : Nat) : Nat × Nat × Int × Int × (List Int) → Option (((List Int))) := loopF (octet_Lay_b0 N) N
noncomputable def octet_Lay (N : Nat) (x : Nat × Nat × Int × (List Int)) : Option ((List Int)) :=
  (Option.bind (octet_Lay_l0 N (x.1, x.2.1, x.2.2.1, (wrapF .i64 (((x.2.1 : Nat) : Int) - (1 : Int))), x.2.2.2)) fun r3 =>
  (some r3))
noncomputable def octet_Put (N : Nat) (x : Int × Int) : Option ((List Int)) :=
  (cond (((decide ((0 : Int) ≤ x.2)) && (fits 1 (Int.toNat x.2))) && (fits 1 (List.length (List.replicate (Int.toNat x.2) (EK.dflt (.int .u8))))))
  ((let v1 : List Int := (List.replicate (Int.toNat x.2) (EK.dflt (.int .u8)))
  (let v3 : Int := (wrapF .i64 ((((List.length v1) : Nat) : Int) - x.2))
  (cond (((decide ((0 : Int) ≤ v3)) && (decide (v3 ≤ (((List.length v1) : Nat) : Int)))) && (decide ((((List.length v1) : Nat) : Int) ≤ (((List.length v1) : Nat) : Int))))
  ((Option.bind (octet_Lay N ((Int.toNat v3), ((List.length v1) - (Int.toNat v3)), x.1, v1)) fun r6 =>
  (some r6)))
  none))))
  none)
noncomputable def xdr_Writer_Uint (N : Nat) (x : Int × Int) : Option (Int × (List Int)) :=
  (Option.bind (xdr_Writer_bad x.2) fun r1 =>
  (Option.bind
  (cond (!r1.1)
  (Option.bind (octet_Put N ((wrapF .u64 x.1), (4 : Int))) fun r4 =>
  (some r4))
  (some ([] : List Int)))
  fun r5 =>
  (some (r1.2, r5))))
noncomputable def xdr_Writer_bad_v1 (x : Int × (List Int)) : Option (Bool × Int × (List Int)) :=
  (some ((!(decide (x.1 = (0 : Int)))), x.1, x.2))
noncomputable def xdr_Writer_fits (x : Int × Int × Int × (List Int)) : Option (Bool × Int × (List Int)) :=
  (Option.bind (xdr_Writer_bad_v1 (x.2.2.1, x.2.2.2)) fun r1 =>
  (cond r1.1
  (some (false, r1.2.1, r1.2.2))
  (Option.bind
  (cond (decide (x.2.1 < x.1))
  (some (1 : Int))
  (some r1.2.1))
  fun r3 =>
  (some ((decide (x.1 ≤ x.2.1)), r3, r1.2.2)))))
noncomputable def octet_Put_v1 (N : Nat) (x : Int × Int × (List Int)) : Option ((List Int)) :=
  (cond (((decide ((0 : Int) ≤ x.2.1)) && (fits 1 (Int.toNat x.2.1))) && (fits 1 ((List.length x.2.2) + (List.length (List.replicate (Int.toNat x.2.1) (EK.dflt (.int .u8)))))))
  ((let v1 : List Int := (x.2.2 ++ (List.replicate (Int.toNat x.2.1) (EK.dflt (.int .u8))))
  (let v3 : Int := (wrapF .i64 ((((List.length v1) : Nat) : Int) - x.2.1))
  (cond (((decide ((0 : Int) ≤ v3)) && (decide (v3 ≤ (((List.length v1) : Nat) : Int)))) && (decide ((((List.length v1) : Nat) : Int) ≤ (((List.length v1) : Nat) : Int))))
  ((Option.bind (octet_Lay N ((Int.toNat v3), ((List.length v1) - (Int.toNat v3)), x.1, v1)) fun r6 =>
  (some r6)))
  none))))
  none)
noncomputable def xdr_Writer_Uint_v1 (N : Nat) (x : Int × Int × (List Int)) : Option (Int × (List Int)) :=
  (Option.bind (xdr_Writer_bad_v1 (x.2.1, x.2.2)) fun r1 =>
  (Option.bind
  (cond (!r1.1)
  (Option.bind (octet_Put_v1 N ((wrapF .u64 x.1), (4 : Int), r1.2.2)) fun r4 =>
  (some r4))
  (some r1.2.2))
  fun r5 =>
  (some (r1.2.1, r5))))
noncomputable def xdr_padding (x : Int) : Option (Int) :=
  (some (Int.tmod (wrapF .i64 ((4 : Int) - (Int.tmod x (4 : Int)))) (4 : Int)))
noncomputable def xdr_Writer_Fixed_b0 (N : Nat) (next : Int × Int × (List Int) → Option (((List Int)))) (x : Int × Int × (List Int)) : Option (((List Int))) :=
  (cond (decide (x.2.1 < x.1))
  (let v2 : List Int := ([(0 : Int)] : List Int)
  (cond ((decide (1 ≤ (List.length v2))) && (fits 1 ((List.length x.2.2) + (List.length (List.take 1 (List.drop 0 v2))))))
  ((next (x.1, (wrapF .i64 (x.2.1 + (1 : Int))), (x.2.2 ++ (List.take 1 (List.drop 0 v2))))))
  none))
  (some x.2.2))
noncomputable def xdr_Writer_Fixed_l0 (N : Nat) : Int × Int × (List Int) → Option (((List Int))) := loopF (xdr_Writer_Fixed_b0 N) N
noncomputable def xdr_Writer_Fixed (N : Nat) (x : (List Int) × Int × (List Int)) : Option (Int × (List Int)) :=
  (Option.bind (xdr_Writer_bad_v1 (x.2.1, x.2.2)) fun r1 =>
  (cond r1.1
  (some (r1.2.1, r1.2.2))
  (cond (fits 1 ((List.length r1.2.2) + (List.length x.1)))
  ((Option.bind (xdr_padding (((List.length x.1) : Nat) : Int)) fun r4 =>
  (Option.bind (xdr_Writer_Fixed_l0 N (r4, (0 : Int), (r1.2.2 ++ x.1))) fun r5 =>
  (some (r1.2.1, r5)))))
  none)))
noncomputable def xdr_Writer_Opaque (N : Nat) (x : (List Int) × Int × Int × (List Int)) : Option (Int × (List Int)) :=
  (Option.bind (xdr_Writer_fits ((((List.length x.1) : Nat) : Int), x.2.1, x.2.2.1, x.2.2.2)) fun r2 =>
  (Option.bind
  (cond r2.1
  (Option.bind (xdr_Writer_Uint_v1 N ((wrapF .u32 (((List.length x.1) : Nat) : Int)), r2.2.1, r2.2.2)) fun r5 =>
  (Option.bind (xdr_Writer_Fixed N (x.1, r5.1, r5.2)) fun r6 =>
  (some (r6.1, r6.2))))
  (some (r2.2.1, r2.2.2)))
  fun r7 =>
  (some (r7.1, r7.2))))
noncomputable def xdr_Writer_Text (N : Nat) (x : (List UInt8) × Int × Int × (List Int)) : Option (Int × (List Int)) :=
  (Option.bind (xdr_Writer_Opaque N ((List.map (fun b => (b.toNat : Int)) x.1), x.2.1, x.2.2.1, x.2.2.2)) fun r2 =>
  (some (r2.1, r2.2)))
noncomputable def slices_Clone_byte_byte (x : (List Int)) : Option ((List Int)) :=
  (agreeC (decide ((List.length x) = 0)) false
  (some ([] : List Int))
  (cond (fits 1 (List.length x))
  ((some x))
  none))
noncomputable def xdr_Writer_Bytes (x : Int × (List Int)) : Option (Int × (List Int) × (List Int)) :=
  (Option.bind (slices_Clone_byte_byte x.2) fun r1 =>
  (some (x.1, x.2, r1)))
noncomputable def slices_Clone_byte_byte_v1 (x : (List Int)) : Option ((List Int)) :=
  (agreeC (decide ((List.length x) = 0)) false
  (some ([] : List Int))
  (cond (fits 1 (List.length x))
  ((some x))
  none))
noncomputable def xdr_NewReader (x : (List Int)) : Option ((List Int)) :=
  (Option.bind (slices_Clone_byte_byte_v1 x) fun r1 =>
  (some r1))
noncomputable def xdr_Reader_At (x : Int × Int × Int × (List Int)) : Option (Int × Int × Int × Int × (List Int)) :=
  (some (x.1, x.1, x.2.1, x.2.2.1, x.2.2.2))
noncomputable def xdr_Reader_bad (x : Int × Int × Int × (List Int)) : Option (Bool × Int × Int × Int × (List Int)) :=
  (some ((!(decide (x.2.1 = (0 : Int)))), x.1, x.2.1, x.2.2.1, x.2.2.2))
noncomputable def xdr_Reader_fails (x : Int × Int × Int × Int × Int × (List Int)) : Option (Int × Int × Int × (List Int)) :=
  (Option.bind (xdr_Reader_bad (x.2.2.1, x.2.2.2.1, x.2.2.2.2.1, x.2.2.2.2.2)) fun r1 =>
  (Option.bind
  (cond (!r1.1)
  (some (x.2.1, x.1, x.2.1))
  (some (r1.2.1, r1.2.2.1, r1.2.2.2.1)))
  fun r3 =>
  (some (r3.1, r3.2.1, r3.2.2, r1.2.2.2.2))))
noncomputable def xdr_Reader_take (x : Int × Int × Int × Int × Int × (List Int)) : Option ((Int × Int × Int × (List Int)) ⊕ (Nat × Nat × Int × Int × Int × (List Int))) :=
  (Option.bind (xdr_Reader_bad (x.2.2.1, x.2.2.2.1, x.2.2.2.2.1, x.2.2.2.2.2)) fun r1 =>
  (cond r1.1
  (some (.inl (r1.2.1, r1.2.2.1, r1.2.2.2.1, r1.2.2.2.2)))
  (cond (decide ((wrapF .i64 ((((List.length r1.2.2.2.2) : Nat) : Int) - r1.2.1)) < x.1))
  (Option.bind (xdr_Reader_fails ((3 : Int), x.2.1, r1.2.1, r1.2.2.1, r1.2.2.2.1, r1.2.2.2.2)) fun r5 =>
  (some (.inl (r5.1, r5.2.1, r5.2.2.1, r5.2.2.2))))
  (let v6 : Int := (wrapF .i64 (r1.2.1 + x.1))
  (cond (((decide ((0 : Int) ≤ r1.2.1)) && (decide (r1.2.1 ≤ v6))) && (decide (v6 ≤ (((List.length r1.2.2.2.2) : Nat) : Int))))
  ((some (.inr (((Int.toNat r1.2.1), ((Int.toNat v6) - (Int.toNat r1.2.1)), (wrapF .i64 (r1.2.1 + x.1)), r1.2.2.1, r1.2.2.2.1, r1.2.2.2.2)))))
  none)))))
noncomputable def octet_Get_b0 (N : Nat) (next : Int × (List Int) × Int × Int → Option (Int)) (x : Int × (List Int) × Int × Int) : Option (Int) :=
  (cond (decide (x.2.2.2 < x.2.2.1))
  (cond ((decide ((0 : Int) ≤ x.2.2.2)) && (decide (x.2.2.2 < (((List.length x.2.1) : Nat) : Int))))
  ((next ((orF .u64 (shlF .u64 x.1 (8 : Int)) (wrapF .u64 (List.getD x.2.1 (Int.toNat x.2.2.2) (EK.dflt (.int .u8))))), x.2.1, x.2.2.1, (wrapF .i64 (x.2.2.2 + (1 : Int))))))
  none)
  (some x.1))
noncomputable def octet_Get_l0 (N : Nat) : Int × (List Int) × Int × Int → Option (Int) := loopF (octet_Get_b0 N) N
noncomputable def octet_Get (N : Nat) (x : (List Int)) : Option (Int) :=
  (Option.bind (octet_Get_l0 N ((0 : Int), x, (((List.length x) : Nat) : Int), (0 : Int))) fun r2 =>
  (some r2))
noncomputable def xdr_Reader_Uint (N : Nat) (x : Int × Int × Int × (List Int)) : Option (Int × Int × Int × Int × (List Int)) :=
  (Option.bind (xdr_Reader_At (x.1, x.2.1, x.2.2.1, x.2.2.2)) fun r1 =>
  (Option.bind (xdr_Reader_take ((4 : Int), r1.1, r1.2.1, r1.2.2.1, r1.2.2.2.1, r1.2.2.2.2)) fun r2 =>
  (match r2 with
  | .inl y3 =>
  (some ((0 : Int), y3.1, y3.2.1, y3.2.2.1, y3.2.2.2))
  | .inr z4 =>
  (agreeC (decide (z4.2.1 = 0)) false
  (some ((0 : Int), z4.2.2.1, z4.2.2.2.1, z4.2.2.2.2.1, z4.2.2.2.2.2))
  (cond (decide ((4 : Int) ≤ ((z4.2.1 : Nat) : Int)))
  ((let v5 : Nat := (0 + z4.1)
  (cond (cond (decide ((v5 + 4) ≤ (List.length z4.2.2.2.2.2))) true false)
  (Option.bind (octet_Get N (List.take 4 (List.drop v5 z4.2.2.2.2.2))) fun r6 =>
  (some ((wrapF .u32 r6), z4.2.2.1, z4.2.2.2.1, z4.2.2.2.2.1, z4.2.2.2.2.2)))
  none)))
  none)))))
noncomputable def xdr_Reader_length (N : Nat) (x : Int × Int × Int × Int × (List Int)) : Option (Int × Int × Int × Int × (List Int)) :=
  (Option.bind (xdr_Reader_At (x.2.1, x.2.2.1, x.2.2.2.1, x.2.2.2.2)) fun r1 =>
  (Option.bind (xdr_Reader_Uint N (r1.2.1, r1.2.2.1, r1.2.2.2.1, r1.2.2.2.2)) fun r2 =>
  (let v3 : Int := (wrapF .i64 r2.1)
  (Option.bind
  (Option.bind (xdr_Reader_bad (r2.2.1, r2.2.2.1, r2.2.2.2.1, r2.2.2.2.2)) fun r4 =>
  (cond (!r4.1)
  (some ((decide (x.1 < v3)), r4.2.1, r4.2.2.1, r4.2.2.2.1, r4.2.2.2.2))
  (some (false, r4.2.1, r4.2.2.1, r4.2.2.2.1, r4.2.2.2.2))))
  fun r7 =>
  (cond r7.1
  (Option.bind (xdr_Reader_fails ((1 : Int), r1.1, r7.2.1, r7.2.2.1, r7.2.2.2.1, r7.2.2.2.2)) fun r8 =>
  (some ((0 : Int), r8.1, r8.2.1, r8.2.2.1, r8.2.2.2)))
  (some (v3, r7.2.1, r7.2.2.1, r7.2.2.2.1, r7.2.2.2.2)))))))
noncomputable def xdr_Reader_fixed_b0 (N : Nat) (next : Int × Int × Nat × Nat × Nat × Nat × Int × Int × Int × Int × Int × (List Int) → Option ((Int × Int × Int × (List Int)) ⊕ (Int × Int × Int × (List Int)))) (x : Int × Int × Nat × Nat × Nat × Nat × Int × Int × Int × Int × Int × (List Int)) : Option ((Int × Int × Int × (List Int)) ⊕ (Int × Int × Int × (List Int))) :=
  (cond (decide (x.2.2.2.2.2.2.2.1 < x.2.2.2.2.2.2.1))
  (cond ((decide ((0 : Int) ≤ x.2.2.2.2.2.2.2.1)) && (decide (x.2.2.2.2.2.2.2.1 < ((x.2.2.2.2.2.1 : Nat) : Int))))
  ((let v2 : Nat := ((Int.toNat x.2.2.2.2.2.2.2.1) + x.2.2.2.2.1)
  (cond (decide (v2 < (List.length x.2.2.2.2.2.2.2.2.2.2.2)))
  ((cond (!(decide ((List.getD x.2.2.2.2.2.2.2.2.2.2.2 v2 (EK.dflt (.int .u8))) = (0 : Int))))
  (Option.bind (xdr_Reader_fails ((11 : Int), x.2.1, x.2.2.2.2.2.2.2.2.1, x.2.2.2.2.2.2.2.2.2.1, x.2.2.2.2.2.2.2.2.2.2.1, x.2.2.2.2.2.2.2.2.2.2.2)) fun r5 =>
  (some (.inl (r5.1, r5.2.1, r5.2.2.1, r5.2.2.2))))
  (next (x.1, x.2.1, x.2.2.1, x.2.2.2.1, x.2.2.2.2.1, x.2.2.2.2.2.1, x.2.2.2.2.2.2.1, (wrapF .i64 (x.2.2.2.2.2.2.2.1 + (1 : Int))), x.2.2.2.2.2.2.2.2.1, x.2.2.2.2.2.2.2.2.2.1, x.2.2.2.2.2.2.2.2.2.2.1, x.2.2.2.2.2.2.2.2.2.2.2))))
  none)))
  none)
  (some (.inr ((x.2.2.2.2.2.2.2.2.1, x.2.2.2.2.2.2.2.2.2.1, x.2.2.2.2.2.2.2.2.2.2.1, x.2.2.2.2.2.2.2.2.2.2.2)))))
noncomputable def xdr_Reader_fixed_l0 (N : Nat) : Int × Int × Nat × Nat × Nat × Nat × Int × Int × Int × Int × Int × (List Int) → Option ((Int × Int × Int × (List Int)) ⊕ (Int × Int × Int × (List Int))) := loopF (xdr_Reader_fixed_b0 N) N
noncomputable def xdr_Reader_fixed (N : Nat) (x : Int × Int × Int × Int × Int × (List Int)) : Option (Int × Int × Int × (List Int) × (List Int)) :=
  (Option.bind
  (Option.bind (xdr_Reader_bad (x.2.2.1, x.2.2.2.1, x.2.2.2.2.1, x.2.2.2.2.2)) fun r1 =>
  (cond r1.1
  (some (true, r1.2.1, r1.2.2.1, r1.2.2.2.1, r1.2.2.2.2))
  (some ((decide (x.1 ≤ (0 : Int))), r1.2.1, r1.2.2.1, r1.2.2.2.1, r1.2.2.2.2))))
  fun r3 =>
  (cond r3.1
  (some (r3.2.1, r3.2.2.1, r3.2.2.2.1, r3.2.2.2.2, ([] : List Int)))
  (cond (decide ((((List.length r3.2.2.2.2) : Nat) : Int) < x.1))
  (Option.bind (xdr_Reader_fails ((3 : Int), x.2.1, r3.2.1, r3.2.2.1, r3.2.2.2.1, r3.2.2.2.2)) fun r6 =>
  (some (r6.1, r6.2.1, r6.2.2.1, r6.2.2.2, ([] : List Int))))
  (Option.bind (xdr_padding x.1) fun r7 =>
  (Option.bind (xdr_Reader_take ((wrapF .i64 (x.1 + r7)), x.2.1, r3.2.1, r3.2.2.1, r3.2.2.2.1, r3.2.2.2.2)) fun r9 =>
  (match r9 with
  | .inl y10 =>
  (some (y10.1, y10.2.1, y10.2.2.1, y10.2.2.2, ([] : List Int)))
  | .inr z11 =>
  (agreeC (decide (z11.2.1 = 0)) false
  (some (z11.2.2.1, z11.2.2.2.1, z11.2.2.2.2.1, z11.2.2.2.2.2, ([] : List Int)))
  (cond (((decide ((0 : Int) ≤ x.1)) && (decide (x.1 ≤ ((z11.2.1 : Nat) : Int)))) && (decide (((z11.2.1 : Nat) : Int) ≤ ((z11.2.1 : Nat) : Int))))
  ((let v13 : Nat := (z11.2.1 - (Int.toNat x.1))
  (Option.bind (xdr_Reader_fixed_l0 N (x.1, x.2.1, z11.1, z11.2.1, ((Int.toNat x.1) + z11.1), v13, ((v13 : Nat) : Int), (0 : Int), z11.2.2.1, z11.2.2.2.1, z11.2.2.2.2.1, z11.2.2.2.2.2)) fun r15 =>
  (match r15 with
  | .inl y16 =>
  (some (y16.1, y16.2.1, y16.2.2.1, y16.2.2.2, ([] : List Int)))
  | .inr z17 =>
  (cond ((decide ((0 : Int) ≤ x.1)) && (decide (x.1 ≤ ((z11.2.1 : Nat) : Int))))
  ((let v18 : Nat := (0 + z11.1)
  (let v19 : Nat := (Int.toNat x.1)
  (cond (cond (decide ((v18 + v19) ≤ (List.length z17.2.2.2))) true false)
  (Option.bind (slices_Clone_byte_byte (List.take v19 (List.drop v18 z17.2.2.2))) fun r20 =>
  (some (z17.1, z17.2.1, z17.2.2.1, z17.2.2.2, r20)))
  none))))
  none)))))
  none))))))))
noncomputable def xdr_Reader_Opaque (N : Nat) (x : Int × Int × Int × Int × (List Int)) : Option (Int × Int × Int × (List Int) × (List Int)) :=
  (Option.bind (xdr_Reader_At (x.2.1, x.2.2.1, x.2.2.2.1, x.2.2.2.2)) fun r1 =>
  (Option.bind (xdr_Reader_length N (x.1, r1.2.1, r1.2.2.1, r1.2.2.2.1, r1.2.2.2.2)) fun r2 =>
  (Option.bind (xdr_Reader_fixed N (r2.1, r1.1, r2.2.1, r2.2.2.1, r2.2.2.2.1, r2.2.2.2.2)) fun r3 =>
  (some (r3.1, r3.2.1, r3.2.2.1, r3.2.2.2.1, r3.2.2.2.2)))))
noncomputable def xdr_Reader_Text (N : Nat) (x : Int × Int × Int × Int × (List Int)) : Option ((List UInt8) × Int × Int × Int × (List Int)) :=
  (Option.bind (xdr_Reader_Opaque N (x.1, x.2.1, x.2.2.1, x.2.2.2.1, x.2.2.2.2)) fun r2 =>
  (some ((List.map (fun (n : Int) => UInt8.ofNat n.toNat) r2.2.2.2.2), r2.1, r2.2.1, r2.2.2.1, r2.2.2.2.1)))
noncomputable def xdr_Reader_Done (x : Int × Int × Int × (List Int)) : Option (Int × Int × Int × Int × (List Int)) :=
  (Option.bind
  (cond (decide (x.2.1 = (0 : Int)))
  (some (decide (x.1 < (((List.length x.2.2.2) : Nat) : Int))))
  (some false))
  fun r4 =>
  (cond r4
  (some ((4 : Int), x.1, x.2.1, x.2.2.1, x.2.2.2))
  (some (x.2.1, x.1, x.2.1, x.2.2.1, x.2.2.2))))
noncomputable def granarylaw01_num (x : Int) : Option (Int) :=
  (some x)
noncomputable def xdr_Reader_most (N : Nat) (x : Int × Int × Int × Int × Int × (List Int)) : Option (Int × Int × Int × Int × (List Int)) :=
  (Option.bind (xdr_Reader_At (x.2.2.1, x.2.2.2.1, x.2.2.2.2.1, x.2.2.2.2.2)) fun r1 =>
  (Option.bind (xdr_Reader_Uint N (r1.2.1, r1.2.2.1, r1.2.2.2.1, r1.2.2.2.2)) fun r2 =>
  (cond (decide (x.1 < r2.1))
  (Option.bind (xdr_Reader_fails (x.2.1, r1.1, r2.2.1, r2.2.2.1, r2.2.2.2.1, r2.2.2.2.2)) fun r4 =>
  (some ((0 : Int), r4.1, r4.2.1, r4.2.2.1, r4.2.2.2)))
  (some (r2.1, r2.2.1, r2.2.2.1, r2.2.2.2.1, r2.2.2.2.2)))))
noncomputable def xdr_Reader_Bool (N : Nat) (x : Int × Int × Int × (List Int)) : Option (Bool × Int × Int × Int × (List Int)) :=
  (Option.bind (xdr_Reader_most N ((1 : Int), (10 : Int), x.1, x.2.1, x.2.2.1, x.2.2.2)) fun r1 =>
  (some ((decide (r1.1 = (1 : Int))), r1.2.1, r1.2.2.1, r1.2.2.2.1, r1.2.2.2.2)))
noncomputable def xdr_Reader_Why (x : Int × Int × Int × (List Int)) : Option (Int × Int × Int × Int × Int × (List Int)) :=
  (some (x.2.1, x.2.2.1, x.1, x.2.1, x.2.2.1, x.2.2.2))
noncomputable def granarylaw01_live (N : Nat) (x : Unit) : Option (Bool) :=
  (Option.bind (xdr_NewWriter ()) fun r1 =>
  (Option.bind (xdr_Writer_Uint N ((258 : Int), (0 : Int))) fun r2 =>
  (Option.bind (xdr_Writer_Text N (([97, 98] : List UInt8), (9 : Int), r2.1, r2.2)) fun r3 =>
  (Option.bind (xdr_Writer_Bytes (r3.1, r3.2)) fun r4 =>
  (Option.bind (xdr_NewReader r4.2.2) fun r5 =>
  (Option.bind
  (Option.bind (xdr_Writer_Bytes (r4.1, r4.2.1)) fun r6 =>
  (cond (!(decide ((List.map (fun (n : Int) => UInt8.ofNat n.toNat) r6.2.2) = ([0, 0, 1, 2, 0, 0, 0, 2, 97, 98, 0, 0] : List UInt8))))
  (some (true, r6.1, r6.2.1, (0 : Int), (0 : Int), (0 : Int), r5))
  (Option.bind (xdr_Reader_Uint N ((0 : Int), (0 : Int), (0 : Int), r5)) fun r9 =>
  (cond (!(decide (r9.1 = (258 : Int))))
  (some (true, r6.1, r6.2.1, r9.2.1, r9.2.2.1, r9.2.2.2.1, r9.2.2.2.2))
  (Option.bind (xdr_Reader_Text N ((9 : Int), r9.2.1, r9.2.2.1, r9.2.2.2.1, r9.2.2.2.2)) fun r11 =>
  (cond (!(decide (r11.1 = ([97, 98] : List UInt8))))
  (some (true, r6.1, r6.2.1, r11.2.1, r11.2.2.1, r11.2.2.2.1, r11.2.2.2.2))
  (Option.bind (xdr_Reader_Done (r11.2.1, r11.2.2.1, r11.2.2.2.1, r11.2.2.2.2)) fun r13 =>
  (Option.bind (granarylaw01_num r13.1) fun r14 =>
  (some ((!(decide (r14 = (0 : Int)))), r6.1, r6.2.1, r13.2.1, r13.2.2.1, r13.2.2.2.1, r13.2.2.2.2))))))))))
  fun r16 =>
  (cond r16.1
  (some false)
  (let v17 : List Int := ([(0 : Int), (0 : Int), (0 : Int), (2 : Int)] : List Int)
  (cond (cond (decide (4 ≤ (List.length v17))) true false)
  (Option.bind (xdr_NewReader (List.take 4 (List.drop 0 v17))) fun r18 =>
  (Option.bind (xdr_Reader_Bool N ((0 : Int), (0 : Int), (0 : Int), r18)) fun r19 =>
  (cond r19.1
  (some false)
  (Option.bind (xdr_Reader_Why (r19.2.1, r19.2.2.1, r19.2.2.2.1, r19.2.2.2.2)) fun r20 =>
  (Option.bind (granarylaw01_num r20.1) fun r21 =>
  (some (decide (r21 = (10 : Int)))))))))
  none)))))))))
noncomputable def xdr_Writer_Bool_v1 (N : Nat) (x : Bool × Int) : Option (Int × (List Int)) :=
  (cond x.1
  (Option.bind (xdr_Writer_Uint N ((1 : Int), x.2)) fun r1 =>
  (some (r1.1, r1.2)))
  (Option.bind (xdr_Writer_Uint N ((0 : Int), x.2)) fun r2 =>
  (some (r2.1, r2.2))))
noncomputable def xdr_Writer_Why_v1 (x : Int × (List Int)) : Option (Int × Int × (List Int)) :=
  (some (x.1, x.1, x.2))
noncomputable def xdr_Writer_fits_v2 (x : Int × Int × Int) : Option (Bool × Int) :=
  (Option.bind (xdr_Writer_bad x.2.2) fun r1 =>
  (cond r1.1
  (some (false, r1.2))
  (Option.bind
  (cond (decide (x.2.1 < x.1))
  (some (1 : Int))
  (some r1.2))
  fun r3 =>
  (some ((decide (x.1 ≤ x.2.1)), r3)))))
noncomputable def xdr_Writer_Opaque_v3 (N : Nat) (x : (List Int) × Int × Int) : Option (Int × (List Int)) :=
  (Option.bind (xdr_Writer_fits_v2 ((((List.length x.1) : Nat) : Int), x.2.1, x.2.2)) fun r2 =>
  (Option.bind
  (cond r2.1
  (Option.bind (xdr_Writer_Uint N ((wrapF .u32 (((List.length x.1) : Nat) : Int)), r2.2)) fun r5 =>
  (Option.bind (xdr_Writer_Fixed N (x.1, r5.1, r5.2)) fun r6 =>
  (some (r6.1, r6.2))))
  (some (r2.2, ([] : List Int))))
  fun r7 =>
  (some (r7.1, r7.2))))
noncomputable def xdr_Writer_Text_v2 (N : Nat) (x : (List UInt8) × Int × Int) : Option (Int × (List Int)) :=
  (Option.bind (xdr_Writer_Opaque_v3 N ((List.map (fun b => (b.toNat : Int)) x.1), x.2.1, x.2.2)) fun r2 =>
  (some (r2.1, r2.2)))
noncomputable def granarylaw01_putText (N : Nat) (x : (List UInt8) × Int × (List Int)) : Option (Int × (List Int)) :=
  (Option.bind (xdr_Writer_Text N (x.1, (7 : Int), x.2.1, x.2.2)) fun r1 =>
  (some (r1.1, r1.2)))
noncomputable def xdr_Writer_Bool_v2 (N : Nat) (x : Bool × Int × (List Int)) : Option (Int × (List Int)) :=
  (cond x.1
  (Option.bind (xdr_Writer_Uint_v1 N ((1 : Int), x.2.1, x.2.2)) fun r1 =>
  (some (r1.1, r1.2)))
  (Option.bind (xdr_Writer_Uint_v1 N ((0 : Int), x.2.1, x.2.2)) fun r2 =>
  (some (r2.1, r2.2))))
noncomputable def xdr_Writer_Int_v1 (N : Nat) (x : Int × Int × (List Int)) : Option (Int × (List Int)) :=
  (Option.bind (xdr_Writer_Uint_v1 N ((wrapF .u32 x.1), x.2.1, x.2.2)) fun r2 =>
  (some (r2.1, r2.2)))
noncomputable def xdr_Writer_Hyper_v1 (N : Nat) (x : Int × Int × (List Int)) : Option (Int × (List Int)) :=
  (Option.bind (xdr_Writer_bad_v1 (x.2.1, x.2.2)) fun r1 =>
  (Option.bind
  (cond (!r1.1)
  (Option.bind (octet_Put_v1 N (x.1, (8 : Int), r1.2.2)) fun r3 =>
  (some r3))
  (some r1.2.2))
  fun r4 =>
  (some (r1.2.1, r4))))
noncomputable def granarylaw01_putNum (N : Nat) (x : Int × Int × (List Int)) : Option (Int × (List Int)) :=
  (Option.bind (xdr_Writer_Uint_v1 N (x.1, x.2.1, x.2.2)) fun r1 =>
  (some (r1.1, r1.2)))
noncomputable def xdr_PutList_uint32_v1_b0 (N : Nat) (next : (List Int) × Int × Int × Int × (List Int) → Option ((Int × (List Int)))) (x : (List Int) × Int × Int × Int × (List Int)) : Option ((Int × (List Int))) :=
  (cond (decide (x.2.2.1 < x.2.1))
  (cond ((decide ((0 : Int) ≤ x.2.2.1)) && (decide (x.2.2.1 < (((List.length x.1) : Nat) : Int))))
  ((Option.bind (granarylaw01_putNum N ((List.getD x.1 (Int.toNat x.2.2.1) (EK.dflt (.int .u32))), x.2.2.2.1, x.2.2.2.2)) fun r3 =>
  (next (x.1, x.2.1, (wrapF .i64 (x.2.2.1 + (1 : Int))), r3.1, r3.2))))
  none)
  (some (x.2.2.2.1, x.2.2.2.2)))
noncomputable def xdr_PutList_uint32_v1_l0 (N : Nat) : (List Int) × Int × Int × Int × (List Int) → Option ((Int × (List Int))) := loopF (xdr_PutList_uint32_v1_b0 N) N
noncomputable def xdr_PutList_uint32_v1 (N : Nat) (x : (List Int) × Int × Int × (List Int)) : Option (Int × (List Int)) :=
  (Option.bind (xdr_Writer_fits ((((List.length x.1) : Nat) : Int), x.2.1, x.2.2.1, x.2.2.2)) fun r2 =>
  (cond (!r2.1)
  (some (r2.2.1, r2.2.2))
  (Option.bind (xdr_Writer_Uint_v1 N ((wrapF .u32 (((List.length x.1) : Nat) : Int)), r2.2.1, r2.2.2)) fun r6 =>
  (Option.bind (xdr_PutList_uint32_v1_l0 N (x.1, (((List.length x.1) : Nat) : Int), (0 : Int), r6.1, r6.2)) fun r8 =>
  (some (r8.1, r8.2))))))
noncomputable def xdr_PutChain_string_v2_b0 (N : Nat) (next : (List (List UInt8)) × Int × Int × Int × (List Int) → Option ((Int × (List Int)))) (x : (List (List UInt8)) × Int × Int × Int × (List Int)) : Option ((Int × (List Int))) :=
  (cond (decide (x.2.2.1 < x.2.1))
  (cond ((decide ((0 : Int) ≤ x.2.2.1)) && (decide (x.2.2.1 < (((List.length x.1) : Nat) : Int))))
  ((Option.bind (xdr_Writer_Bool_v2 N (true, x.2.2.2.1, x.2.2.2.2)) fun r3 =>
  (Option.bind (granarylaw01_putText N ((List.getD x.1 (Int.toNat x.2.2.1) (EK.dflt .str)), r3.1, r3.2)) fun r4 =>
  (next (x.1, x.2.1, (wrapF .i64 (x.2.2.1 + (1 : Int))), r4.1, r4.2)))))
  none)
  (some (x.2.2.2.1, x.2.2.2.2)))
noncomputable def xdr_PutChain_string_v2_l0 (N : Nat) : (List (List UInt8)) × Int × Int × Int × (List Int) → Option ((Int × (List Int))) := loopF (xdr_PutChain_string_v2_b0 N) N
noncomputable def xdr_PutChain_string_v2 (N : Nat) (x : (List (List UInt8)) × Int × (List Int)) : Option (Int × (List Int)) :=
  (Option.bind (xdr_Writer_bad_v1 (x.2.1, x.2.2)) fun r1 =>
  (cond r1.1
  (some (r1.2.1, r1.2.2))
  (Option.bind (xdr_PutChain_string_v2_l0 N (x.1, (((List.length x.1) : Nat) : Int), (0 : Int), r1.2.1, r1.2.2)) fun r3 =>
  (Option.bind (xdr_Writer_Bool_v2 N (false, r3.1, r3.2)) fun r4 =>
  (some (r4.1, r4.2))))))
noncomputable def xdr_PutOption_uint32_v1 (N : Nat) (x : Int × Int × (List Int)) : Option (Int × Int × (List Int)) :=
  (Option.bind (xdr_Writer_bad_v1 (x.1, x.2.2)) fun r1 =>
  (cond r1.1
  (some (r1.2.1, x.2.1, r1.2.2))
  (Option.bind (xdr_Writer_Bool_v2 N (true, r1.2.1, r1.2.2)) fun r2 =>
  (Option.bind (granarylaw01_putNum N (x.2.1, r2.1, r2.2)) fun r3 =>
  (some (r3.1, x.2.1, r3.2))))))
noncomputable def granarylaw01_huge_b2 (N : Nat) (next : (List (Int × (Int × ((List Int) × (Int × ((List Int) × ((List (List UInt8)) × Unit))))))) × Int × Int × Int → Option (Int)) (x : (List (Int × (Int × ((List Int) × (Int × ((List Int) × ((List (List UInt8)) × Unit))))))) × Int × Int × Int) : Option (Int) :=
  (Option.bind
  (cond ((decide ((0 : Int) ≤ x.2.2.1)) && (decide (x.2.2.1 < (((List.length x.1) : Nat) : Int))))
  ((cond (decide (x.2.2.2 < (((List.length (List.getD x.1 (Int.toNat x.2.2.1) (EK.dflt (.pair (.int .i64) (.pair (.int .u64) (.pair (.sl (.int .u8)) (.pair (.int .i64) (.pair (.sl (.int .u32)) (.pair (.sl .str) .unit)))))))).2.2.2.2.2.1) : Nat) : Int)))
  (some (decide (x.2.1 ≤ (60000 : Int))))
  (some false)))
  none)
  fun r5 =>
  (cond r5
  (cond ((decide ((0 : Int) ≤ x.2.2.1)) && (decide (x.2.2.1 < (((List.length x.1) : Nat) : Int))))
  ((let v6 : (Int × (Int × ((List Int) × (Int × ((List Int) × ((List (List UInt8)) × Unit)))))) := (List.getD x.1 (Int.toNat x.2.2.1) (EK.dflt (.pair (.int .i64) (.pair (.int .u64) (.pair (.sl (.int .u8)) (.pair (.int .i64) (.pair (.sl (.int .u32)) (.pair (.sl .str) .unit))))))))
  (cond ((decide ((0 : Int) ≤ x.2.2.2)) && (decide (x.2.2.2 < (((List.length v6.2.2.2.2.2.1) : Nat) : Int))))
  ((next (x.1, (wrapF .i64 ((wrapF .i64 (x.2.1 + (((List.length (List.getD v6.2.2.2.2.2.1 (Int.toNat x.2.2.2) (EK.dflt .str))) : Nat) : Int))) + (8 : Int))), x.2.2.1, (wrapF .i64 (x.2.2.2 + (1 : Int))))))
  none)))
  none)
  (some x.2.1)))
noncomputable def granarylaw01_huge_l2 (N : Nat) : (List (Int × (Int × ((List Int) × (Int × ((List Int) × ((List (List UInt8)) × Unit))))))) × Int × Int × Int → Option (Int) := loopF (granarylaw01_huge_b2 N) N
noncomputable def granarylaw01_huge_b0 (N : Nat) (next : (List (Int × (Int × ((List Int) × (Int × ((List Int) × ((List (List UInt8)) × Unit))))))) × Int × Int → Option (Int)) (x : (List (Int × (Int × ((List Int) × (Int × ((List Int) × ((List (List UInt8)) × Unit))))))) × Int × Int) : Option (Int) :=
  (Option.bind
  (cond (decide (x.2.2 < (((List.length x.1) : Nat) : Int)))
  (some (decide (x.2.2 ≤ (60 : Int))))
  (some false))
  fun r4 =>
  (cond r4
  (cond ((decide ((0 : Int) ≤ x.2.2)) && (decide (x.2.2 < (((List.length x.1) : Nat) : Int))))
  ((cond ((decide ((0 : Int) ≤ x.2.2)) && (decide (x.2.2 < (((List.length x.1) : Nat) : Int))))
  ((Option.bind (granarylaw01_huge_l2 N (x.1, (wrapF .i64 ((wrapF .i64 (x.2.1 + (((List.length (List.getD x.1 (Int.toNat x.2.2) (EK.dflt (.pair (.int .i64) (.pair (.int .u64) (.pair (.sl (.int .u8)) (.pair (.int .i64) (.pair (.sl (.int .u32)) (.pair (.sl .str) .unit)))))))).2.2.1) : Nat) : Int))) + (wrapF .i64 ((8 : Int) * (((List.length (List.getD x.1 (Int.toNat x.2.2) (EK.dflt (.pair (.int .i64) (.pair (.int .u64) (.pair (.sl (.int .u8)) (.pair (.int .i64) (.pair (.sl (.int .u32)) (.pair (.sl .str) .unit)))))))).2.2.2.2.1) : Nat) : Int))))), x.2.2, (0 : Int))) fun r12 =>
  (next (x.1, r12, (wrapF .i64 (x.2.2 + (1 : Int)))))))
  none))
  none)
  (some x.2.1)))
noncomputable def granarylaw01_huge_l0 (N : Nat) : (List (Int × (Int × ((List Int) × (Int × ((List Int) × ((List (List UInt8)) × Unit))))))) × Int × Int → Option (Int) := loopF (granarylaw01_huge_b0 N) N
noncomputable def granarylaw01_huge (N : Nat) (x : (List (Int × (Int × ((List Int) × (Int × ((List Int) × ((List (List UInt8)) × Unit)))))))) : Option (Bool) :=
  (Option.bind (granarylaw01_huge_l0 N (x, (0 : Int), (0 : Int))) fun r1 =>
  (Option.bind
  (cond (decide ((60 : Int) < (((List.length x) : Nat) : Int)))
  (some true)
  (some (decide ((60000 : Int) < r1))))
  fun r5 =>
  (some r5)))
noncomputable def granaryref01_Writer_Uint (x : Int × Int) : Option (Int × (List Int)) :=
  (Option.bind
  (cond (decide (x.2 = (0 : Int)))
  (let v9 : List Int := ([(wrapF .u8 (shrF .u32 x.1 (24 : Int))), (wrapF .u8 (shrF .u32 x.1 (16 : Int))), (wrapF .u8 (shrF .u32 x.1 (8 : Int))), (wrapF .u8 x.1)] : List Int)
  (cond ((decide (4 ≤ (List.length v9))) && (fits 1 (List.length (List.take 4 (List.drop 0 v9)))))
  ((some (List.take 4 (List.drop 0 v9))))
  none))
  (some ([] : List Int)))
  fun r11 =>
  (some (x.2, r11)))
noncomputable def xdr_Writer_Int_v2 (N : Nat) (x : Int × Int) : Option (Int × (List Int)) :=
  (Option.bind (xdr_Writer_Uint N ((wrapF .u32 x.1), x.2)) fun r2 =>
  (some (r2.1, r2.2)))
noncomputable def xdr_Writer_Hyper_v2 (N : Nat) (x : Int × Int) : Option (Int × (List Int)) :=
  (Option.bind (xdr_Writer_bad x.2) fun r1 =>
  (Option.bind
  (cond (!r1.1)
  (Option.bind (octet_Put N (x.1, (8 : Int))) fun r3 =>
  (some r3))
  (some ([] : List Int)))
  fun r4 =>
  (some (r1.2, r4))))
noncomputable def granaryref01_Writer_Uint_v1 (x : Int × Int × (List Int)) : Option (Int × (List Int)) :=
  (Option.bind
  (cond (decide (x.2.1 = (0 : Int)))
  (let v9 : List Int := ([(wrapF .u8 (shrF .u32 x.1 (24 : Int))), (wrapF .u8 (shrF .u32 x.1 (16 : Int))), (wrapF .u8 (shrF .u32 x.1 (8 : Int))), (wrapF .u8 x.1)] : List Int)
  (cond ((decide (4 ≤ (List.length v9))) && (fits 1 ((List.length x.2.2) + (List.length (List.take 4 (List.drop 0 v9))))))
  ((some (x.2.2 ++ (List.take 4 (List.drop 0 v9)))))
  none))
  (some x.2.2))
  fun r11 =>
  (some (x.2.1, r11)))
noncomputable def granaryref01_Writer_Hyper (x : Int × Int) : Option (Int × (List Int)) :=
  (Option.bind (granaryref01_Writer_Uint ((wrapF .u32 (shrF .u64 x.1 (32 : Int))), x.2)) fun r3 =>
  (Option.bind (granaryref01_Writer_Uint_v1 ((wrapF .u32 x.1), r3.1, r3.2)) fun r5 =>
  (some (r5.1, r5.2))))
noncomputable def granaryref01_Writer_Bool (x : Bool × Int) : Option (Int × (List Int)) :=
  (Option.bind
  (cond x.1
  (Option.bind (granaryref01_Writer_Uint ((1 : Int), x.2)) fun r1 =>
  (some (r1.1, r1.2)))
  (Option.bind (granaryref01_Writer_Uint ((0 : Int), x.2)) fun r2 =>
  (some (r2.1, r2.2))))
  fun r3 =>
  (some (r3.1, r3.2)))
noncomputable def xdr_Writer_Fixed_v3_b0 (N : Nat) (next : Int × Int × (List Int) → Option (((List Int)))) (x : Int × Int × (List Int)) : Option (((List Int))) :=
  (cond (decide (x.2.1 < x.1))
  (let v2 : List Int := ([(0 : Int)] : List Int)
  (cond ((decide (1 ≤ (List.length v2))) && (fits 1 ((List.length x.2.2) + (List.length (List.take 1 (List.drop 0 v2))))))
  ((next (x.1, (wrapF .i64 (x.2.1 + (1 : Int))), (x.2.2 ++ (List.take 1 (List.drop 0 v2))))))
  none))
  (some x.2.2))
noncomputable def xdr_Writer_Fixed_v3_l0 (N : Nat) : Int × Int × (List Int) → Option (((List Int))) := loopF (xdr_Writer_Fixed_v3_b0 N) N
noncomputable def xdr_Writer_Fixed_v3 (N : Nat) (x : (List Int) × Int) : Option (Int × (List Int)) :=
  (Option.bind (xdr_Writer_bad x.2) fun r1 =>
  (cond r1.1
  (some (r1.2, ([] : List Int)))
  (cond (fits 1 (List.length x.1))
  ((Option.bind (xdr_padding (((List.length x.1) : Nat) : Int)) fun r3 =>
  (Option.bind (xdr_Writer_Fixed_v3_l0 N (r3, (0 : Int), x.1)) fun r4 =>
  (some (r1.2, r4)))))
  none)))
noncomputable def granaryref01_Writer_Fixed_b0 (N : Nat) (next : Int × (List Int) → Option (((List Int)))) (x : Int × (List Int)) : Option (((List Int))) :=
  (cond (!(decide ((Int.tmod x.1 (4 : Int)) = (0 : Int))))
  (let v3 : List Int := ([(0 : Int)] : List Int)
  (cond ((decide (1 ≤ (List.length v3))) && (fits 1 ((List.length x.2) + (List.length (List.take 1 (List.drop 0 v3))))))
  ((next ((wrapF .i64 (x.1 + (1 : Int))), (x.2 ++ (List.take 1 (List.drop 0 v3))))))
  none))
  (some x.2))
noncomputable def granaryref01_Writer_Fixed_l0 (N : Nat) : Int × (List Int) → Option (((List Int))) := loopF (granaryref01_Writer_Fixed_b0 N) N
noncomputable def granaryref01_Writer_Fixed (N : Nat) (x : (List Int) × Int) : Option (Int × (List Int)) :=
  (cond (!(decide (x.2 = (0 : Int))))
  (some (x.2, ([] : List Int)))
  (cond (fits 1 (List.length x.1))
  ((Option.bind (granaryref01_Writer_Fixed_l0 N ((((List.length x.1) : Nat) : Int), x.1)) fun r3 =>
  (some (x.2, r3))))
  none))
noncomputable def xdr_Writer_Opaque_v4 (N : Nat) (x : (List Int) × Int × Int) : Option (Int × (List Int)) :=
  (Option.bind (xdr_Writer_fits_v2 ((((List.length x.1) : Nat) : Int), x.2.1, x.2.2)) fun r2 =>
  (Option.bind
  (cond r2.1
  (Option.bind (xdr_Writer_Uint N ((wrapF .u32 (((List.length x.1) : Nat) : Int)), r2.2)) fun r5 =>
  (Option.bind (xdr_Writer_Fixed N (x.1, r5.1, r5.2)) fun r6 =>
  (some (r6.1, r6.2))))
  (some (r2.2, ([] : List Int))))
  fun r7 =>
  (some (r7.1, r7.2))))
noncomputable def granaryref01_Writer_Fixed_v1_b0 (N : Nat) (next : Int × (List Int) → Option (((List Int)))) (x : Int × (List Int)) : Option (((List Int))) :=
  (cond (!(decide ((Int.tmod x.1 (4 : Int)) = (0 : Int))))
  (let v3 : List Int := ([(0 : Int)] : List Int)
  (cond ((decide (1 ≤ (List.length v3))) && (fits 1 ((List.length x.2) + (List.length (List.take 1 (List.drop 0 v3))))))
  ((next ((wrapF .i64 (x.1 + (1 : Int))), (x.2 ++ (List.take 1 (List.drop 0 v3))))))
  none))
  (some x.2))
noncomputable def granaryref01_Writer_Fixed_v1_l0 (N : Nat) : Int × (List Int) → Option (((List Int))) := loopF (granaryref01_Writer_Fixed_v1_b0 N) N
noncomputable def granaryref01_Writer_Fixed_v1 (N : Nat) (x : (List Int) × Int × (List Int)) : Option (Int × (List Int)) :=
  (cond (!(decide (x.2.1 = (0 : Int))))
  (some (x.2.1, x.2.2))
  (cond (fits 1 ((List.length x.2.2) + (List.length x.1)))
  ((Option.bind (granaryref01_Writer_Fixed_v1_l0 N ((((List.length x.1) : Nat) : Int), (x.2.2 ++ x.1))) fun r4 =>
  (some (x.2.1, r4))))
  none))
noncomputable def granaryref01_Writer_Opaque (N : Nat) (x : (List Int) × Int × Int) : Option (Int × (List Int)) :=
  (cond (!(decide (x.2.2 = (0 : Int))))
  (some (x.2.2, ([] : List Int)))
  (cond (decide (x.2.1 < (((List.length x.1) : Nat) : Int)))
  (some ((1 : Int), ([] : List Int)))
  (Option.bind (granaryref01_Writer_Uint ((wrapF .u32 (((List.length x.1) : Nat) : Int)), x.2.2)) fun r6 =>
  (Option.bind (granaryref01_Writer_Fixed_v1 N (x.1, r6.1, r6.2)) fun r7 =>
  (some (r7.1, r7.2))))))
noncomputable def xdr_PutList_uint32_v2_b0 (N : Nat) (next : (List Int) × Int × Int × Int × (List Int) → Option ((Int × (List Int)))) (x : (List Int) × Int × Int × Int × (List Int)) : Option ((Int × (List Int))) :=
  (cond (decide (x.2.2.1 < x.2.1))
  (cond ((decide ((0 : Int) ≤ x.2.2.1)) && (decide (x.2.2.1 < (((List.length x.1) : Nat) : Int))))
  ((Option.bind (granarylaw01_putNum N ((List.getD x.1 (Int.toNat x.2.2.1) (EK.dflt (.int .u32))), x.2.2.2.1, x.2.2.2.2)) fun r3 =>
  (next (x.1, x.2.1, (wrapF .i64 (x.2.2.1 + (1 : Int))), r3.1, r3.2))))
  none)
  (some (x.2.2.2.1, x.2.2.2.2)))
noncomputable def xdr_PutList_uint32_v2_l0 (N : Nat) : (List Int) × Int × Int × Int × (List Int) → Option ((Int × (List Int))) := loopF (xdr_PutList_uint32_v2_b0 N) N
noncomputable def xdr_PutList_uint32_v2 (N : Nat) (x : (List Int) × Int × Int) : Option (Int × (List Int)) :=
  (Option.bind (xdr_Writer_fits_v2 ((((List.length x.1) : Nat) : Int), x.2.1, x.2.2)) fun r2 =>
  (cond (!r2.1)
  (some (r2.2, ([] : List Int)))
  (Option.bind (xdr_Writer_Uint N ((wrapF .u32 (((List.length x.1) : Nat) : Int)), r2.2)) fun r6 =>
  (Option.bind (xdr_PutList_uint32_v2_l0 N (x.1, (((List.length x.1) : Nat) : Int), (0 : Int), r6.1, r6.2)) fun r8 =>
  (some (r8.1, r8.2))))))
noncomputable def xdr_PutList_string_v1_b0 (N : Nat) (next : (List (List UInt8)) × Int × Int × Int × (List Int) → Option ((Int × (List Int)))) (x : (List (List UInt8)) × Int × Int × Int × (List Int)) : Option ((Int × (List Int))) :=
  (cond (decide (x.2.2.1 < x.2.1))
  (cond ((decide ((0 : Int) ≤ x.2.2.1)) && (decide (x.2.2.1 < (((List.length x.1) : Nat) : Int))))
  ((Option.bind (granarylaw01_putText N ((List.getD x.1 (Int.toNat x.2.2.1) (EK.dflt .str)), x.2.2.2.1, x.2.2.2.2)) fun r3 =>
  (next (x.1, x.2.1, (wrapF .i64 (x.2.2.1 + (1 : Int))), r3.1, r3.2))))
  none)
  (some (x.2.2.2.1, x.2.2.2.2)))
noncomputable def xdr_PutList_string_v1_l0 (N : Nat) : (List (List UInt8)) × Int × Int × Int × (List Int) → Option ((Int × (List Int))) := loopF (xdr_PutList_string_v1_b0 N) N
noncomputable def xdr_PutList_string_v1 (N : Nat) (x : (List (List UInt8)) × Int × Int) : Option (Int × (List Int)) :=
  (Option.bind (xdr_Writer_fits_v2 ((((List.length x.1) : Nat) : Int), x.2.1, x.2.2)) fun r2 =>
  (cond (!r2.1)
  (some (r2.2, ([] : List Int)))
  (Option.bind (xdr_Writer_Uint N ((wrapF .u32 (((List.length x.1) : Nat) : Int)), r2.2)) fun r6 =>
  (Option.bind (xdr_PutList_string_v1_l0 N (x.1, (((List.length x.1) : Nat) : Int), (0 : Int), r6.1, r6.2)) fun r8 =>
  (some (r8.1, r8.2))))))
noncomputable def granaryref01_Writer_Opaque_v1 (N : Nat) (x : (List Int) × Int × Int × (List Int)) : Option (Int × (List Int)) :=
  (cond (!(decide (x.2.2.1 = (0 : Int))))
  (some (x.2.2.1, x.2.2.2))
  (cond (decide (x.2.1 < (((List.length x.1) : Nat) : Int)))
  (some ((1 : Int), x.2.2.2))
  (Option.bind (granaryref01_Writer_Uint_v1 ((wrapF .u32 (((List.length x.1) : Nat) : Int)), x.2.2.1, x.2.2.2)) fun r6 =>
  (Option.bind (granaryref01_Writer_Fixed_v1 N (x.1, r6.1, r6.2)) fun r7 =>
  (some (r7.1, r7.2))))))
noncomputable def xdr_PutChain_string_v3_b0 (N : Nat) (next : (List (List UInt8)) × Int × Int × Int × (List Int) → Option ((Int × (List Int)))) (x : (List (List UInt8)) × Int × Int × Int × (List Int)) : Option ((Int × (List Int))) :=
  (cond (decide (x.2.2.1 < x.2.1))
  (cond ((decide ((0 : Int) ≤ x.2.2.1)) && (decide (x.2.2.1 < (((List.length x.1) : Nat) : Int))))
  ((Option.bind (xdr_Writer_Bool_v2 N (true, x.2.2.2.1, x.2.2.2.2)) fun r3 =>
  (Option.bind (granarylaw01_putText N ((List.getD x.1 (Int.toNat x.2.2.1) (EK.dflt .str)), r3.1, r3.2)) fun r4 =>
  (next (x.1, x.2.1, (wrapF .i64 (x.2.2.1 + (1 : Int))), r4.1, r4.2)))))
  none)
  (some (x.2.2.2.1, x.2.2.2.2)))
noncomputable def xdr_PutChain_string_v3_l0 (N : Nat) : (List (List UInt8)) × Int × Int × Int × (List Int) → Option ((Int × (List Int))) := loopF (xdr_PutChain_string_v3_b0 N) N
noncomputable def xdr_PutChain_string_v3 (N : Nat) (x : (List (List UInt8)) × Int) : Option (Int × (List Int)) :=
  (Option.bind (xdr_Writer_bad x.2) fun r1 =>
  (cond r1.1
  (some (r1.2, ([] : List Int)))
  (Option.bind (xdr_PutChain_string_v3_l0 N (x.1, (((List.length x.1) : Nat) : Int), (0 : Int), r1.2, ([] : List Int))) fun r3 =>
  (Option.bind (xdr_Writer_Bool_v2 N (false, r3.1, r3.2)) fun r4 =>
  (some (r4.1, r4.2))))))
noncomputable def granaryref01_Writer_Bool_v1 (x : Bool × Int × (List Int)) : Option (Int × (List Int)) :=
  (Option.bind
  (cond x.1
  (Option.bind (granaryref01_Writer_Uint_v1 ((1 : Int), x.2.1, x.2.2)) fun r1 =>
  (some (r1.1, r1.2)))
  (Option.bind (granaryref01_Writer_Uint_v1 ((0 : Int), x.2.1, x.2.2)) fun r2 =>
  (some (r2.1, r2.2))))
  fun r3 =>
  (some (r3.1, r3.2)))
noncomputable def xdr_PutOption_uint32_v2 (N : Nat) (x : Int) : Option (Int × (List Int)) :=
  (Option.bind (xdr_Writer_bad x) fun r1 =>
  (cond r1.1
  (some (r1.2, ([] : List Int)))
  (Option.bind (xdr_Writer_Bool_v1 N (false, r1.2)) fun r2 =>
  (some (r2.1, r2.2)))))
noncomputable def xdr_PutOption_uint32_v3 (N : Nat) (x : Int × Int) : Option (Int × Int × (List Int)) :=
  (Option.bind (xdr_Writer_bad x.1) fun r1 =>
  (cond r1.1
  (some (r1.2, x.2, ([] : List Int)))
  (Option.bind (xdr_Writer_Bool_v1 N (true, r1.2)) fun r2 =>
  (Option.bind (granarylaw01_putNum N (x.2, r2.1, r2.2)) fun r3 =>
  (some (r3.1, x.2, r3.2))))))
noncomputable def granarylaw01_writes_b1 (N : Nat) (next : Int × Int × Int × Int × (List Int) × Int × (List Int) × (List Int) → Option ((Int × Int × Int × (List Int) × Int × (List Int) × (List Int)))) (x : Int × Int × Int × Int × (List Int) × Int × (List Int) × (List Int)) : Option ((Int × Int × Int × (List Int) × Int × (List Int) × (List Int))) :=
  (cond (decide (x.1 < (((List.length x.2.2.2.2.2.2.1) : Nat) : Int)))
  (cond ((decide ((0 : Int) ≤ x.1)) && (decide (x.1 < (((List.length x.2.2.2.2.2.2.1) : Nat) : Int))))
  ((Option.bind (granaryref01_Writer_Uint_v1 ((List.getD x.2.2.2.2.2.2.1 (Int.toNat x.1) (EK.dflt (.int .u32))), x.2.1, x.2.2.2.2.2.2.2)) fun r4 =>
  (next ((wrapF .i64 (x.1 + (1 : Int))), r4.1, x.2.2.1, x.2.2.2.1, x.2.2.2.2.1, x.2.2.2.2.2.1, x.2.2.2.2.2.2.1, r4.2))))
  none)
  (some (x.2.1, x.2.2.1, x.2.2.2.1, x.2.2.2.2.1, x.2.2.2.2.2.1, x.2.2.2.2.2.2.1, x.2.2.2.2.2.2.2)))
noncomputable def granarylaw01_writes_l1 (N : Nat) : Int × Int × Int × Int × (List Int) × Int × (List Int) × (List Int) → Option ((Int × Int × Int × (List Int) × Int × (List Int) × (List Int))) := loopF (granarylaw01_writes_b1 N) N
noncomputable def granarylaw01_writes_b3 (N : Nat) (next : Int × Int × Int × Int × (List Int) × Int × (List Int) × (List (List UInt8)) × (List Int) → Option ((Int × Int × Int × (List Int) × Int × (List Int) × (List (List UInt8)) × (List Int)))) (x : Int × Int × Int × Int × (List Int) × Int × (List Int) × (List (List UInt8)) × (List Int)) : Option ((Int × Int × Int × (List Int) × Int × (List Int) × (List (List UInt8)) × (List Int))) :=
  (cond (decide (x.1 < (((List.length x.2.2.2.2.2.2.2.1) : Nat) : Int)))
  (cond ((decide ((0 : Int) ≤ x.1)) && (decide (x.1 < (((List.length x.2.2.2.2.2.2.2.1) : Nat) : Int))))
  ((Option.bind (granaryref01_Writer_Opaque_v1 N ((List.map (fun b => (b.toNat : Int)) (List.getD x.2.2.2.2.2.2.2.1 (Int.toNat x.1) (EK.dflt .str))), (7 : Int), x.2.1, x.2.2.2.2.2.2.2.2)) fun r5 =>
  (next ((wrapF .i64 (x.1 + (1 : Int))), r5.1, x.2.2.1, x.2.2.2.1, x.2.2.2.2.1, x.2.2.2.2.2.1, x.2.2.2.2.2.2.1, x.2.2.2.2.2.2.2.1, r5.2))))
  none)
  (some (x.2.1, x.2.2.1, x.2.2.2.1, x.2.2.2.2.1, x.2.2.2.2.2.1, x.2.2.2.2.2.2.1, x.2.2.2.2.2.2.2.1, x.2.2.2.2.2.2.2.2)))
noncomputable def granarylaw01_writes_l3 (N : Nat) : Int × Int × Int × Int × (List Int) × Int × (List Int) × (List (List UInt8)) × (List Int) → Option ((Int × Int × Int × (List Int) × Int × (List Int) × (List (List UInt8)) × (List Int))) := loopF (granarylaw01_writes_b3 N) N
noncomputable def granarylaw01_writes_b5 (N : Nat) (next : Int × Int × Int × Int × (List Int) × Int × (List Int) × (List (List UInt8)) × (List Int) → Option ((Int × Int × Int × (List Int) × Int × (List Int) × (List (List UInt8)) × (List Int)))) (x : Int × Int × Int × Int × (List Int) × Int × (List Int) × (List (List UInt8)) × (List Int)) : Option ((Int × Int × Int × (List Int) × Int × (List Int) × (List (List UInt8)) × (List Int))) :=
  (cond (decide (x.1 < (((List.length x.2.2.2.2.2.2.2.1) : Nat) : Int)))
  (Option.bind (granaryref01_Writer_Bool_v1 (true, x.2.1, x.2.2.2.2.2.2.2.2)) fun r3 =>
  (cond ((decide ((0 : Int) ≤ x.1)) && (decide (x.1 < (((List.length x.2.2.2.2.2.2.2.1) : Nat) : Int))))
  ((Option.bind (granaryref01_Writer_Opaque_v1 N ((List.map (fun b => (b.toNat : Int)) (List.getD x.2.2.2.2.2.2.2.1 (Int.toNat x.1) (EK.dflt .str))), (7 : Int), r3.1, r3.2)) fun r6 =>
  (next ((wrapF .i64 (x.1 + (1 : Int))), r6.1, x.2.2.1, x.2.2.2.1, x.2.2.2.2.1, x.2.2.2.2.2.1, x.2.2.2.2.2.2.1, x.2.2.2.2.2.2.2.1, r6.2))))
  none))
  (some (x.2.1, x.2.2.1, x.2.2.2.1, x.2.2.2.2.1, x.2.2.2.2.2.1, x.2.2.2.2.2.2.1, x.2.2.2.2.2.2.2.1, x.2.2.2.2.2.2.2.2)))
noncomputable def granarylaw01_writes_l5 (N : Nat) : Int × Int × Int × Int × (List Int) × Int × (List Int) × (List (List UInt8)) × (List Int) → Option ((Int × Int × Int × (List Int) × Int × (List Int) × (List (List UInt8)) × (List Int))) := loopF (granarylaw01_writes_b5 N) N
noncomputable def granarylaw01_writes (N : Nat) (x : Int × Int × (List Int) × Int × (List Int) × (List (List UInt8)) × Int × Int) : Option (Int × Int × (List Int) × (List Int)) :=
  (Option.bind
  ((cond (decide (x.1 = (0 : Int)))
  (Option.bind (xdr_Writer_Uint N ((wrapF .u32 x.2.1), x.2.2.2.2.2.2.1)) fun r3 =>
  (Option.bind (granaryref01_Writer_Uint ((wrapF .u32 x.2.1), x.2.2.2.2.2.2.2)) fun r5 =>
  (some (.inl (r3.1, r5.1, x.1, x.2.1, x.2.2.1, x.2.2.2.1, x.2.2.2.2.1, x.2.2.2.2.2.1, r3.2, r5.2)))))
  (cond (decide (x.1 = (7 : Int)))
  (Option.bind (xdr_Writer_Uint N ((wrapF .u32 x.2.1), x.2.2.2.2.2.2.1)) fun r8 =>
  (Option.bind (granaryref01_Writer_Uint ((wrapF .u32 x.2.1), x.2.2.2.2.2.2.2)) fun r10 =>
  (some (.inl (r8.1, r10.1, x.1, x.2.1, x.2.2.1, x.2.2.2.1, x.2.2.2.2.1, x.2.2.2.2.2.1, r8.2, r10.2)))))
  (Option.bind
  ((cond (decide (x.1 = (1 : Int)))
  (Option.bind (xdr_Writer_Int_v2 N ((wrapF .i32 x.2.1), x.2.2.2.2.2.2.1)) fun r13 =>
  (Option.bind (granaryref01_Writer_Uint ((wrapF .u32 (wrapF .i32 x.2.1)), x.2.2.2.2.2.2.2)) fun r16 =>
  (some (.inl (r13.1, r16.1, x.1, x.2.1, x.2.2.1, x.2.2.2.1, x.2.2.2.2.1, x.2.2.2.2.2.1, r13.2, r16.2)))))
  (Option.bind
  ((cond (decide (x.1 = (2 : Int)))
  (Option.bind (xdr_Writer_Hyper_v2 N (x.2.1, x.2.2.2.2.2.2.1)) fun r18 =>
  (Option.bind (granaryref01_Writer_Hyper (x.2.1, x.2.2.2.2.2.2.2)) fun r19 =>
  (some (.inl (r18.1, r19.1, x.1, x.2.1, x.2.2.1, x.2.2.2.1, x.2.2.2.2.1, x.2.2.2.2.2.1, r18.2, r19.2)))))
  (Option.bind
  ((cond (decide (x.1 = (3 : Int)))
  (Option.bind (xdr_Writer_Bool_v1 N ((decide (x.2.1 = (1 : Int))), x.2.2.2.2.2.2.1)) fun r22 =>
  (Option.bind (granaryref01_Writer_Bool ((decide (x.2.1 = (1 : Int))), x.2.2.2.2.2.2.2)) fun r24 =>
  (some (.inl (r22.1, r24.1, x.1, x.2.1, x.2.2.1, x.2.2.2.1, x.2.2.2.2.1, x.2.2.2.2.2.1, r22.2, r24.2)))))
  (Option.bind
  ((cond (decide (x.1 = (4 : Int)))
  (Option.bind (xdr_Writer_Fixed_v3 N (x.2.2.1, x.2.2.2.2.2.2.1)) fun r26 =>
  (Option.bind (granaryref01_Writer_Fixed N (x.2.2.1, x.2.2.2.2.2.2.2)) fun r27 =>
  (some (.inl (r26.1, r27.1, x.1, x.2.1, x.2.2.1, x.2.2.2.1, x.2.2.2.2.1, x.2.2.2.2.2.1, r26.2, r27.2)))))
  (Option.bind
  ((cond (decide (x.1 = (5 : Int)))
  (Option.bind (xdr_Writer_Opaque_v4 N (x.2.2.1, x.2.2.2.1, x.2.2.2.2.2.2.1)) fun r29 =>
  (Option.bind (granaryref01_Writer_Opaque N (x.2.2.1, x.2.2.2.1, x.2.2.2.2.2.2.2)) fun r30 =>
  (some (.inl (r29.1, r30.1, x.1, x.2.1, x.2.2.1, x.2.2.2.1, x.2.2.2.2.1, x.2.2.2.2.2.1, r29.2, r30.2)))))
  (Option.bind
  ((cond (decide (x.1 = (6 : Int)))
  (Option.bind (xdr_Writer_Text_v2 N ((List.map (fun (n : Int) => UInt8.ofNat n.toNat) x.2.2.1), x.2.2.2.1, x.2.2.2.2.2.2.1)) fun r33 =>
  (Option.bind (granaryref01_Writer_Opaque N (x.2.2.1, x.2.2.2.1, x.2.2.2.2.2.2.2)) fun r34 =>
  (some (.inl (r33.1, r34.1, x.1, x.2.1, x.2.2.1, x.2.2.2.1, x.2.2.2.2.1, x.2.2.2.2.2.1, r33.2, r34.2)))))
  (Option.bind
  ((cond (decide (x.1 = (8 : Int)))
  (Option.bind (xdr_PutList_uint32_v2 N (x.2.2.2.2.1, x.2.2.2.1, x.2.2.2.2.2.2.1)) fun r36 =>
  (Option.bind
  (cond (decide (x.2.2.2.2.2.2.2 = (0 : Int)))
  (some (decide (x.2.2.2.1 < (((List.length x.2.2.2.2.1) : Nat) : Int))))
  (some false))
  fun r40 =>
  (Option.bind
  (cond r40
  (some (1 : Int))
  (some x.2.2.2.2.2.2.2))
  fun r41 =>
  (Option.bind (granaryref01_Writer_Uint ((wrapF .u32 (((List.length x.2.2.2.2.1) : Nat) : Int)), r41)) fun r44 =>
  (Option.bind (granarylaw01_writes_l1 N ((0 : Int), r44.1, x.1, x.2.1, x.2.2.1, x.2.2.2.1, x.2.2.2.2.1, r44.2)) fun r45 =>
  (some (.inl (r36.1, r45.1, r45.2.1, r45.2.2.1, r45.2.2.2.1, r45.2.2.2.2.1, r45.2.2.2.2.2.1, x.2.2.2.2.2.1, r36.2, r45.2.2.2.2.2.2))))))))
  (Option.bind
  ((cond (decide (x.1 = (11 : Int)))
  (Option.bind (xdr_PutList_string_v1 N (x.2.2.2.2.2.1, x.2.2.2.1, x.2.2.2.2.2.2.1)) fun r47 =>
  (Option.bind
  (cond (decide (x.2.2.2.2.2.2.2 = (0 : Int)))
  (some (decide (x.2.2.2.1 < (((List.length x.2.2.2.2.2.1) : Nat) : Int))))
  (some false))
  fun r51 =>
  (Option.bind
  (cond r51
  (some (1 : Int))
  (some x.2.2.2.2.2.2.2))
  fun r52 =>
  (Option.bind (granaryref01_Writer_Uint ((wrapF .u32 (((List.length x.2.2.2.2.2.1) : Nat) : Int)), r52)) fun r55 =>
  (Option.bind (granarylaw01_writes_l3 N ((0 : Int), r55.1, x.1, x.2.1, x.2.2.1, x.2.2.2.1, x.2.2.2.2.1, x.2.2.2.2.2.1, r55.2)) fun r56 =>
  (some (.inl (r47.1, r56.1, r56.2.1, r56.2.2.1, r56.2.2.2.1, r56.2.2.2.2.1, r56.2.2.2.2.2.1, r56.2.2.2.2.2.2.1, r47.2, r56.2.2.2.2.2.2.2))))))))
  (Option.bind
  ((cond (decide (x.1 = (9 : Int)))
  (Option.bind (xdr_PutChain_string_v3 N (x.2.2.2.2.2.1, x.2.2.2.2.2.2.1)) fun r58 =>
  (Option.bind (granarylaw01_writes_l5 N ((0 : Int), x.2.2.2.2.2.2.2, x.1, x.2.1, x.2.2.1, x.2.2.2.1, x.2.2.2.2.1, x.2.2.2.2.2.1, ([] : List Int))) fun r59 =>
  (Option.bind (granaryref01_Writer_Bool_v1 (false, r59.1, r59.2.2.2.2.2.2.2)) fun r60 =>
  (some (.inl (r58.1, r60.1, r59.2.1, r59.2.2.1, r59.2.2.2.1, r59.2.2.2.2.1, r59.2.2.2.2.2.1, r59.2.2.2.2.2.2.1, r58.2, r60.2))))))
  (Option.bind
  ((cond (decide (x.1 = (10 : Int)))
  (cond (decide (x.2.1 = (0 : Int)))
  (Option.bind (xdr_PutOption_uint32_v2 N x.2.2.2.2.2.2.1) fun r63 =>
  (Option.bind (granaryref01_Writer_Bool (false, x.2.2.2.2.2.2.2)) fun r64 =>
  (some (.inr ((r63.1, r64.1, r63.2, r64.2))))))
  (Option.bind (xdr_PutOption_uint32_v3 N (x.2.2.2.2.2.2.1, (wrapF .u32 x.2.1))) fun r66 =>
  (Option.bind (granaryref01_Writer_Bool (true, x.2.2.2.2.2.2.2)) fun r67 =>
  (Option.bind (granaryref01_Writer_Uint_v1 (r66.2.1, r67.1, r67.2)) fun r68 =>
  (some (.inl (r66.1, r68.1, r66.2.2, r68.2)))))))
  (some (.inl (x.2.2.2.2.2.2.1, x.2.2.2.2.2.2.2, ([] : List Int), ([] : List Int))))) : Option ((Int × Int × (List Int) × (List Int)) ⊕ (Int × Int × (List Int) × (List Int))))
  fun r69 =>
  (match r69 with
  | .inl y70 =>
  (some (.inl (y70.1, y70.2.1, x.1, x.2.1, x.2.2.1, x.2.2.2.1, x.2.2.2.2.1, x.2.2.2.2.2.1, y70.2.2.1, y70.2.2.2)))
  | .inr z71 =>
  (some (.inr ((z71.1, z71.2.1, x.1, x.2.1, x.2.2.1, x.2.2.2.1, x.2.2.2.2.1, x.2.2.2.2.2.1, z71.2.2.1, z71.2.2.2))))))) : Option ((Int × Int × Int × Int × (List Int) × Int × (List Int) × (List (List UInt8)) × (List Int) × (List Int)) ⊕ (Int × Int × Int × Int × (List Int) × Int × (List Int) × (List (List UInt8)) × (List Int) × (List Int))))
  fun r72 =>
  (match r72 with
  | .inl y73 =>
  (some (.inl (y73.1, y73.2.1, y73.2.2.1, y73.2.2.2.1, y73.2.2.2.2.1, y73.2.2.2.2.2.1, y73.2.2.2.2.2.2.1, y73.2.2.2.2.2.2.2.1, y73.2.2.2.2.2.2.2.2.1, y73.2.2.2.2.2.2.2.2.2)))
  | .inr z74 =>
  (some (.inr ((z74.1, z74.2.1, z74.2.2.1, z74.2.2.2.1, z74.2.2.2.2.1, z74.2.2.2.2.2.1, z74.2.2.2.2.2.2.1, z74.2.2.2.2.2.2.2.1, z74.2.2.2.2.2.2.2.2.1, z74.2.2.2.2.2.2.2.2.2))))))) : Option ((Int × Int × Int × Int × (List Int) × Int × (List Int) × (List (List UInt8)) × (List Int) × (List Int)) ⊕ (Int × Int × Int × Int × (List Int) × Int × (List Int) × (List (List UInt8)) × (List Int) × (List Int))))
  fun r75 =>
  (match r75 with
  | .inl y76 =>
  (some (.inl (y76.1, y76.2.1, y76.2.2.1, y76.2.2.2.1, y76.2.2.2.2.1, y76.2.2.2.2.2.1, y76.2.2.2.2.2.2.1, y76.2.2.2.2.2.2.2.1, y76.2.2.2.2.2.2.2.2.1, y76.2.2.2.2.2.2.2.2.2)))
  | .inr z77 =>
  (some (.inr ((z77.1, z77.2.1, z77.2.2.1, z77.2.2.2.1, z77.2.2.2.2.1, z77.2.2.2.2.2.1, z77.2.2.2.2.2.2.1, z77.2.2.2.2.2.2.2.1, z77.2.2.2.2.2.2.2.2.1, z77.2.2.2.2.2.2.2.2.2))))))) : Option ((Int × Int × Int × Int × (List Int) × Int × (List Int) × (List (List UInt8)) × (List Int) × (List Int)) ⊕ (Int × Int × Int × Int × (List Int) × Int × (List Int) × (List (List UInt8)) × (List Int) × (List Int))))
  fun r78 =>
  (match r78 with
  | .inl y79 =>
  (some (.inl (y79.1, y79.2.1, y79.2.2.1, y79.2.2.2.1, y79.2.2.2.2.1, y79.2.2.2.2.2.1, y79.2.2.2.2.2.2.1, y79.2.2.2.2.2.2.2.1, y79.2.2.2.2.2.2.2.2.1, y79.2.2.2.2.2.2.2.2.2)))
  | .inr z80 =>
  (some (.inr ((z80.1, z80.2.1, z80.2.2.1, z80.2.2.2.1, z80.2.2.2.2.1, z80.2.2.2.2.2.1, z80.2.2.2.2.2.2.1, z80.2.2.2.2.2.2.2.1, z80.2.2.2.2.2.2.2.2.1, z80.2.2.2.2.2.2.2.2.2))))))) : Option ((Int × Int × Int × Int × (List Int) × Int × (List Int) × (List (List UInt8)) × (List Int) × (List Int)) ⊕ (Int × Int × Int × Int × (List Int) × Int × (List Int) × (List (List UInt8)) × (List Int) × (List Int))))
  fun r81 =>
  (match r81 with
  | .inl y82 =>
  (some (.inl (y82.1, y82.2.1, y82.2.2.1, y82.2.2.2.1, y82.2.2.2.2.1, y82.2.2.2.2.2.1, y82.2.2.2.2.2.2.1, y82.2.2.2.2.2.2.2.1, y82.2.2.2.2.2.2.2.2.1, y82.2.2.2.2.2.2.2.2.2)))
  | .inr z83 =>
  (some (.inr ((z83.1, z83.2.1, z83.2.2.1, z83.2.2.2.1, z83.2.2.2.2.1, z83.2.2.2.2.2.1, z83.2.2.2.2.2.2.1, z83.2.2.2.2.2.2.2.1, z83.2.2.2.2.2.2.2.2.1, z83.2.2.2.2.2.2.2.2.2))))))) : Option ((Int × Int × Int × Int × (List Int) × Int × (List Int) × (List (List UInt8)) × (List Int) × (List Int)) ⊕ (Int × Int × Int × Int × (List Int) × Int × (List Int) × (List (List UInt8)) × (List Int) × (List Int))))
  fun r84 =>
  (match r84 with
  | .inl y85 =>
  (some (.inl (y85.1, y85.2.1, y85.2.2.1, y85.2.2.2.1, y85.2.2.2.2.1, y85.2.2.2.2.2.1, y85.2.2.2.2.2.2.1, y85.2.2.2.2.2.2.2.1, y85.2.2.2.2.2.2.2.2.1, y85.2.2.2.2.2.2.2.2.2)))
  | .inr z86 =>
  (some (.inr ((z86.1, z86.2.1, z86.2.2.1, z86.2.2.2.1, z86.2.2.2.2.1, z86.2.2.2.2.2.1, z86.2.2.2.2.2.2.1, z86.2.2.2.2.2.2.2.1, z86.2.2.2.2.2.2.2.2.1, z86.2.2.2.2.2.2.2.2.2))))))) : Option ((Int × Int × Int × Int × (List Int) × Int × (List Int) × (List (List UInt8)) × (List Int) × (List Int)) ⊕ (Int × Int × Int × Int × (List Int) × Int × (List Int) × (List (List UInt8)) × (List Int) × (List Int))))
  fun r87 =>
  (match r87 with
  | .inl y88 =>
  (some (.inl (y88.1, y88.2.1, y88.2.2.1, y88.2.2.2.1, y88.2.2.2.2.1, y88.2.2.2.2.2.1, y88.2.2.2.2.2.2.1, y88.2.2.2.2.2.2.2.1, y88.2.2.2.2.2.2.2.2.1, y88.2.2.2.2.2.2.2.2.2)))
  | .inr z89 =>
  (some (.inr ((z89.1, z89.2.1, z89.2.2.1, z89.2.2.2.1, z89.2.2.2.2.1, z89.2.2.2.2.2.1, z89.2.2.2.2.2.2.1, z89.2.2.2.2.2.2.2.1, z89.2.2.2.2.2.2.2.2.1, z89.2.2.2.2.2.2.2.2.2))))))) : Option ((Int × Int × Int × Int × (List Int) × Int × (List Int) × (List (List UInt8)) × (List Int) × (List Int)) ⊕ (Int × Int × Int × Int × (List Int) × Int × (List Int) × (List (List UInt8)) × (List Int) × (List Int))))
  fun r90 =>
  (match r90 with
  | .inl y91 =>
  (some (.inl (y91.1, y91.2.1, y91.2.2.1, y91.2.2.2.1, y91.2.2.2.2.1, y91.2.2.2.2.2.1, y91.2.2.2.2.2.2.1, y91.2.2.2.2.2.2.2.1, y91.2.2.2.2.2.2.2.2.1, y91.2.2.2.2.2.2.2.2.2)))
  | .inr z92 =>
  (some (.inr ((z92.1, z92.2.1, z92.2.2.1, z92.2.2.2.1, z92.2.2.2.2.1, z92.2.2.2.2.2.1, z92.2.2.2.2.2.2.1, z92.2.2.2.2.2.2.2.1, z92.2.2.2.2.2.2.2.2.1, z92.2.2.2.2.2.2.2.2.2))))))) : Option ((Int × Int × Int × Int × (List Int) × Int × (List Int) × (List (List UInt8)) × (List Int) × (List Int)) ⊕ (Int × Int × Int × Int × (List Int) × Int × (List Int) × (List (List UInt8)) × (List Int) × (List Int))))
  fun r93 =>
  (match r93 with
  | .inl y94 =>
  (some (.inl (y94.1, y94.2.1, y94.2.2.1, y94.2.2.2.1, y94.2.2.2.2.1, y94.2.2.2.2.2.1, y94.2.2.2.2.2.2.1, y94.2.2.2.2.2.2.2.1, y94.2.2.2.2.2.2.2.2.1, y94.2.2.2.2.2.2.2.2.2)))
  | .inr z95 =>
  (some (.inr ((z95.1, z95.2.1, z95.2.2.1, z95.2.2.2.1, z95.2.2.2.2.1, z95.2.2.2.2.2.1, z95.2.2.2.2.2.2.1, z95.2.2.2.2.2.2.2.1, z95.2.2.2.2.2.2.2.2.1, z95.2.2.2.2.2.2.2.2.2))))))) : Option ((Int × Int × Int × Int × (List Int) × Int × (List Int) × (List (List UInt8)) × (List Int) × (List Int)) ⊕ (Int × Int × Int × Int × (List Int) × Int × (List Int) × (List (List UInt8)) × (List Int) × (List Int))))
  fun r96 =>
  (match r96 with
  | .inl y97 =>
  (some (.inl (y97.1, y97.2.1, y97.2.2.1, y97.2.2.2.1, y97.2.2.2.2.1, y97.2.2.2.2.2.1, y97.2.2.2.2.2.2.1, y97.2.2.2.2.2.2.2.1, y97.2.2.2.2.2.2.2.2.1, y97.2.2.2.2.2.2.2.2.2)))
  | .inr z98 =>
  (some (.inr ((z98.1, z98.2.1, z98.2.2.1, z98.2.2.2.1, z98.2.2.2.2.1, z98.2.2.2.2.2.1, z98.2.2.2.2.2.2.1, z98.2.2.2.2.2.2.2.1, z98.2.2.2.2.2.2.2.2.1, z98.2.2.2.2.2.2.2.2.2)))))))) : Option ((Int × Int × Int × Int × (List Int) × Int × (List Int) × (List (List UInt8)) × (List Int) × (List Int)) ⊕ (Int × Int × Int × Int × (List Int) × Int × (List Int) × (List (List UInt8)) × (List Int) × (List Int))))
  fun r99 =>
  (match r99 with
  | .inl y100 =>
  (some (y100.1, y100.2.1, y100.2.2.2.2.2.2.2.2.1, y100.2.2.2.2.2.2.2.2.2))
  | .inr z101 =>
  (some (z101.1, z101.2.1, z101.2.2.2.2.2.2.2.2.1, z101.2.2.2.2.2.2.2.2.2))))
noncomputable def granaryref01_Writer_Hyper_v1 (x : Int × Int × (List Int)) : Option (Int × (List Int)) :=
  (Option.bind (granaryref01_Writer_Uint_v1 ((wrapF .u32 (shrF .u64 x.1 (32 : Int))), x.2.1, x.2.2)) fun r3 =>
  (Option.bind (granaryref01_Writer_Uint_v1 ((wrapF .u32 x.1), r3.1, r3.2)) fun r5 =>
  (some (r5.1, r5.2))))
noncomputable def xdr_Writer_Opaque_v5 (N : Nat) (x : (List Int) × Int × Int × (List Int)) : Option (Int × (List Int)) :=
  (Option.bind (xdr_Writer_fits ((((List.length x.1) : Nat) : Int), x.2.1, x.2.2.1, x.2.2.2)) fun r2 =>
  (Option.bind
  (cond r2.1
  (Option.bind (xdr_Writer_Uint_v1 N ((wrapF .u32 (((List.length x.1) : Nat) : Int)), r2.2.1, r2.2.2)) fun r5 =>
  (Option.bind (xdr_Writer_Fixed N (x.1, r5.1, r5.2)) fun r6 =>
  (some (r6.1, r6.2))))
  (some (r2.2.1, r2.2.2)))
  fun r7 =>
  (some (r7.1, r7.2))))
noncomputable def granaryref01_Writer_Opaque_v2 (N : Nat) (x : (List Int) × Int × Int × (List Int)) : Option (Int × (List Int)) :=
  (cond (!(decide (x.2.2.1 = (0 : Int))))
  (some (x.2.2.1, x.2.2.2))
  (cond (decide (x.2.1 < (((List.length x.1) : Nat) : Int)))
  (some ((1 : Int), x.2.2.2))
  (Option.bind (granaryref01_Writer_Uint_v1 ((wrapF .u32 (((List.length x.1) : Nat) : Int)), x.2.2.1, x.2.2.2)) fun r6 =>
  (Option.bind (granaryref01_Writer_Fixed_v1 N (x.1, r6.1, r6.2)) fun r7 =>
  (some (r7.1, r7.2))))))
noncomputable def xdr_PutList_string_v2_b0 (N : Nat) (next : (List (List UInt8)) × Int × Int × Int × (List Int) → Option ((Int × (List Int)))) (x : (List (List UInt8)) × Int × Int × Int × (List Int)) : Option ((Int × (List Int))) :=
  (cond (decide (x.2.2.1 < x.2.1))
  (cond ((decide ((0 : Int) ≤ x.2.2.1)) && (decide (x.2.2.1 < (((List.length x.1) : Nat) : Int))))
  ((Option.bind (granarylaw01_putText N ((List.getD x.1 (Int.toNat x.2.2.1) (EK.dflt .str)), x.2.2.2.1, x.2.2.2.2)) fun r3 =>
  (next (x.1, x.2.1, (wrapF .i64 (x.2.2.1 + (1 : Int))), r3.1, r3.2))))
  none)
  (some (x.2.2.2.1, x.2.2.2.2)))
noncomputable def xdr_PutList_string_v2_l0 (N : Nat) : (List (List UInt8)) × Int × Int × Int × (List Int) → Option ((Int × (List Int))) := loopF (xdr_PutList_string_v2_b0 N) N
noncomputable def xdr_PutList_string_v2 (N : Nat) (x : (List (List UInt8)) × Int × Int × (List Int)) : Option (Int × (List Int)) :=
  (Option.bind (xdr_Writer_fits ((((List.length x.1) : Nat) : Int), x.2.1, x.2.2.1, x.2.2.2)) fun r2 =>
  (cond (!r2.1)
  (some (r2.2.1, r2.2.2))
  (Option.bind (xdr_Writer_Uint_v1 N ((wrapF .u32 (((List.length x.1) : Nat) : Int)), r2.2.1, r2.2.2)) fun r6 =>
  (Option.bind (xdr_PutList_string_v2_l0 N (x.1, (((List.length x.1) : Nat) : Int), (0 : Int), r6.1, r6.2)) fun r8 =>
  (some (r8.1, r8.2))))))
noncomputable def xdr_PutOption_uint32_v4 (N : Nat) (x : Int × (List Int)) : Option (Int × (List Int)) :=
  (Option.bind (xdr_Writer_bad_v1 (x.1, x.2)) fun r1 =>
  (cond r1.1
  (some (r1.2.1, r1.2.2))
  (Option.bind (xdr_Writer_Bool_v2 N (false, r1.2.1, r1.2.2)) fun r2 =>
  (some (r2.1, r2.2)))))
noncomputable def granarylaw01_writes_v1_b1 (N : Nat) (next : Int × Int × Int × Int × (List Int) × Int × (List Int) × (List Int) → Option ((Int × Int × Int × (List Int) × Int × (List Int) × (List Int)))) (x : Int × Int × Int × Int × (List Int) × Int × (List Int) × (List Int)) : Option ((Int × Int × Int × (List Int) × Int × (List Int) × (List Int))) :=
  (cond (decide (x.1 < (((List.length x.2.2.2.2.2.2.1) : Nat) : Int)))
  (cond ((decide ((0 : Int) ≤ x.1)) && (decide (x.1 < (((List.length x.2.2.2.2.2.2.1) : Nat) : Int))))
  ((Option.bind (granaryref01_Writer_Uint_v1 ((List.getD x.2.2.2.2.2.2.1 (Int.toNat x.1) (EK.dflt (.int .u32))), x.2.1, x.2.2.2.2.2.2.2)) fun r4 =>
  (next ((wrapF .i64 (x.1 + (1 : Int))), r4.1, x.2.2.1, x.2.2.2.1, x.2.2.2.2.1, x.2.2.2.2.2.1, x.2.2.2.2.2.2.1, r4.2))))
  none)
  (some (x.2.1, x.2.2.1, x.2.2.2.1, x.2.2.2.2.1, x.2.2.2.2.2.1, x.2.2.2.2.2.2.1, x.2.2.2.2.2.2.2)))
noncomputable def granarylaw01_writes_v1_l1 (N : Nat) : Int × Int × Int × Int × (List Int) × Int × (List Int) × (List Int) → Option ((Int × Int × Int × (List Int) × Int × (List Int) × (List Int))) := loopF (granarylaw01_writes_v1_b1 N) N
noncomputable def granarylaw01_writes_v1_b3 (N : Nat) (next : Int × Int × Int × Int × (List Int) × Int × (List Int) × (List (List UInt8)) × (List Int) → Option ((Int × Int × Int × (List Int) × Int × (List Int) × (List (List UInt8)) × (List Int)))) (x : Int × Int × Int × Int × (List Int) × Int × (List Int) × (List (List UInt8)) × (List Int)) : Option ((Int × Int × Int × (List Int) × Int × (List Int) × (List (List UInt8)) × (List Int))) :=
  (cond (decide (x.1 < (((List.length x.2.2.2.2.2.2.2.1) : Nat) : Int)))
  (cond ((decide ((0 : Int) ≤ x.1)) && (decide (x.1 < (((List.length x.2.2.2.2.2.2.2.1) : Nat) : Int))))
  ((Option.bind (granaryref01_Writer_Opaque_v1 N ((List.map (fun b => (b.toNat : Int)) (List.getD x.2.2.2.2.2.2.2.1 (Int.toNat x.1) (EK.dflt .str))), (7 : Int), x.2.1, x.2.2.2.2.2.2.2.2)) fun r5 =>
  (next ((wrapF .i64 (x.1 + (1 : Int))), r5.1, x.2.2.1, x.2.2.2.1, x.2.2.2.2.1, x.2.2.2.2.2.1, x.2.2.2.2.2.2.1, x.2.2.2.2.2.2.2.1, r5.2))))
  none)
  (some (x.2.1, x.2.2.1, x.2.2.2.1, x.2.2.2.2.1, x.2.2.2.2.2.1, x.2.2.2.2.2.2.1, x.2.2.2.2.2.2.2.1, x.2.2.2.2.2.2.2.2)))
noncomputable def granarylaw01_writes_v1_l3 (N : Nat) : Int × Int × Int × Int × (List Int) × Int × (List Int) × (List (List UInt8)) × (List Int) → Option ((Int × Int × Int × (List Int) × Int × (List Int) × (List (List UInt8)) × (List Int))) := loopF (granarylaw01_writes_v1_b3 N) N
noncomputable def granarylaw01_writes_v1_b5 (N : Nat) (next : Int × Int × (List Int) × Int × Int × (List Int) × Int × (List Int) × (List (List UInt8)) → Option ((Int × Int × Int × (List Int) × Int × (List Int) × (List (List UInt8)) × (List Int)))) (x : Int × Int × (List Int) × Int × Int × (List Int) × Int × (List Int) × (List (List UInt8))) : Option ((Int × Int × Int × (List Int) × Int × (List Int) × (List (List UInt8)) × (List Int))) :=
  (cond (decide (x.1 < (((List.length x.2.2.2.2.2.2.2.2) : Nat) : Int)))
  (Option.bind (granaryref01_Writer_Bool_v1 (true, x.2.1, x.2.2.1)) fun r3 =>
  (cond ((decide ((0 : Int) ≤ x.1)) && (decide (x.1 < (((List.length x.2.2.2.2.2.2.2.2) : Nat) : Int))))
  ((Option.bind (granaryref01_Writer_Opaque_v1 N ((List.map (fun b => (b.toNat : Int)) (List.getD x.2.2.2.2.2.2.2.2 (Int.toNat x.1) (EK.dflt .str))), (7 : Int), r3.1, r3.2)) fun r6 =>
  (next ((wrapF .i64 (x.1 + (1 : Int))), r6.1, r6.2, x.2.2.2.1, x.2.2.2.2.1, x.2.2.2.2.2.1, x.2.2.2.2.2.2.1, x.2.2.2.2.2.2.2.1, x.2.2.2.2.2.2.2.2))))
  none))
  (some (x.2.1, x.2.2.2.1, x.2.2.2.2.1, x.2.2.2.2.2.1, x.2.2.2.2.2.2.1, x.2.2.2.2.2.2.2.1, x.2.2.2.2.2.2.2.2, x.2.2.1)))
noncomputable def granarylaw01_writes_v1_l5 (N : Nat) : Int × Int × (List Int) × Int × Int × (List Int) × Int × (List Int) × (List (List UInt8)) → Option ((Int × Int × Int × (List Int) × Int × (List Int) × (List (List UInt8)) × (List Int))) := loopF (granarylaw01_writes_v1_b5 N) N
noncomputable def granarylaw01_writes_v1 (N : Nat) (x : Int × Int × (List Int) × Int × (List Int) × (List (List UInt8)) × Int × Int × (List Int) × (List Int)) : Option (Int × Int × (List Int) × (List Int)) :=
  (Option.bind
  ((cond (decide (x.1 = (0 : Int)))
  (Option.bind (xdr_Writer_Uint_v1 N ((wrapF .u32 x.2.1), x.2.2.2.2.2.2.1, x.2.2.2.2.2.2.2.2.1)) fun r3 =>
  (Option.bind (granaryref01_Writer_Uint_v1 ((wrapF .u32 x.2.1), x.2.2.2.2.2.2.2.1, x.2.2.2.2.2.2.2.2.2)) fun r5 =>
  (some (.inl (r3.1, r5.1, x.1, x.2.1, x.2.2.1, x.2.2.2.1, x.2.2.2.2.1, x.2.2.2.2.2.1, r3.2, r5.2)))))
  (cond (decide (x.1 = (7 : Int)))
  (Option.bind (xdr_Writer_Uint_v1 N ((wrapF .u32 x.2.1), x.2.2.2.2.2.2.1, x.2.2.2.2.2.2.2.2.1)) fun r8 =>
  (Option.bind (granaryref01_Writer_Uint_v1 ((wrapF .u32 x.2.1), x.2.2.2.2.2.2.2.1, x.2.2.2.2.2.2.2.2.2)) fun r10 =>
  (some (.inl (r8.1, r10.1, x.1, x.2.1, x.2.2.1, x.2.2.2.1, x.2.2.2.2.1, x.2.2.2.2.2.1, r8.2, r10.2)))))
  (Option.bind
  ((cond (decide (x.1 = (1 : Int)))
  (Option.bind (xdr_Writer_Int_v1 N ((wrapF .i32 x.2.1), x.2.2.2.2.2.2.1, x.2.2.2.2.2.2.2.2.1)) fun r13 =>
  (Option.bind (granaryref01_Writer_Uint_v1 ((wrapF .u32 (wrapF .i32 x.2.1)), x.2.2.2.2.2.2.2.1, x.2.2.2.2.2.2.2.2.2)) fun r16 =>
  (some (.inl (r13.1, r16.1, x.1, x.2.1, x.2.2.1, x.2.2.2.1, x.2.2.2.2.1, x.2.2.2.2.2.1, r13.2, r16.2)))))
  (Option.bind
  ((cond (decide (x.1 = (2 : Int)))
  (Option.bind (xdr_Writer_Hyper_v1 N (x.2.1, x.2.2.2.2.2.2.1, x.2.2.2.2.2.2.2.2.1)) fun r18 =>
  (Option.bind (granaryref01_Writer_Hyper_v1 (x.2.1, x.2.2.2.2.2.2.2.1, x.2.2.2.2.2.2.2.2.2)) fun r19 =>
  (some (.inl (r18.1, r19.1, x.1, x.2.1, x.2.2.1, x.2.2.2.1, x.2.2.2.2.1, x.2.2.2.2.2.1, r18.2, r19.2)))))
  (Option.bind
  ((cond (decide (x.1 = (3 : Int)))
  (Option.bind (xdr_Writer_Bool_v2 N ((decide (x.2.1 = (1 : Int))), x.2.2.2.2.2.2.1, x.2.2.2.2.2.2.2.2.1)) fun r22 =>
  (Option.bind (granaryref01_Writer_Bool_v1 ((decide (x.2.1 = (1 : Int))), x.2.2.2.2.2.2.2.1, x.2.2.2.2.2.2.2.2.2)) fun r24 =>
  (some (.inl (r22.1, r24.1, x.1, x.2.1, x.2.2.1, x.2.2.2.1, x.2.2.2.2.1, x.2.2.2.2.2.1, r22.2, r24.2)))))
  (Option.bind
  ((cond (decide (x.1 = (4 : Int)))
  (Option.bind (xdr_Writer_Fixed N (x.2.2.1, x.2.2.2.2.2.2.1, x.2.2.2.2.2.2.2.2.1)) fun r26 =>
  (Option.bind (granaryref01_Writer_Fixed_v1 N (x.2.2.1, x.2.2.2.2.2.2.2.1, x.2.2.2.2.2.2.2.2.2)) fun r27 =>
  (some (.inl (r26.1, r27.1, x.1, x.2.1, x.2.2.1, x.2.2.2.1, x.2.2.2.2.1, x.2.2.2.2.2.1, r26.2, r27.2)))))
  (Option.bind
  ((cond (decide (x.1 = (5 : Int)))
  (Option.bind (xdr_Writer_Opaque_v5 N (x.2.2.1, x.2.2.2.1, x.2.2.2.2.2.2.1, x.2.2.2.2.2.2.2.2.1)) fun r29 =>
  (Option.bind (granaryref01_Writer_Opaque_v2 N (x.2.2.1, x.2.2.2.1, x.2.2.2.2.2.2.2.1, x.2.2.2.2.2.2.2.2.2)) fun r30 =>
  (some (.inl (r29.1, r30.1, x.1, x.2.1, x.2.2.1, x.2.2.2.1, x.2.2.2.2.1, x.2.2.2.2.2.1, r29.2, r30.2)))))
  (Option.bind
  ((cond (decide (x.1 = (6 : Int)))
  (Option.bind (xdr_Writer_Text N ((List.map (fun (n : Int) => UInt8.ofNat n.toNat) x.2.2.1), x.2.2.2.1, x.2.2.2.2.2.2.1, x.2.2.2.2.2.2.2.2.1)) fun r33 =>
  (Option.bind (granaryref01_Writer_Opaque_v2 N (x.2.2.1, x.2.2.2.1, x.2.2.2.2.2.2.2.1, x.2.2.2.2.2.2.2.2.2)) fun r34 =>
  (some (.inl (r33.1, r34.1, x.1, x.2.1, x.2.2.1, x.2.2.2.1, x.2.2.2.2.1, x.2.2.2.2.2.1, r33.2, r34.2)))))
  (Option.bind
  ((cond (decide (x.1 = (8 : Int)))
  (Option.bind (xdr_PutList_uint32_v1 N (x.2.2.2.2.1, x.2.2.2.1, x.2.2.2.2.2.2.1, x.2.2.2.2.2.2.2.2.1)) fun r36 =>
  (Option.bind
  (cond (decide (x.2.2.2.2.2.2.2.1 = (0 : Int)))
  (some (decide (x.2.2.2.1 < (((List.length x.2.2.2.2.1) : Nat) : Int))))
  (some false))
  fun r40 =>
  (Option.bind
  (cond r40
  (some (1 : Int))
  (some x.2.2.2.2.2.2.2.1))
  fun r41 =>
  (Option.bind (granaryref01_Writer_Uint_v1 ((wrapF .u32 (((List.length x.2.2.2.2.1) : Nat) : Int)), r41, x.2.2.2.2.2.2.2.2.2)) fun r44 =>
  (Option.bind (granarylaw01_writes_v1_l1 N ((0 : Int), r44.1, x.1, x.2.1, x.2.2.1, x.2.2.2.1, x.2.2.2.2.1, r44.2)) fun r45 =>
  (some (.inl (r36.1, r45.1, r45.2.1, r45.2.2.1, r45.2.2.2.1, r45.2.2.2.2.1, r45.2.2.2.2.2.1, x.2.2.2.2.2.1, r36.2, r45.2.2.2.2.2.2))))))))
  (Option.bind
  ((cond (decide (x.1 = (11 : Int)))
  (Option.bind (xdr_PutList_string_v2 N (x.2.2.2.2.2.1, x.2.2.2.1, x.2.2.2.2.2.2.1, x.2.2.2.2.2.2.2.2.1)) fun r47 =>
  (Option.bind
  (cond (decide (x.2.2.2.2.2.2.2.1 = (0 : Int)))
  (some (decide (x.2.2.2.1 < (((List.length x.2.2.2.2.2.1) : Nat) : Int))))
  (some false))
  fun r51 =>
  (Option.bind
  (cond r51
  (some (1 : Int))
  (some x.2.2.2.2.2.2.2.1))
  fun r52 =>
  (Option.bind (granaryref01_Writer_Uint_v1 ((wrapF .u32 (((List.length x.2.2.2.2.2.1) : Nat) : Int)), r52, x.2.2.2.2.2.2.2.2.2)) fun r55 =>
  (Option.bind (granarylaw01_writes_v1_l3 N ((0 : Int), r55.1, x.1, x.2.1, x.2.2.1, x.2.2.2.1, x.2.2.2.2.1, x.2.2.2.2.2.1, r55.2)) fun r56 =>
  (some (.inl (r47.1, r56.1, r56.2.1, r56.2.2.1, r56.2.2.2.1, r56.2.2.2.2.1, r56.2.2.2.2.2.1, r56.2.2.2.2.2.2.1, r47.2, r56.2.2.2.2.2.2.2))))))))
  (Option.bind
  ((cond (decide (x.1 = (9 : Int)))
  (Option.bind (xdr_PutChain_string_v2 N (x.2.2.2.2.2.1, x.2.2.2.2.2.2.1, x.2.2.2.2.2.2.2.2.1)) fun r58 =>
  (Option.bind (granarylaw01_writes_v1_l5 N ((0 : Int), x.2.2.2.2.2.2.2.1, x.2.2.2.2.2.2.2.2.2, x.1, x.2.1, x.2.2.1, x.2.2.2.1, x.2.2.2.2.1, x.2.2.2.2.2.1)) fun r59 =>
  (Option.bind (granaryref01_Writer_Bool_v1 (false, r59.1, r59.2.2.2.2.2.2.2)) fun r60 =>
  (some (.inl (r58.1, r60.1, r59.2.1, r59.2.2.1, r59.2.2.2.1, r59.2.2.2.2.1, r59.2.2.2.2.2.1, r59.2.2.2.2.2.2.1, r58.2, r60.2))))))
  (Option.bind
  ((cond (decide (x.1 = (10 : Int)))
  (cond (decide (x.2.1 = (0 : Int)))
  (Option.bind (xdr_PutOption_uint32_v4 N (x.2.2.2.2.2.2.1, x.2.2.2.2.2.2.2.2.1)) fun r63 =>
  (Option.bind (granaryref01_Writer_Bool_v1 (false, x.2.2.2.2.2.2.2.1, x.2.2.2.2.2.2.2.2.2)) fun r64 =>
  (some (.inr ((r63.1, r64.1, r63.2, r64.2))))))
  (Option.bind (xdr_PutOption_uint32_v1 N (x.2.2.2.2.2.2.1, (wrapF .u32 x.2.1), x.2.2.2.2.2.2.2.2.1)) fun r66 =>
  (Option.bind (granaryref01_Writer_Bool_v1 (true, x.2.2.2.2.2.2.2.1, x.2.2.2.2.2.2.2.2.2)) fun r67 =>
  (Option.bind (granaryref01_Writer_Uint_v1 (r66.2.1, r67.1, r67.2)) fun r68 =>
  (some (.inl (r66.1, r68.1, r66.2.2, r68.2)))))))
  (some (.inl (x.2.2.2.2.2.2.1, x.2.2.2.2.2.2.2.1, x.2.2.2.2.2.2.2.2.1, x.2.2.2.2.2.2.2.2.2)))) : Option ((Int × Int × (List Int) × (List Int)) ⊕ (Int × Int × (List Int) × (List Int))))
  fun r69 =>
  (match r69 with
  | .inl y70 =>
  (some (.inl (y70.1, y70.2.1, x.1, x.2.1, x.2.2.1, x.2.2.2.1, x.2.2.2.2.1, x.2.2.2.2.2.1, y70.2.2.1, y70.2.2.2)))
  | .inr z71 =>
  (some (.inr ((z71.1, z71.2.1, x.1, x.2.1, x.2.2.1, x.2.2.2.1, x.2.2.2.2.1, x.2.2.2.2.2.1, z71.2.2.1, z71.2.2.2))))))) : Option ((Int × Int × Int × Int × (List Int) × Int × (List Int) × (List (List UInt8)) × (List Int) × (List Int)) ⊕ (Int × Int × Int × Int × (List Int) × Int × (List Int) × (List (List UInt8)) × (List Int) × (List Int))))
  fun r72 =>
  (match r72 with
  | .inl y73 =>
  (some (.inl (y73.1, y73.2.1, y73.2.2.1, y73.2.2.2.1, y73.2.2.2.2.1, y73.2.2.2.2.2.1, y73.2.2.2.2.2.2.1, y73.2.2.2.2.2.2.2.1, y73.2.2.2.2.2.2.2.2.1, y73.2.2.2.2.2.2.2.2.2)))
  | .inr z74 =>
  (some (.inr ((z74.1, z74.2.1, z74.2.2.1, z74.2.2.2.1, z74.2.2.2.2.1, z74.2.2.2.2.2.1, z74.2.2.2.2.2.2.1, z74.2.2.2.2.2.2.2.1, z74.2.2.2.2.2.2.2.2.1, z74.2.2.2.2.2.2.2.2.2))))))) : Option ((Int × Int × Int × Int × (List Int) × Int × (List Int) × (List (List UInt8)) × (List Int) × (List Int)) ⊕ (Int × Int × Int × Int × (List Int) × Int × (List Int) × (List (List UInt8)) × (List Int) × (List Int))))
  fun r75 =>
  (match r75 with
  | .inl y76 =>
  (some (.inl (y76.1, y76.2.1, y76.2.2.1, y76.2.2.2.1, y76.2.2.2.2.1, y76.2.2.2.2.2.1, y76.2.2.2.2.2.2.1, y76.2.2.2.2.2.2.2.1, y76.2.2.2.2.2.2.2.2.1, y76.2.2.2.2.2.2.2.2.2)))
  | .inr z77 =>
  (some (.inr ((z77.1, z77.2.1, z77.2.2.1, z77.2.2.2.1, z77.2.2.2.2.1, z77.2.2.2.2.2.1, z77.2.2.2.2.2.2.1, z77.2.2.2.2.2.2.2.1, z77.2.2.2.2.2.2.2.2.1, z77.2.2.2.2.2.2.2.2.2))))))) : Option ((Int × Int × Int × Int × (List Int) × Int × (List Int) × (List (List UInt8)) × (List Int) × (List Int)) ⊕ (Int × Int × Int × Int × (List Int) × Int × (List Int) × (List (List UInt8)) × (List Int) × (List Int))))
  fun r78 =>
  (match r78 with
  | .inl y79 =>
  (some (.inl (y79.1, y79.2.1, y79.2.2.1, y79.2.2.2.1, y79.2.2.2.2.1, y79.2.2.2.2.2.1, y79.2.2.2.2.2.2.1, y79.2.2.2.2.2.2.2.1, y79.2.2.2.2.2.2.2.2.1, y79.2.2.2.2.2.2.2.2.2)))
  | .inr z80 =>
  (some (.inr ((z80.1, z80.2.1, z80.2.2.1, z80.2.2.2.1, z80.2.2.2.2.1, z80.2.2.2.2.2.1, z80.2.2.2.2.2.2.1, z80.2.2.2.2.2.2.2.1, z80.2.2.2.2.2.2.2.2.1, z80.2.2.2.2.2.2.2.2.2))))))) : Option ((Int × Int × Int × Int × (List Int) × Int × (List Int) × (List (List UInt8)) × (List Int) × (List Int)) ⊕ (Int × Int × Int × Int × (List Int) × Int × (List Int) × (List (List UInt8)) × (List Int) × (List Int))))
  fun r81 =>
  (match r81 with
  | .inl y82 =>
  (some (.inl (y82.1, y82.2.1, y82.2.2.1, y82.2.2.2.1, y82.2.2.2.2.1, y82.2.2.2.2.2.1, y82.2.2.2.2.2.2.1, y82.2.2.2.2.2.2.2.1, y82.2.2.2.2.2.2.2.2.1, y82.2.2.2.2.2.2.2.2.2)))
  | .inr z83 =>
  (some (.inr ((z83.1, z83.2.1, z83.2.2.1, z83.2.2.2.1, z83.2.2.2.2.1, z83.2.2.2.2.2.1, z83.2.2.2.2.2.2.1, z83.2.2.2.2.2.2.2.1, z83.2.2.2.2.2.2.2.2.1, z83.2.2.2.2.2.2.2.2.2))))))) : Option ((Int × Int × Int × Int × (List Int) × Int × (List Int) × (List (List UInt8)) × (List Int) × (List Int)) ⊕ (Int × Int × Int × Int × (List Int) × Int × (List Int) × (List (List UInt8)) × (List Int) × (List Int))))
  fun r84 =>
  (match r84 with
  | .inl y85 =>
  (some (.inl (y85.1, y85.2.1, y85.2.2.1, y85.2.2.2.1, y85.2.2.2.2.1, y85.2.2.2.2.2.1, y85.2.2.2.2.2.2.1, y85.2.2.2.2.2.2.2.1, y85.2.2.2.2.2.2.2.2.1, y85.2.2.2.2.2.2.2.2.2)))
  | .inr z86 =>
  (some (.inr ((z86.1, z86.2.1, z86.2.2.1, z86.2.2.2.1, z86.2.2.2.2.1, z86.2.2.2.2.2.1, z86.2.2.2.2.2.2.1, z86.2.2.2.2.2.2.2.1, z86.2.2.2.2.2.2.2.2.1, z86.2.2.2.2.2.2.2.2.2))))))) : Option ((Int × Int × Int × Int × (List Int) × Int × (List Int) × (List (List UInt8)) × (List Int) × (List Int)) ⊕ (Int × Int × Int × Int × (List Int) × Int × (List Int) × (List (List UInt8)) × (List Int) × (List Int))))
  fun r87 =>
  (match r87 with
  | .inl y88 =>
  (some (.inl (y88.1, y88.2.1, y88.2.2.1, y88.2.2.2.1, y88.2.2.2.2.1, y88.2.2.2.2.2.1, y88.2.2.2.2.2.2.1, y88.2.2.2.2.2.2.2.1, y88.2.2.2.2.2.2.2.2.1, y88.2.2.2.2.2.2.2.2.2)))
  | .inr z89 =>
  (some (.inr ((z89.1, z89.2.1, z89.2.2.1, z89.2.2.2.1, z89.2.2.2.2.1, z89.2.2.2.2.2.1, z89.2.2.2.2.2.2.1, z89.2.2.2.2.2.2.2.1, z89.2.2.2.2.2.2.2.2.1, z89.2.2.2.2.2.2.2.2.2))))))) : Option ((Int × Int × Int × Int × (List Int) × Int × (List Int) × (List (List UInt8)) × (List Int) × (List Int)) ⊕ (Int × Int × Int × Int × (List Int) × Int × (List Int) × (List (List UInt8)) × (List Int) × (List Int))))
  fun r90 =>
  (match r90 with
  | .inl y91 =>
  (some (.inl (y91.1, y91.2.1, y91.2.2.1, y91.2.2.2.1, y91.2.2.2.2.1, y91.2.2.2.2.2.1, y91.2.2.2.2.2.2.1, y91.2.2.2.2.2.2.2.1, y91.2.2.2.2.2.2.2.2.1, y91.2.2.2.2.2.2.2.2.2)))
  | .inr z92 =>
  (some (.inr ((z92.1, z92.2.1, z92.2.2.1, z92.2.2.2.1, z92.2.2.2.2.1, z92.2.2.2.2.2.1, z92.2.2.2.2.2.2.1, z92.2.2.2.2.2.2.2.1, z92.2.2.2.2.2.2.2.2.1, z92.2.2.2.2.2.2.2.2.2))))))) : Option ((Int × Int × Int × Int × (List Int) × Int × (List Int) × (List (List UInt8)) × (List Int) × (List Int)) ⊕ (Int × Int × Int × Int × (List Int) × Int × (List Int) × (List (List UInt8)) × (List Int) × (List Int))))
  fun r93 =>
  (match r93 with
  | .inl y94 =>
  (some (.inl (y94.1, y94.2.1, y94.2.2.1, y94.2.2.2.1, y94.2.2.2.2.1, y94.2.2.2.2.2.1, y94.2.2.2.2.2.2.1, y94.2.2.2.2.2.2.2.1, y94.2.2.2.2.2.2.2.2.1, y94.2.2.2.2.2.2.2.2.2)))
  | .inr z95 =>
  (some (.inr ((z95.1, z95.2.1, z95.2.2.1, z95.2.2.2.1, z95.2.2.2.2.1, z95.2.2.2.2.2.1, z95.2.2.2.2.2.2.1, z95.2.2.2.2.2.2.2.1, z95.2.2.2.2.2.2.2.2.1, z95.2.2.2.2.2.2.2.2.2))))))) : Option ((Int × Int × Int × Int × (List Int) × Int × (List Int) × (List (List UInt8)) × (List Int) × (List Int)) ⊕ (Int × Int × Int × Int × (List Int) × Int × (List Int) × (List (List UInt8)) × (List Int) × (List Int))))
  fun r96 =>
  (match r96 with
  | .inl y97 =>
  (some (.inl (y97.1, y97.2.1, y97.2.2.1, y97.2.2.2.1, y97.2.2.2.2.1, y97.2.2.2.2.2.1, y97.2.2.2.2.2.2.1, y97.2.2.2.2.2.2.2.1, y97.2.2.2.2.2.2.2.2.1, y97.2.2.2.2.2.2.2.2.2)))
  | .inr z98 =>
  (some (.inr ((z98.1, z98.2.1, z98.2.2.1, z98.2.2.2.1, z98.2.2.2.2.1, z98.2.2.2.2.2.1, z98.2.2.2.2.2.2.1, z98.2.2.2.2.2.2.2.1, z98.2.2.2.2.2.2.2.2.1, z98.2.2.2.2.2.2.2.2.2)))))))) : Option ((Int × Int × Int × Int × (List Int) × Int × (List Int) × (List (List UInt8)) × (List Int) × (List Int)) ⊕ (Int × Int × Int × Int × (List Int) × Int × (List Int) × (List (List UInt8)) × (List Int) × (List Int))))
  fun r99 =>
  (match r99 with
  | .inl y100 =>
  (some (y100.1, y100.2.1, y100.2.2.2.2.2.2.2.2.1, y100.2.2.2.2.2.2.2.2.2))
  | .inr z101 =>
  (some (z101.1, z101.2.1, z101.2.2.2.2.2.2.2.2.1, z101.2.2.2.2.2.2.2.2.2))))
end Go.Rf.W
