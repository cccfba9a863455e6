/-
  The printed functions: plain data in, plain data out; none: beyond the number of rounds N, or where Go would panic.
-/
import Derived.Test.YtcehhkdpdehjhaaRfA
set_option linter.unusedVariables false
set_option maxRecDepth 100000
namespace Go.Rf.W
open Go Go.Rf
noncomputable def granarylaw12_long (x : Int × Int × Int × Int × Int × Int × Int × Int × Int × Int × Int × Int × Int × (List UInt8)) : Option (Bool) :=
  (some (decide ((2000 : Int) < (((List.length x.2.2.2.2.2.2.2.2.2.2.2.2.2) : Nat) : Int))))
noncomputable def inode_New (x : Int × Int × Int × Int × Int × Int × Int) : Option (Int × Int × Int × Int × Int × Int × Int × Int × Int × Int × (List UInt8) × Int) :=
  (let v1 : List UInt8 := ([] : List UInt8)
  (Option.bind
  (cond (decide (x.1 = (0 : Int)))
  (some true)
  (some (decide (x.2.1 = (0 : Int)))))
  fun r7 =>
  (cond r7
  (some ((0 : Int), (0 : Int), (0 : Int), (0 : Int), (0 : Int), (0 : Int), (0 : Int), (0 : Int), (0 : Int), (0 : Int), ([] : List UInt8), (120 : Int)))
  (Option.bind
  ((cond (decide (x.2.2.1 = (2 : Int)))
  (some (.inl (v1, (2 : Int))))
  (cond (!(decide (x.2.2.1 = (1 : Int))))
  (some (.inr (([] : List UInt8))))
  (some (.inl (v1, (1 : Int)))))) : Option (((List UInt8) × Int) ⊕ ((List UInt8))))
  fun r12 =>
  (match r12 with
  | .inl y13 =>
  (some (x.1, x.2.1, x.2.2.1, (andF .u32 x.2.2.2.1 (4095 : Int)), y13.2, x.2.2.2.2.1, x.2.2.2.2.2.1, x.2.2.2.2.2.2, x.2.2.2.2.2.2, x.2.2.2.2.2.2, ([] : List UInt8), (0 : Int)))
  | .inr z14 =>
  (some ((0 : Int), (0 : Int), (0 : Int), (0 : Int), (0 : Int), (0 : Int), (0 : Int), (0 : Int), (0 : Int), (0 : Int), z14, (120 : Int))))))))
noncomputable def inode_kind (x : Int) : Option (Bool) :=
  (Option.bind
  (cond (decide (x = (1 : Int)))
  (some true)
  (cond (decide (x = (2 : Int)))
  (some true)
  (some (decide (x = (5 : Int))))))
  fun r4 =>
  (some r4))
noncomputable def inode_Check (x : Int × Int × Int × Int × Int × Int × Int × Int × Int × Int × Int × Int × Int × (List UInt8)) : Option (Int) :=
  (Option.bind
  (cond (decide (x.1 = (0 : Int)))
  (some true)
  (cond (decide (x.2.1 = (0 : Int)))
  (some true)
  (Option.bind (inode_kind x.2.2.1) fun r3 =>
  (cond (!r3)
  (some true)
  (some (decide ((4095 : Int) < x.2.2.2.1)))))))
  fun r6 =>
  (cond r6
  (some (120 : Int))
  (cond (decide ((32000 : Int) < x.2.2.2.2.1))
  (some (123 : Int))
  (cond (decide ((255 : Int) < (((List.length x.2.2.2.2.2.2.2.2.2.2.2.2.2) : Nat) : Int)))
  (some (1 : Int))
  (cond (decide ((1048576 : Int) < x.2.2.2.2.2.2.2.1))
  (some (122 : Int))
  (cond (!(decide (x.2.2.1 = (5 : Int))))
  (cond (!(decide (x.2.2.2.2.2.2.2.2.2.2.2.2.2 = ([] : List UInt8))))
  (some (120 : Int))
  (some (0 : Int)))
  (Option.bind
  (cond (decide (x.2.2.2.2.2.2.2.2.2.2.2.2.2 = ([] : List UInt8)))
  (some true)
  (cond (!(decide (x.2.2.2.2.2.2.2.1 = (wrapF .u64 (((List.length x.2.2.2.2.2.2.2.2.2.2.2.2.2) : Nat) : Int)))))
  (some true)
  (cond (!(decide (x.2.2.2.2.2.2.2.2.2.2.2.2.1 = (0 : Int))))
  (some true)
  (some (!(decide (x.2.2.2.2.2.2.2.2.1 = (0 : Int))))))))
  fun r19 =>
  (cond r19
  (some (120 : Int))
  (some (0 : Int))))))))))
noncomputable def octet_Lay_b0 (N : Nat) (next : Nat × Nat × Int × Int × (List Int) → Option (((List Int)))) (x : Nat × Nat × Int × Int × (List Int)) : Option (((List Int))) :=
  (cond (decide ((0 : Int) ≤ x.2.2.2.1))
  (cond ((decide ((0 : Int) ≤ x.2.2.2.1)) && (decide (x.2.2.2.1 < ((x.2.1 : Nat) : Int))))
  ((let v3 : Nat := ((Int.toNat x.2.2.2.1) + x.1)
  (cond (decide (v3 < (List.length x.2.2.2.2)))
  ((next (x.1, x.2.1, (shrF .u64 x.2.2.1 (8 : Int)), (wrapF .i64 (x.2.2.2.1 - (1 : Int))), (List.set x.2.2.2.2 v3 (wrapF .u8 x.2.2.1)))))
  none)))
  none)
  (some x.2.2.2.2))
noncomputable def octet_Lay_l0 (N : Nat) : Nat × Nat × Int × Int × (List Int) → Option (((List Int))) := loopF (octet_Lay_b0 N) N
noncomputable def octet_Lay (N : Nat) (x : Nat × Nat × Int × (List Int)) : Option ((List Int)) :=
  (Option.bind (octet_Lay_l0 N (x.1, x.2.1, x.2.2.1, (wrapF .i64 (((x.2.1 : Nat) : Int) - (1 : Int))), x.2.2.2)) fun r3 =>
  (some r3))
noncomputable def octet_Put (N : Nat) (x : Int × Int) : Option ((List Int)) :=
  (cond (((decide ((0 : Int) ≤ x.2)) && (fits 1 (Int.toNat x.2))) && (fits 1 (List.length (List.replicate (Int.toNat x.2) (EK.dflt (.int .u8))))))
  ((let v1 : List Int := (List.replicate (Int.toNat x.2) (EK.dflt (.int .u8)))
  (let v3 : Int := (wrapF .i64 ((((List.length v1) : Nat) : Int) - x.2))
  (cond (((decide ((0 : Int) ≤ v3)) && (decide (v3 ≤ (((List.length v1) : Nat) : Int)))) && (decide ((((List.length v1) : Nat) : Int) ≤ (((List.length v1) : Nat) : Int))))
  ((Option.bind (octet_Lay N ((Int.toNat v3), ((List.length v1) - (Int.toNat v3)), x.1, v1)) fun r6 =>
  (some r6)))
  none))))
  none)
noncomputable def inode_words (x : Int × Int × Int × Int × Int × Int × Int × Int × Int × Int × Int × Int × Int × (List UInt8)) : Option (Nat × Nat × (List Int)) :=
  (some (0, 6, ([(wrapF .u64 x.2.1), (wrapF .u64 x.2.2.1), (wrapF .u64 x.2.2.2.1), (wrapF .u64 x.2.2.2.2.1), (wrapF .u64 x.2.2.2.2.2.1), (wrapF .u64 x.2.2.2.2.2.2.1)] : List Int)))
noncomputable def octet_Put_v1 (N : Nat) (x : Int × Int × (List Int)) : Option ((List Int)) :=
  (cond (((decide ((0 : Int) ≤ x.2.1)) && (fits 1 (Int.toNat x.2.1))) && (fits 1 ((List.length x.2.2) + (List.length (List.replicate (Int.toNat x.2.1) (EK.dflt (.int .u8)))))))
  ((let v1 : List Int := (x.2.2 ++ (List.replicate (Int.toNat x.2.1) (EK.dflt (.int .u8))))
  (let v3 : Int := (wrapF .i64 ((((List.length v1) : Nat) : Int) - x.2.1))
  (cond (((decide ((0 : Int) ≤ v3)) && (decide (v3 ≤ (((List.length v1) : Nat) : Int)))) && (decide ((((List.length v1) : Nat) : Int) ≤ (((List.length v1) : Nat) : Int))))
  ((Option.bind (octet_Lay N ((Int.toNat v3), ((List.length v1) - (Int.toNat v3)), x.1, v1)) fun r6 =>
  (some r6)))
  none))))
  none)
noncomputable def inode_longs (x : Int × Int × Int × Int × Int × Int × Int × Int × Int × Int × Int × Int × Int × (List UInt8)) : Option (Nat × Nat × (List Int)) :=
  (some (0, 6, ([x.2.2.2.2.2.2.2.1, x.2.2.2.2.2.2.2.2.1, x.2.2.2.2.2.2.2.2.2.1, x.2.2.2.2.2.2.2.2.2.2.1, x.2.2.2.2.2.2.2.2.2.2.2.1, x.2.2.2.2.2.2.2.2.2.2.2.2.1] : List Int)))
noncomputable def inode_Put_b0 (N : Nat) (next : Nat × Nat × Int × Int × (List Int) × (List Int) → Option (((List Int) × (List Int)))) (x : Nat × Nat × Int × Int × (List Int) × (List Int)) : Option (((List Int) × (List Int))) :=
  (cond (decide (x.2.2.2.1 < x.2.2.1))
  (cond ((decide ((0 : Int) ≤ x.2.2.2.1)) && (decide (x.2.2.2.1 < ((x.2.1 : Nat) : Int))))
  ((let v2 : Nat := ((Int.toNat x.2.2.2.1) + x.1)
  (cond (decide (v2 < (List.length x.2.2.2.2.2)))
  ((Option.bind (octet_Put_v1 N ((List.getD x.2.2.2.2.2 v2 (EK.dflt (.int .u64))), (4 : Int), x.2.2.2.2.1)) fun r4 =>
  (next (x.1, x.2.1, x.2.2.1, (wrapF .i64 (x.2.2.2.1 + (1 : Int))), r4, x.2.2.2.2.2))))
  none)))
  none)
  (some (x.2.2.2.2.2, x.2.2.2.2.1)))
noncomputable def inode_Put_l0 (N : Nat) : Nat × Nat × Int × Int × (List Int) × (List Int) → Option (((List Int) × (List Int))) := loopF (inode_Put_b0 N) N
noncomputable def inode_Put_b2 (N : Nat) (next : Nat × Nat × Int × Int × (List Int) × (List Int) → Option (((List Int) × (List Int)))) (x : Nat × Nat × Int × Int × (List Int) × (List Int)) : Option (((List Int) × (List Int))) :=
  (cond (decide (x.2.2.2.1 < x.2.2.1))
  (cond ((decide ((0 : Int) ≤ x.2.2.2.1)) && (decide (x.2.2.2.1 < ((x.2.1 : Nat) : Int))))
  ((let v2 : Nat := ((Int.toNat x.2.2.2.1) + x.1)
  (cond (decide (v2 < (List.length x.2.2.2.2.2)))
  ((Option.bind (octet_Put_v1 N ((List.getD x.2.2.2.2.2 v2 (EK.dflt (.int .u64))), (8 : Int), x.2.2.2.2.1)) fun r4 =>
  (next (x.1, x.2.1, x.2.2.1, (wrapF .i64 (x.2.2.2.1 + (1 : Int))), r4, x.2.2.2.2.2))))
  none)))
  none)
  (some (x.2.2.2.2.2, x.2.2.2.2.1)))
noncomputable def inode_Put_l2 (N : Nat) : Nat × Nat × Int × Int × (List Int) × (List Int) → Option (((List Int) × (List Int))) := loopF (inode_Put_b2 N) N
noncomputable def inode_Put (N : Nat) (x : Int × Int × Int × Int × Int × Int × Int × Int × Int × Int × Int × Int × Int × (List UInt8)) : Option (Int × (List Int)) :=
  (Option.bind (inode_Check (x.1, x.2.1, x.2.2.1, x.2.2.2.1, x.2.2.2.2.1, x.2.2.2.2.2.1, x.2.2.2.2.2.2.1, x.2.2.2.2.2.2.2.1, x.2.2.2.2.2.2.2.2.1, x.2.2.2.2.2.2.2.2.2.1, x.2.2.2.2.2.2.2.2.2.2.1, x.2.2.2.2.2.2.2.2.2.2.2.1, x.2.2.2.2.2.2.2.2.2.2.2.2.1, x.2.2.2.2.2.2.2.2.2.2.2.2.2)) fun r1 =>
  (cond (!(decide (r1 = (0 : Int))))
  (some (r1, ([] : List Int)))
  (Option.bind (octet_Put N (x.1, (8 : Int))) fun r3 =>
  (Option.bind (inode_words (x.1, x.2.1, x.2.2.1, x.2.2.2.1, x.2.2.2.2.1, x.2.2.2.2.2.1, x.2.2.2.2.2.2.1, x.2.2.2.2.2.2.2.1, x.2.2.2.2.2.2.2.2.1, x.2.2.2.2.2.2.2.2.2.1, x.2.2.2.2.2.2.2.2.2.2.1, x.2.2.2.2.2.2.2.2.2.2.2.1, x.2.2.2.2.2.2.2.2.2.2.2.2.1, x.2.2.2.2.2.2.2.2.2.2.2.2.2)) fun r4 =>
  (Option.bind (inode_Put_l0 N (r4.1, r4.2.1, ((r4.2.1 : Nat) : Int), (0 : Int), r3, r4.2.2)) fun r6 =>
  (Option.bind (inode_longs (x.1, x.2.1, x.2.2.1, x.2.2.2.1, x.2.2.2.2.1, x.2.2.2.2.2.1, x.2.2.2.2.2.2.1, x.2.2.2.2.2.2.2.1, x.2.2.2.2.2.2.2.2.1, x.2.2.2.2.2.2.2.2.2.1, x.2.2.2.2.2.2.2.2.2.2.1, x.2.2.2.2.2.2.2.2.2.2.2.1, x.2.2.2.2.2.2.2.2.2.2.2.2.1, x.2.2.2.2.2.2.2.2.2.2.2.2.2)) fun r7 =>
  (Option.bind (inode_Put_l2 N (r7.1, r7.2.1, ((r7.2.1 : Nat) : Int), (0 : Int), r6.2, r7.2.2)) fun r9 =>
  (Option.bind (octet_Put_v1 N ((wrapF .u64 (((List.length x.2.2.2.2.2.2.2.2.2.2.2.2.2) : Nat) : Int)), (4 : Int), r9.2)) fun r12 =>
  (cond (fits 1 ((List.length r12) + (List.length (List.map (fun b => (b.toNat : Int)) x.2.2.2.2.2.2.2.2.2.2.2.2.2))))
  ((let v13 : List Int := (r12 ++ (List.map (fun b => (b.toNat : Int)) x.2.2.2.2.2.2.2.2.2.2.2.2.2))
  (let v16 : Int := (andF .i64 (wrapF .i64 ((0 : Int) - (((List.length x.2.2.2.2.2.2.2.2.2.2.2.2.2) : Nat) : Int))) (3 : Int))
  (cond (((decide ((0 : Int) ≤ v16)) && (fits 1 (Int.toNat v16))) && (fits 1 ((List.length v13) + (List.length (List.replicate (Int.toNat v16) (EK.dflt (.int .u8)))))))
  ((some ((0 : Int), (v13 ++ (List.replicate (Int.toNat v16) (EK.dflt (.int .u8)))))))
  none))))
  none)))))))))
noncomputable def octet_Get_b0 (N : Nat) (next : Int × (List Int) × Int × Int → Option (Int)) (x : Int × (List Int) × Int × Int) : Option (Int) :=
  (cond (decide (x.2.2.2 < x.2.2.1))
  (cond ((decide ((0 : Int) ≤ x.2.2.2)) && (decide (x.2.2.2 < (((List.length x.2.1) : Nat) : Int))))
  ((next ((orF .u64 (shlF .u64 x.1 (8 : Int)) (wrapF .u64 (List.getD x.2.1 (Int.toNat x.2.2.2) (EK.dflt (.int .u8))))), x.2.1, x.2.2.1, (wrapF .i64 (x.2.2.2 + (1 : Int))))))
  none)
  (some x.1))
noncomputable def octet_Get_l0 (N : Nat) : Int × (List Int) × Int × Int → Option (Int) := loopF (octet_Get_b0 N) N
noncomputable def octet_Get (N : Nat) (x : (List Int)) : Option (Int) :=
  (Option.bind (octet_Get_l0 N ((0 : Int), x, (((List.length x) : Nat) : Int), (0 : Int))) fun r2 =>
  (some r2))
noncomputable def inode_Get_1 (x : Int) : Option (Bool) :=
  (some (!(decide (x = (0 : Int)))))
noncomputable def slices_IndexFunc_byte_byte_b0 (N : Nat) (next : (List Int) × Int × Int → Option (Int ⊕ Unit)) (x : (List Int) × Int × Int) : Option (Int ⊕ Unit) :=
  (cond (decide (x.2.2 < x.2.1))
  (cond ((decide ((0 : Int) ≤ x.2.2)) && (decide (x.2.2 < (((List.length x.1) : Nat) : Int))))
  ((Option.bind (inode_Get_1 (List.getD x.1 (Int.toNat x.2.2) (EK.dflt (.int .u8)))) fun r3 =>
  (cond r3
  (some (.inl x.2.2))
  (next (x.1, x.2.1, (wrapF .i64 (x.2.2 + (1 : Int))))))))
  none)
  (some (.inr (()))))
noncomputable def slices_IndexFunc_byte_byte_l0 (N : Nat) : (List Int) × Int × Int → Option (Int ⊕ Unit) := loopF (slices_IndexFunc_byte_byte_b0 N) N
noncomputable def slices_IndexFunc_byte_byte (N : Nat) (x : (List Int)) : Option (Int) :=
  (Option.bind (slices_IndexFunc_byte_byte_l0 N (x, (((List.length x) : Nat) : Int), (0 : Int))) fun r2 =>
  (match r2 with
  | .inl y3 =>
  (some y3)
  | .inr z4 =>
  (some (-1 : Int))))
noncomputable def slices_ContainsFunc_byte_byte (N : Nat) (x : (List Int)) : Option (Bool) :=
  (Option.bind (slices_IndexFunc_byte_byte N x) fun r1 =>
  (some (decide ((0 : Int) ≤ r1))))
noncomputable def inode_Get_2 (N : Nat) (x : Int × (List Int)) : Option (Int) :=
  (let v2 : Int := (wrapF .i64 ((8 : Int) + (wrapF .i64 ((4 : Int) * x.1))))
  (let v4 : Int := (wrapF .i64 ((12 : Int) + (wrapF .i64 ((4 : Int) * x.1))))
  (cond (((decide ((0 : Int) ≤ v2)) && (decide (v2 ≤ v4))) && (decide (v4 ≤ (((List.length x.2) : Nat) : Int))))
  ((Option.bind (octet_Get N (List.take ((Int.toNat v4) - (Int.toNat v2)) (List.drop (Int.toNat v2) x.2))) fun r6 =>
  (some (wrapF .u32 r6))))
  none)))
noncomputable def inode_Get_3 (N : Nat) (x : Int × (List Int)) : Option (Int) :=
  (let v2 : Int := (wrapF .i64 ((32 : Int) + (wrapF .i64 ((8 : Int) * x.1))))
  (let v4 : Int := (wrapF .i64 ((40 : Int) + (wrapF .i64 ((8 : Int) * x.1))))
  (cond (((decide ((0 : Int) ≤ v2)) && (decide (v2 ≤ v4))) && (decide (v4 ≤ (((List.length x.2) : Nat) : Int))))
  ((Option.bind (octet_Get N (List.take ((Int.toNat v4) - (Int.toNat v2)) (List.drop (Int.toNat v2) x.2))) fun r6 =>
  (some r6)))
  none)))
noncomputable def inode_Get (N : Nat) (x : (List Int)) : Option (Int × Int × Int × Int × Int × Int × Int × Int × Int × Int × Int × Int × Int × (List UInt8) × Int) :=
  (cond (decide ((((List.length x) : Nat) : Int) < (84 : Int)))
  (some ((0 : Int), (0 : Int), (0 : Int), (0 : Int), (0 : Int), (0 : Int), (0 : Int), (0 : Int), (0 : Int), (0 : Int), (0 : Int), (0 : Int), (0 : Int), ([] : List UInt8), (3 : Int)))
  (cond (decide ((84 : Int) ≤ (((List.length x) : Nat) : Int)))
  ((Option.bind (octet_Get N (List.take 4 (List.drop 80 x))) fun r6 =>
  (cond (decide ((255 : Int) < r6))
  (some ((0 : Int), (0 : Int), (0 : Int), (0 : Int), (0 : Int), (0 : Int), (0 : Int), (0 : Int), (0 : Int), (0 : Int), (0 : Int), (0 : Int), (0 : Int), ([] : List UInt8), (1 : Int)))
  (let v10 : Int := (wrapF .i64 ((84 : Int) + (wrapF .i64 r6)))
  (let v13 : Int := (wrapF .i64 (v10 + (andF .i64 (wrapF .i64 ((0 : Int) - v10)) (3 : Int))))
  (cond (decide ((((List.length x) : Nat) : Int) < v13))
  (some ((0 : Int), (0 : Int), (0 : Int), (0 : Int), (0 : Int), (0 : Int), (0 : Int), (0 : Int), (0 : Int), (0 : Int), (0 : Int), (0 : Int), (0 : Int), ([] : List UInt8), (3 : Int)))
  (cond (decide (v13 < (((List.length x) : Nat) : Int)))
  (some ((0 : Int), (0 : Int), (0 : Int), (0 : Int), (0 : Int), (0 : Int), (0 : Int), (0 : Int), (0 : Int), (0 : Int), (0 : Int), (0 : Int), (0 : Int), ([] : List UInt8), (4 : Int)))
  (cond (((decide ((0 : Int) ≤ v10)) && (decide (v10 ≤ (((List.length x) : Nat) : Int)))) && (decide ((((List.length x) : Nat) : Int) ≤ (((List.length x) : Nat) : Int))))
  ((Option.bind (slices_ContainsFunc_byte_byte N (List.take ((List.length x) - (Int.toNat v10)) (List.drop (Int.toNat v10) x))) fun r21 =>
  (cond r21
  (some ((0 : Int), (0 : Int), (0 : Int), (0 : Int), (0 : Int), (0 : Int), (0 : Int), (0 : Int), (0 : Int), (0 : Int), (0 : Int), (0 : Int), (0 : Int), ([] : List UInt8), (120 : Int)))
  (cond (decide ((8 : Int) ≤ (((List.length x) : Nat) : Int)))
  ((Option.bind (octet_Get N (List.take 8 (List.drop 0 x))) fun r24 =>
  (Option.bind (inode_Get_2 N ((0 : Int), x)) fun r25 =>
  (Option.bind (inode_Get_2 N ((1 : Int), x)) fun r26 =>
  (let v27 : Int := (wrapF .i64 r26)
  (Option.bind (inode_Get_2 N ((2 : Int), x)) fun r28 =>
  (Option.bind (inode_Get_2 N ((3 : Int), x)) fun r29 =>
  (Option.bind (inode_Get_2 N ((4 : Int), x)) fun r30 =>
  (Option.bind (inode_Get_2 N ((5 : Int), x)) fun r31 =>
  (Option.bind (inode_Get_3 N ((0 : Int), x)) fun r32 =>
  (Option.bind (inode_Get_3 N ((1 : Int), x)) fun r33 =>
  (Option.bind (inode_Get_3 N ((2 : Int), x)) fun r34 =>
  (Option.bind (inode_Get_3 N ((3 : Int), x)) fun r35 =>
  (Option.bind (inode_Get_3 N ((4 : Int), x)) fun r36 =>
  (Option.bind (inode_Get_3 N ((5 : Int), x)) fun r37 =>
  (cond ((decide ((84 : Int) ≤ v10)) && (decide (v10 ≤ (((List.length x) : Nat) : Int))))
  ((let v39 : List UInt8 := (List.map (fun (n : Int) => UInt8.ofNat n.toNat) (List.take ((Int.toNat v10) - 84) (List.drop 84 x)))
  (Option.bind (inode_Check (r24, r25, v27, r28, r29, r30, r31, r32, r33, r34, r35, r36, r37, v39)) fun r41 =>
  (cond (!(decide (r41 = (0 : Int))))
  (some ((0 : Int), (0 : Int), (0 : Int), (0 : Int), (0 : Int), (0 : Int), (0 : Int), (0 : Int), (0 : Int), (0 : Int), (0 : Int), (0 : Int), (0 : Int), ([] : List UInt8), r41))
  (some (r24, r25, v27, r28, r29, r30, r31, r32, r33, r34, r35, r36, r37, v39, (0 : Int)))))))
  none))))))))))))))))
  none))))
  none))))))))
  none))
noncomputable def inode_wrong_1 (x : Int × Int × Int) : Option (Bool × Int) :=
  (Option.bind
  (cond (!(decide ((andF .i64 x.2.2 x.1) = (0 : Int))))
  (some (!(decide ((andF .i64 x.2.2 x.2.1) = (0 : Int)))))
  (some false))
  fun r5 =>
  (some (r5, x.2.2)))
noncomputable def inode_wrong (x : Int × Int × Int × Int × Int × Int × Int × Int × Int × Int × Int × Int × Int × (List UInt8) × Int × Int × Int × Int × Int × Int × Int) : Option (Bool) :=
  (Option.bind
  (cond (decide (x.2.2.2.2.2.2.2.2.2.2.2.2.2.2.1 < (0 : Int)))
  (some (true, x.2.2.2.2.2.2.2.2.2.2.2.2.2.2.1))
  (cond (decide ((255 : Int) < x.2.2.2.2.2.2.2.2.2.2.2.2.2.2.1))
  (some (true, x.2.2.2.2.2.2.2.2.2.2.2.2.2.2.1))
  (Option.bind (inode_wrong_1 ((16 : Int), (64 : Int), x.2.2.2.2.2.2.2.2.2.2.2.2.2.2.1)) fun r3 =>
  (cond r3.1
  (some (true, r3.2))
  (Option.bind (inode_wrong_1 ((32 : Int), (128 : Int), r3.2)) fun r4 =>
  (cond r4.1
  (some (true, r4.2))
  (cond (!(decide ((andF .i64 r4.2 (1 : Int)) = (0 : Int))))
  (cond (decide ((4095 : Int) < x.2.2.2.2.2.2.2.2.2.2.2.2.2.2.2.1))
  (some (true, r4.2))
  (cond (!(decide ((andF .i64 r4.2 (8 : Int)) = (0 : Int))))
  (cond (decide ((1048576 : Int) < x.2.2.2.2.2.2.2.2.2.2.2.2.2.2.2.2.2.2.1))
  (some (true, r4.2))
  (some ((!(decide (x.2.2.1 = (1 : Int)))), r4.2)))
  (some (false, r4.2))))
  (cond (!(decide ((andF .i64 r4.2 (8 : Int)) = (0 : Int))))
  (cond (decide ((1048576 : Int) < x.2.2.2.2.2.2.2.2.2.2.2.2.2.2.2.2.2.2.1))
  (some (true, r4.2))
  (some ((!(decide (x.2.2.1 = (1 : Int)))), r4.2)))
  (some (false, r4.2))))))))))
  fun r16 =>
  (some r16.1))
noncomputable def inode_Apply_1 (x : Int × Int) : Option (Bool × Int) :=
  (some ((!(decide ((andF .i64 x.2 x.1) = (0 : Int)))), x.2))
noncomputable def inode_Apply (x : Int × Int × Int × Int × Int × Int × Int × Int × Int × Int × Int × Int × Int × (List UInt8) × Int × Int × Int × Int × Int × Int × Int × Int) : Option (Int × Int × Int × Int × Int × Int × Int × Int × Int × Int × Int × Int × Int × (List UInt8) × Bool × Int) :=
  (Option.bind (inode_Check (x.1, x.2.1, x.2.2.1, x.2.2.2.1, x.2.2.2.2.1, x.2.2.2.2.2.1, x.2.2.2.2.2.2.1, x.2.2.2.2.2.2.2.1, x.2.2.2.2.2.2.2.2.1, x.2.2.2.2.2.2.2.2.2.1, x.2.2.2.2.2.2.2.2.2.2.1, x.2.2.2.2.2.2.2.2.2.2.2.1, x.2.2.2.2.2.2.2.2.2.2.2.2.1, x.2.2.2.2.2.2.2.2.2.2.2.2.2.1)) fun r2 =>
  (cond (!(decide (r2 = (0 : Int))))
  (some ((0 : Int), (0 : Int), (0 : Int), (0 : Int), (0 : Int), (0 : Int), (0 : Int), (0 : Int), (0 : Int), (0 : Int), (0 : Int), (0 : Int), (0 : Int), ([] : List UInt8), false, r2))
  (Option.bind (inode_wrong (x.1, x.2.1, x.2.2.1, x.2.2.2.1, x.2.2.2.2.1, x.2.2.2.2.2.1, x.2.2.2.2.2.2.1, x.2.2.2.2.2.2.2.1, x.2.2.2.2.2.2.2.2.1, x.2.2.2.2.2.2.2.2.2.1, x.2.2.2.2.2.2.2.2.2.2.1, x.2.2.2.2.2.2.2.2.2.2.2.1, x.2.2.2.2.2.2.2.2.2.2.2.2.1, x.2.2.2.2.2.2.2.2.2.2.2.2.2.1, x.2.2.2.2.2.2.2.2.2.2.2.2.2.2.1, x.2.2.2.2.2.2.2.2.2.2.2.2.2.2.2.1, x.2.2.2.2.2.2.2.2.2.2.2.2.2.2.2.2.1, x.2.2.2.2.2.2.2.2.2.2.2.2.2.2.2.2.2.1, x.2.2.2.2.2.2.2.2.2.2.2.2.2.2.2.2.2.2.1, x.2.2.2.2.2.2.2.2.2.2.2.2.2.2.2.2.2.2.2.1, x.2.2.2.2.2.2.2.2.2.2.2.2.2.2.2.2.2.2.2.2.1)) fun r5 =>
  (cond r5
  (some ((0 : Int), (0 : Int), (0 : Int), (0 : Int), (0 : Int), (0 : Int), (0 : Int), (0 : Int), (0 : Int), (0 : Int), (0 : Int), (0 : Int), (0 : Int), ([] : List UInt8), false, (122 : Int)))
  (cond (decide (x.2.2.2.2.2.2.2.2.2.2.2.2.2.2.1 = (0 : Int)))
  (some (x.1, x.2.1, x.2.2.1, x.2.2.2.1, x.2.2.2.2.1, x.2.2.2.2.2.1, x.2.2.2.2.2.2.1, x.2.2.2.2.2.2.2.1, x.2.2.2.2.2.2.2.2.1, x.2.2.2.2.2.2.2.2.2.1, x.2.2.2.2.2.2.2.2.2.2.1, x.2.2.2.2.2.2.2.2.2.2.2.1, x.2.2.2.2.2.2.2.2.2.2.2.2.1, x.2.2.2.2.2.2.2.2.2.2.2.2.2.1, false, (0 : Int)))
  (Option.bind (inode_Apply_1 ((1 : Int), x.2.2.2.2.2.2.2.2.2.2.2.2.2.2.1)) fun r8 =>
  (Option.bind
  (cond r8.1
  (some x.2.2.2.2.2.2.2.2.2.2.2.2.2.2.2.1)
  (some x.2.2.2.1))
  fun r9 =>
  (Option.bind (inode_Apply_1 ((2 : Int), r8.2)) fun r10 =>
  (Option.bind
  (cond r10.1
  (some x.2.2.2.2.2.2.2.2.2.2.2.2.2.2.2.2.1)
  (some x.2.2.2.2.2.1))
  fun r11 =>
  (Option.bind (inode_Apply_1 ((4 : Int), r10.2)) fun r12 =>
  (Option.bind
  (cond r12.1
  (some x.2.2.2.2.2.2.2.2.2.2.2.2.2.2.2.2.2.1)
  (some x.2.2.2.2.2.2.1))
  fun r13 =>
  (Option.bind
  (Option.bind (inode_Apply_1 ((8 : Int), r12.2)) fun r14 =>
  (cond r14.1
  (some ((!(decide (x.2.2.2.2.2.2.2.2.2.2.2.2.2.2.2.2.2.2.1 = x.2.2.2.2.2.2.2.1))), r14.2))
  (some (false, r14.2))))
  fun r16 =>
  (Option.bind
  (cond r16.1
  (some (x.2.2.2.2.2.2.2.2.2.2.2.2.2.2.2.2.2.2.1, x.2.2.2.2.2.2.2.2.2.2.2.2.2.2.2.2.2.2.2.2.2))
  (some (x.2.2.2.2.2.2.2.1, x.2.2.2.2.2.2.2.2.2.2.1)))
  fun r17 =>
  (Option.bind (inode_Apply_1 ((16 : Int), r16.2)) fun r18 =>
  (Option.bind
  (cond r18.1
  (some (x.2.2.2.2.2.2.2.2.2.2.2.2.2.2.2.2.2.2.2.1, r18.2))
  (Option.bind (inode_Apply_1 ((64 : Int), r18.2)) fun r19 =>
  (Option.bind
  (cond r19.1
  (some x.2.2.2.2.2.2.2.2.2.2.2.2.2.2.2.2.2.2.2.2.2)
  (some x.2.2.2.2.2.2.2.2.2.1))
  fun r20 =>
  (some (r20, r19.2)))))
  fun r21 =>
  (Option.bind (inode_Apply_1 ((32 : Int), r21.2)) fun r22 =>
  (Option.bind
  (cond r22.1
  (some (x.2.2.2.2.2.2.2.2.2.2.2.2.2.2.2.2.2.2.2.2.1, r22.2))
  (Option.bind (inode_Apply_1 ((128 : Int), r22.2)) fun r23 =>
  (Option.bind
  (cond r23.1
  (some x.2.2.2.2.2.2.2.2.2.2.2.2.2.2.2.2.2.2.2.2.2)
  (some r17.2))
  fun r24 =>
  (some (r24, r23.2)))))
  fun r25 =>
  (some (x.1, x.2.1, x.2.2.1, r9, x.2.2.2.2.1, r11, r13, r17.1, x.2.2.2.2.2.2.2.2.1, r21.1, r25.1, x.2.2.2.2.2.2.2.2.2.2.2.2.2.2.2.2.2.2.2.2.2, x.2.2.2.2.2.2.2.2.2.2.2.2.1, x.2.2.2.2.2.2.2.2.2.2.2.2.2.1, r16.1, (0 : Int))))))))))))))))))))
noncomputable def octet_Put_v2 (N : Nat) (x : Nat × Nat × Int × Int × (List Int)) : Option ((List Int)) :=
  (cond ((((decide ((0 : Int) ≤ x.2.2.2.1)) && (fits 1 (Int.toNat x.2.2.2.1))) && (decide (x.1 + x.2.1 = (List.length x.2.2.2.2)))) && (fits 1 (x.2.1 + (List.length (List.replicate (Int.toNat x.2.2.2.1) (EK.dflt (.int .u8)))))))
  ((let v1 : List Int := (List.drop x.1 x.2.2.2.2 ++ (List.replicate (Int.toNat x.2.2.2.1) (EK.dflt (.int .u8))))
  (let v3 : Int := (wrapF .i64 ((((List.length v1) : Nat) : Int) - x.2.2.2.1))
  (cond (((decide ((0 : Int) ≤ v3)) && (decide (v3 ≤ (((List.length v1) : Nat) : Int)))) && (decide ((((List.length v1) : Nat) : Int) ≤ (((List.length v1) : Nat) : Int))))
  ((Option.bind (octet_Lay N ((Int.toNat v3), ((List.length v1) - (Int.toNat v3)), x.2.2.1, v1)) fun r6 =>
  (some r6)))
  none))))
  none)
noncomputable def inode_PutHandle (N : Nat) (x : Int × Int × Int) : Option (Int × (List Int)) :=
  (Option.bind
  (cond (decide (x.2.1 = (0 : Int)))
  (some true)
  (some (decide (x.2.2 = (0 : Int)))))
  fun r3 =>
  (cond r3
  (some ((121 : Int), ([] : List Int)))
  (Option.bind (octet_Put_v2 N (0, 4, (wrapF .u64 x.1), (4 : Int), ([(71 : Int), (82 : Int), (78 : Int), (49 : Int)] : List Int))) fun r6 =>
  (Option.bind (octet_Put_v1 N (x.2.1, (8 : Int), r6)) fun r7 =>
  (Option.bind (octet_Put_v1 N ((wrapF .u64 x.2.2), (4 : Int), r7)) fun r9 =>
  (some ((0 : Int), r9)))))))
noncomputable def inode_GetHandle (N : Nat) (x : (List Int)) : Option (Int × Int × Int × Int) :=
  (Option.bind
  (cond (!(decide ((((List.length x) : Nat) : Int) = (20 : Int))))
  (some true)
  (cond (decide ((4 : Int) ≤ (((List.length x) : Nat) : Int)))
  ((some (!(decide ((List.map (fun (n : Int) => UInt8.ofNat n.toNat) (List.take 4 (List.drop 0 x))) = ([71, 82, 78, 49] : List UInt8))))))
  none))
  fun r6 =>
  (cond r6
  (some ((0 : Int), (0 : Int), (0 : Int), (121 : Int)))
  (cond (decide ((8 : Int) ≤ (((List.length x) : Nat) : Int)))
  ((Option.bind (octet_Get N (List.take 4 (List.drop 4 x))) fun r8 =>
  (cond (decide ((16 : Int) ≤ (((List.length x) : Nat) : Int)))
  ((Option.bind (octet_Get N (List.take 8 (List.drop 8 x))) fun r11 =>
  (cond ((decide ((16 : Int) ≤ (((List.length x) : Nat) : Int))) && (decide ((((List.length x) : Nat) : Int) ≤ (((List.length x) : Nat) : Int))))
  ((Option.bind (octet_Get N (List.take ((List.length x) - 16) (List.drop 16 x))) fun r13 =>
  (let v14 : Int := (wrapF .u32 r13)
  (Option.bind
  (cond (decide (r11 = (0 : Int)))
  (some true)
  (some (decide (v14 = (0 : Int)))))
  fun r17 =>
  (cond r17
  (some ((0 : Int), (0 : Int), (0 : Int), (121 : Int)))
  (some ((wrapF .u32 r8), r11, v14, (0 : Int))))))))
  none)))
  none)))
  none)))
noncomputable def granarylaw12_num (x : Int) : Option (Int) :=
  (some x)
noncomputable def slices_Index_uint32_uint32_b0 (N : Nat) (next : (List Int) × Int × Int × Int → Option (Int ⊕ Unit)) (x : (List Int) × Int × Int × Int) : Option (Int ⊕ Unit) :=
  (cond (decide (x.2.2.2 < x.2.2.1))
  (cond ((decide ((0 : Int) ≤ x.2.2.2)) && (decide (x.2.2.2 < (((List.length x.1) : Nat) : Int))))
  ((cond (decide (x.2.1 = (List.getD x.1 (Int.toNat x.2.2.2) (EK.dflt (.int .u32)))))
  (some (.inl x.2.2.2))
  (next (x.1, x.2.1, x.2.2.1, (wrapF .i64 (x.2.2.2 + (1 : Int)))))))
  none)
  (some (.inr (()))))
noncomputable def slices_Index_uint32_uint32_l0 (N : Nat) : (List Int) × Int × Int × Int → Option (Int ⊕ Unit) := loopF (slices_Index_uint32_uint32_b0 N) N
noncomputable def slices_Index_uint32_uint32 (N : Nat) (x : (List Int) × Int) : Option (Int) :=
  (Option.bind (slices_Index_uint32_uint32_l0 N (x.1, x.2, (((List.length x.1) : Nat) : Int), (0 : Int))) fun r2 =>
  (match r2 with
  | .inl y3 =>
  (some y3)
  | .inr z4 =>
  (some (-1 : Int))))
noncomputable def slices_Contains_uint32_uint32 (N : Nat) (x : (List Int) × Int) : Option (Bool) :=
  (Option.bind (slices_Index_uint32_uint32 N (x.1, x.2)) fun r1 =>
  (some (decide ((0 : Int) ≤ r1))))
noncomputable def inode_grants (x : Int × Bool) : Option (Int) :=
  (Option.bind
  (cond (!(decide ((andF .u32 x.1 (4 : Int)) = (0 : Int))))
  (some (1 : Int))
  (some (0 : Int)))
  fun r3 =>
  (Option.bind
  (cond (!(decide ((andF .u32 x.1 (2 : Int)) = (0 : Int))))
  (Option.bind
  (cond x.2
  (some (orF .u32 r3 (16 : Int)))
  (some r3))
  fun r7 =>
  (some (orF .u32 r7 (12 : Int))))
  (some r3))
  fun r9 =>
  (Option.bind
  (cond (!(decide ((andF .u32 x.1 (1 : Int)) = (0 : Int))))
  (Option.bind
  (cond x.2
  (some (orF .u32 r9 (2 : Int)))
  (some (orF .u32 r9 (32 : Int))))
  fun r14 =>
  (some r14))
  (some r9))
  fun r15 =>
  (some r15))))
noncomputable def inode_Access (N : Nat) (x : Int × Int × Int × Int × Int × Int × Int × Int × Int × Int × Int × Int × Int × (List UInt8) × Int × (List Int) × Int) : Option (Int) :=
  (Option.bind (inode_Check (x.1, x.2.1, x.2.2.1, x.2.2.2.1, x.2.2.2.2.1, x.2.2.2.2.2.1, x.2.2.2.2.2.2.1, x.2.2.2.2.2.2.2.1, x.2.2.2.2.2.2.2.2.1, x.2.2.2.2.2.2.2.2.2.1, x.2.2.2.2.2.2.2.2.2.2.1, x.2.2.2.2.2.2.2.2.2.2.2.1, x.2.2.2.2.2.2.2.2.2.2.2.2.1, x.2.2.2.2.2.2.2.2.2.2.2.2.2.1)) fun r1 =>
  (cond (!(decide (r1 = (0 : Int))))
  (some (0 : Int))
  (Option.bind
  (cond (decide (x.2.2.2.2.2.2.2.2.2.2.2.2.2.2.1 = (0 : Int)))
  (some (7 : Int))
  (Option.bind
  (cond (decide (x.2.2.2.2.2.2.2.2.2.2.2.2.2.2.1 = x.2.2.2.2.2.1))
  (some (shrF .u32 x.2.2.2.1 (6 : Int)))
  (let v6 : Int := (((List.length x.2.2.2.2.2.2.2.2.2.2.2.2.2.2.2.1) : Nat) : Int)
  (let v7 : Int := (if (16 : Int) < v6 then (16 : Int) else v6)
  (cond ((decide ((0 : Int) ≤ v7)) && (decide (v7 ≤ (((List.length x.2.2.2.2.2.2.2.2.2.2.2.2.2.2.2.1) : Nat) : Int))))
  ((Option.bind (slices_Contains_uint32_uint32 N ((List.take (Int.toNat v7) (List.drop 0 x.2.2.2.2.2.2.2.2.2.2.2.2.2.2.2.1)), x.2.2.2.2.2.2.1)) fun r9 =>
  (Option.bind
  (cond r9
  (some (shrF .u32 x.2.2.2.1 (3 : Int)))
  (some x.2.2.2.1))
  fun r11 =>
  (some r11))))
  none))))
  fun r12 =>
  (some r12)))
  fun r13 =>
  (Option.bind (inode_grants ((andF .u32 r13 (7 : Int)), (decide (x.2.2.1 = (2 : Int))))) fun r16 =>
  (some (andF .u32 x.2.2.2.2.2.2.2.2.2.2.2.2.2.2.2.2 r16))))))
noncomputable def inode_Access_v1 (N : Nat) (x : Int × Int × Int × Int × Int × Int × Int × Int × Int × Int × Int × Int × Int × (List UInt8) × Int × (List Int) × Int) : Option (Int) :=
  (Option.bind (inode_Check (x.1, x.2.1, x.2.2.1, x.2.2.2.1, x.2.2.2.2.1, x.2.2.2.2.2.1, x.2.2.2.2.2.2.1, x.2.2.2.2.2.2.2.1, x.2.2.2.2.2.2.2.2.1, x.2.2.2.2.2.2.2.2.2.1, x.2.2.2.2.2.2.2.2.2.2.1, x.2.2.2.2.2.2.2.2.2.2.2.1, x.2.2.2.2.2.2.2.2.2.2.2.2.1, x.2.2.2.2.2.2.2.2.2.2.2.2.2.1)) fun r1 =>
  (cond (!(decide (r1 = (0 : Int))))
  (some (0 : Int))
  (Option.bind
  (cond (decide (x.2.2.2.2.2.2.2.2.2.2.2.2.2.2.1 = (0 : Int)))
  (some (7 : Int))
  (Option.bind
  (cond (decide (x.2.2.2.2.2.2.2.2.2.2.2.2.2.2.1 = x.2.2.2.2.2.1))
  (some (shrF .u32 x.2.2.2.1 (6 : Int)))
  (let v6 : Int := (((List.length x.2.2.2.2.2.2.2.2.2.2.2.2.2.2.2.1) : Nat) : Int)
  (let v7 : Int := (if (16 : Int) < v6 then (16 : Int) else v6)
  (cond ((decide ((0 : Int) ≤ v7)) && (decide (v7 ≤ (((List.length x.2.2.2.2.2.2.2.2.2.2.2.2.2.2.2.1) : Nat) : Int))))
  ((Option.bind (slices_Contains_uint32_uint32 N ((List.take (Int.toNat v7) (List.drop 0 x.2.2.2.2.2.2.2.2.2.2.2.2.2.2.2.1)), x.2.2.2.2.2.2.1)) fun r9 =>
  (Option.bind
  (cond r9
  (some (shrF .u32 x.2.2.2.1 (3 : Int)))
  (some x.2.2.2.1))
  fun r11 =>
  (some r11))))
  none))))
  fun r12 =>
  (some r12)))
  fun r13 =>
  (Option.bind (inode_grants ((andF .u32 r13 (7 : Int)), (decide (x.2.2.1 = (2 : Int))))) fun r16 =>
  (some (andF .u32 x.2.2.2.2.2.2.2.2.2.2.2.2.2.2.2.2 r16))))))
noncomputable def granarylaw12_live (N : Nat) (x : Unit) : Option (Bool) :=
  (Option.bind (inode_New ((7 : Int), (1 : Int), (2 : Int), (16877 : Int), (0 : Int), (0 : Int), (5 : Int))) fun r1 =>
  (Option.bind (inode_New ((8 : Int), (1 : Int), (1 : Int), (416 : Int), (1 : Int), (2 : Int), (5 : Int))) fun r3 =>
  (Option.bind (inode_Put N (r3.1, r3.2.1, r3.2.2.1, r3.2.2.2.1, r3.2.2.2.2.1, r3.2.2.2.2.2.1, r3.2.2.2.2.2.2.1, (0 : Int), (0 : Int), r3.2.2.2.2.2.2.2.1, r3.2.2.2.2.2.2.2.2.1, r3.2.2.2.2.2.2.2.2.2.1, (0 : Int), r3.2.2.2.2.2.2.2.2.2.2.1)) fun r5 =>
  (Option.bind (inode_Get N r5.2) fun r6 =>
  (Option.bind (inode_Apply (r3.1, r3.2.1, r3.2.2.1, r3.2.2.2.1, r3.2.2.2.2.1, r3.2.2.2.2.2.1, r3.2.2.2.2.2.2.1, (0 : Int), (0 : Int), r3.2.2.2.2.2.2.2.1, r3.2.2.2.2.2.2.2.2.1, r3.2.2.2.2.2.2.2.2.2.1, (0 : Int), r3.2.2.2.2.2.2.2.2.2.2.1, (8 : Int), (0 : Int), (0 : Int), (0 : Int), (9 : Int), (0 : Int), (0 : Int), (6 : Int))) fun r8 =>
  (Option.bind (inode_Apply (r1.1, r1.2.1, r1.2.2.1, r1.2.2.2.1, r1.2.2.2.2.1, r1.2.2.2.2.2.1, r1.2.2.2.2.2.2.1, (0 : Int), (0 : Int), r1.2.2.2.2.2.2.2.1, r1.2.2.2.2.2.2.2.2.1, r1.2.2.2.2.2.2.2.2.2.1, (0 : Int), r1.2.2.2.2.2.2.2.2.2.2.1, (8 : Int), (0 : Int), (0 : Int), (0 : Int), (9 : Int), (0 : Int), (0 : Int), (6 : Int))) fun r10 =>
  (Option.bind (inode_PutHandle N ((0 : Int), (8 : Int), (1 : Int))) fun r12 =>
  (Option.bind (inode_GetHandle N r12.2) fun r13 =>
  (Option.bind
  (Option.bind (granarylaw12_num r1.2.2.2.2.2.2.2.2.2.2.2) fun r14 =>
  (cond (decide (r14 = (0 : Int)))
  (Option.bind (granarylaw12_num r3.2.2.2.2.2.2.2.2.2.2.2) fun r16 =>
  (cond (decide (r16 = (0 : Int)))
  (cond (decide (r1.2.2.2.1 = (493 : Int)))
  (cond (decide (r1.2.2.2.2.1 = (2 : Int)))
  (Option.bind (granarylaw12_num r5.1) fun r20 =>
  (cond (decide (r20 = (0 : Int)))
  (cond (decide ((((List.length r5.2) : Nat) : Int) = (84 : Int)))
  (Option.bind (granarylaw12_num r6.2.2.2.2.2.2.2.2.2.2.2.2.2.2) fun r24 =>
  (cond (decide (r24 = (0 : Int)))
  (cond ((decide (r6.1 = r3.1)) && ((decide (r6.2.1 = r3.2.1)) && ((decide (r6.2.2.1 = r3.2.2.1)) && ((decide (r6.2.2.2.1 = r3.2.2.2.1)) && ((decide (r6.2.2.2.2.1 = r3.2.2.2.2.1)) && ((decide (r6.2.2.2.2.2.1 = r3.2.2.2.2.2.1)) && ((decide (r6.2.2.2.2.2.2.1 = r3.2.2.2.2.2.2.1)) && ((decide (r6.2.2.2.2.2.2.2.1 = (0 : Int))) && ((decide (r6.2.2.2.2.2.2.2.2.1 = (0 : Int))) && ((decide (r6.2.2.2.2.2.2.2.2.2.1 = r3.2.2.2.2.2.2.2.1)) && ((decide (r6.2.2.2.2.2.2.2.2.2.2.1 = r3.2.2.2.2.2.2.2.2.1)) && ((decide (r6.2.2.2.2.2.2.2.2.2.2.2.1 = r3.2.2.2.2.2.2.2.2.2.1)) && ((decide (r6.2.2.2.2.2.2.2.2.2.2.2.2.1 = (0 : Int))) && ((decide (r6.2.2.2.2.2.2.2.2.2.2.2.2.2.1 = r3.2.2.2.2.2.2.2.2.2.2.1)) && true))))))))))))))
  (cond (decide (r8.2.2.2.2.2.2.2.1 = (9 : Int)))
  (cond (decide (r8.2.2.2.2.2.2.2.2.2.2.1 = (6 : Int)))
  (cond r8.2.2.2.2.2.2.2.2.2.2.2.2.2.2.1
  (Option.bind (granarylaw12_num r8.2.2.2.2.2.2.2.2.2.2.2.2.2.2.2) fun r29 =>
  (cond (decide (r29 = (0 : Int)))
  (Option.bind (granarylaw12_num r10.2.2.2.2.2.2.2.2.2.2.2.2.2.2.2) fun r31 =>
  (cond (decide (r31 = (122 : Int)))
  (Option.bind (granarylaw12_num r12.1) fun r33 =>
  (cond (decide (r33 = (0 : Int)))
  (Option.bind (granarylaw12_num r13.2.2.2) fun r35 =>
  (cond (decide (r35 = (0 : Int)))
  (cond (decide (r13.2.1 = (8 : Int)))
  (cond (decide ((((List.length r12.2) : Nat) : Int) = (20 : Int)))
  (Option.bind (inode_Access N (r3.1, r3.2.1, r3.2.2.1, r3.2.2.2.1, r3.2.2.2.2.1, r3.2.2.2.2.2.1, r3.2.2.2.2.2.2.1, (0 : Int), (0 : Int), r3.2.2.2.2.2.2.2.1, r3.2.2.2.2.2.2.2.2.1, r3.2.2.2.2.2.2.2.2.2.1, (0 : Int), r3.2.2.2.2.2.2.2.2.2.2.1, (1 : Int), ([] : List Int), (63 : Int))) fun r40 =>
  (cond (decide (r40 = (13 : Int)))
  (let v42 : List Int := ([(2 : Int)] : List Int)
  (cond (cond (decide (1 ≤ (List.length v42))) true false)
  (Option.bind (inode_Access_v1 N (r3.1, r3.2.1, r3.2.2.1, r3.2.2.2.1, r3.2.2.2.2.1, r3.2.2.2.2.2.1, r3.2.2.2.2.2.2.1, (0 : Int), (0 : Int), r3.2.2.2.2.2.2.2.1, r3.2.2.2.2.2.2.2.2.1, r3.2.2.2.2.2.2.2.2.2.1, (0 : Int), r3.2.2.2.2.2.2.2.2.2.2.1, (3 : Int), (List.take 1 (List.drop 0 v42)), (63 : Int))) fun r43 =>
  (some (decide (r43 = (1 : Int)))))
  none))
  (some false)))
  (some false))
  (some false))
  (some false)))
  (some false)))
  (some false)))
  (some false)))
  (some false))
  (some false))
  (some false))
  (some false))
  (some false)))
  (some false))
  (some false)))
  (some false))
  (some false))
  (some false)))
  (some false)))
  fun r45 =>
  (some r45))))))))))
noncomputable def granaryref12_Check (x : Int × Int × Int × Int × Int × Int × Int × Int × Int × Int × Int × Int × Int × (List UInt8)) : Option (Int) :=
  (Option.bind
  (cond (decide (x.1 = (0 : Int)))
  (some true)
  (cond (decide (x.2.1 = (0 : Int)))
  (some true)
  (cond (!(decide (x.2.2.1 = (1 : Int))))
  (cond (!(decide (x.2.2.1 = (2 : Int))))
  (cond (!(decide (x.2.2.1 = (5 : Int))))
  (some true)
  (some (decide ((4095 : Int) < x.2.2.2.1))))
  (some (decide ((4095 : Int) < x.2.2.2.1))))
  (some (decide ((4095 : Int) < x.2.2.2.1))))))
  fun r9 =>
  (cond r9
  (some (120 : Int))
  (cond (decide ((32000 : Int) < x.2.2.2.2.1))
  (some (123 : Int))
  (cond (decide ((255 : Int) < (((List.length x.2.2.2.2.2.2.2.2.2.2.2.2.2) : Nat) : Int)))
  (some (1 : Int))
  (cond (decide ((1048576 : Int) < x.2.2.2.2.2.2.2.1))
  (some (122 : Int))
  (Option.bind
  (cond (!(decide (x.2.2.1 = (5 : Int))))
  (some (!(decide (x.2.2.2.2.2.2.2.2.2.2.2.2.2 = ([] : List UInt8)))))
  (some false))
  fun r16 =>
  (cond r16
  (some (120 : Int))
  (Option.bind
  (cond (decide (x.2.2.1 = (5 : Int)))
  (cond (decide (x.2.2.2.2.2.2.2.2.2.2.2.2.2 = ([] : List UInt8)))
  (some true)
  (cond (!(decide (x.2.2.2.2.2.2.2.1 = (wrapF .u64 (((List.length x.2.2.2.2.2.2.2.2.2.2.2.2.2) : Nat) : Int)))))
  (some true)
  (cond (!(decide (x.2.2.2.2.2.2.2.2.2.2.2.2.1 = (0 : Int))))
  (some true)
  (some (!(decide (x.2.2.2.2.2.2.2.2.1 = (0 : Int))))))))
  (some false))
  fun r24 =>
  (cond r24
  (some (120 : Int))
  (some (0 : Int)))))))))))
noncomputable def granaryref12_has (x : Int × Int) : Option (Bool) :=
  (cond (!(decide (x.2 = (0 : Int))))
  ((some (decide ((Int.tmod (wrapF .i64 (Int.tdiv x.1 x.2)) (2 : Int)) = (1 : Int)))))
  none)
noncomputable def granaryref12_Apply (x : Int × Int × Int × Int × Int × Int × Int × Int × Int × Int × Int × Int × Int × (List UInt8) × Int × Int × Int × Int × Int × Int × Int × Int) : Option (Int × Int × Int × Int × Int × Int × Int × Int × Int × Int × Int × Int × Int × (List UInt8) × Bool × Int) :=
  (Option.bind (granaryref12_Check (x.1, x.2.1, x.2.2.1, x.2.2.2.1, x.2.2.2.2.1, x.2.2.2.2.2.1, x.2.2.2.2.2.2.1, x.2.2.2.2.2.2.2.1, x.2.2.2.2.2.2.2.2.1, x.2.2.2.2.2.2.2.2.2.1, x.2.2.2.2.2.2.2.2.2.2.1, x.2.2.2.2.2.2.2.2.2.2.2.1, x.2.2.2.2.2.2.2.2.2.2.2.2.1, x.2.2.2.2.2.2.2.2.2.2.2.2.2.1)) fun r2 =>
  (cond (!(decide (r2 = (0 : Int))))
  (some ((0 : Int), (0 : Int), (0 : Int), (0 : Int), (0 : Int), (0 : Int), (0 : Int), (0 : Int), (0 : Int), (0 : Int), (0 : Int), (0 : Int), (0 : Int), ([] : List UInt8), false, r2))
  (Option.bind
  (cond (decide (x.2.2.2.2.2.2.2.2.2.2.2.2.2.2.1 < (0 : Int)))
  (some true)
  (some (decide ((255 : Int) < x.2.2.2.2.2.2.2.2.2.2.2.2.2.2.1))))
  fun r7 =>
  (Option.bind
  (cond r7
  (some true)
  (Option.bind (granaryref12_has (x.2.2.2.2.2.2.2.2.2.2.2.2.2.2.1, (16 : Int))) fun r8 =>
  (cond r8
  (Option.bind (granaryref12_has (x.2.2.2.2.2.2.2.2.2.2.2.2.2.2.1, (64 : Int))) fun r9 =>
  (cond r9
  (some true)
  (Option.bind (granaryref12_has (x.2.2.2.2.2.2.2.2.2.2.2.2.2.2.1, (32 : Int))) fun r10 =>
  (cond r10
  (Option.bind (granaryref12_has (x.2.2.2.2.2.2.2.2.2.2.2.2.2.2.1, (128 : Int))) fun r11 =>
  (some r11))
  (some false)))))
  (Option.bind (granaryref12_has (x.2.2.2.2.2.2.2.2.2.2.2.2.2.2.1, (32 : Int))) fun r12 =>
  (cond r12
  (Option.bind (granaryref12_has (x.2.2.2.2.2.2.2.2.2.2.2.2.2.2.1, (128 : Int))) fun r13 =>
  (some r13))
  (some false))))))
  fun r14 =>
  (cond r14
  (some ((0 : Int), (0 : Int), (0 : Int), (0 : Int), (0 : Int), (0 : Int), (0 : Int), (0 : Int), (0 : Int), (0 : Int), (0 : Int), (0 : Int), (0 : Int), ([] : List UInt8), false, (122 : Int)))
  (Option.bind
  (Option.bind (granaryref12_has (x.2.2.2.2.2.2.2.2.2.2.2.2.2.2.1, (1 : Int))) fun r16 =>
  (cond r16
  (cond (decide ((4095 : Int) < x.2.2.2.2.2.2.2.2.2.2.2.2.2.2.2.1))
  (some true)
  (Option.bind (granaryref12_has (x.2.2.2.2.2.2.2.2.2.2.2.2.2.2.1, (8 : Int))) fun r18 =>
  (cond r18
  (cond (decide ((1048576 : Int) < x.2.2.2.2.2.2.2.2.2.2.2.2.2.2.2.2.2.2.1))
  (some true)
  (some (!(decide (x.2.2.1 = (1 : Int))))))
  (some false))))
  (Option.bind (granaryref12_has (x.2.2.2.2.2.2.2.2.2.2.2.2.2.2.1, (8 : Int))) fun r21 =>
  (cond r21
  (cond (decide ((1048576 : Int) < x.2.2.2.2.2.2.2.2.2.2.2.2.2.2.2.2.2.2.1))
  (some true)
  (some (!(decide (x.2.2.1 = (1 : Int))))))
  (some false)))))
  fun r24 =>
  (cond r24
  (some ((0 : Int), (0 : Int), (0 : Int), (0 : Int), (0 : Int), (0 : Int), (0 : Int), (0 : Int), (0 : Int), (0 : Int), (0 : Int), (0 : Int), (0 : Int), ([] : List UInt8), false, (122 : Int)))
  (Option.bind
  (Option.bind (granaryref12_has (x.2.2.2.2.2.2.2.2.2.2.2.2.2.2.1, (8 : Int))) fun r26 =>
  (cond r26
  (some (!(decide (x.2.2.2.2.2.2.2.2.2.2.2.2.2.2.2.2.2.2.1 = x.2.2.2.2.2.2.2.1))))
  (some false)))
  fun r28 =>
  (Option.bind
  (cond r28
  (some x.2.2.2.2.2.2.2.2.2.2.2.2.2.2.2.2.2.2.2.2.2)
  (some x.2.2.2.2.2.2.2.2.2.2.1))
  fun r29 =>
  (Option.bind
  (cond (!(decide (x.2.2.2.2.2.2.2.2.2.2.2.2.2.2.1 = (0 : Int))))
  (some x.2.2.2.2.2.2.2.2.2.2.2.2.2.2.2.2.2.2.2.2.2)
  (some x.2.2.2.2.2.2.2.2.2.2.2.1))
  fun r31 =>
  (Option.bind (granaryref12_has (x.2.2.2.2.2.2.2.2.2.2.2.2.2.2.1, (1 : Int))) fun r32 =>
  (Option.bind
  (cond r32
  (some x.2.2.2.2.2.2.2.2.2.2.2.2.2.2.2.1)
  (some x.2.2.2.1))
  fun r33 =>
  (Option.bind (granaryref12_has (x.2.2.2.2.2.2.2.2.2.2.2.2.2.2.1, (2 : Int))) fun r34 =>
  (Option.bind
  (cond r34
  (some x.2.2.2.2.2.2.2.2.2.2.2.2.2.2.2.2.1)
  (some x.2.2.2.2.2.1))
  fun r35 =>
  (Option.bind (granaryref12_has (x.2.2.2.2.2.2.2.2.2.2.2.2.2.2.1, (4 : Int))) fun r36 =>
  (Option.bind
  (cond r36
  (some x.2.2.2.2.2.2.2.2.2.2.2.2.2.2.2.2.2.1)
  (some x.2.2.2.2.2.2.1))
  fun r37 =>
  (Option.bind (granaryref12_has (x.2.2.2.2.2.2.2.2.2.2.2.2.2.2.1, (8 : Int))) fun r38 =>
  (Option.bind
  (cond r38
  (some x.2.2.2.2.2.2.2.2.2.2.2.2.2.2.2.2.2.2.1)
  (some x.2.2.2.2.2.2.2.1))
  fun r39 =>
  (Option.bind (granaryref12_has (x.2.2.2.2.2.2.2.2.2.2.2.2.2.2.1, (16 : Int))) fun r40 =>
  (Option.bind
  (cond r40
  (some x.2.2.2.2.2.2.2.2.2.2.2.2.2.2.2.2.2.2.2.1)
  (some x.2.2.2.2.2.2.2.2.2.1))
  fun r41 =>
  (Option.bind (granaryref12_has (x.2.2.2.2.2.2.2.2.2.2.2.2.2.2.1, (32 : Int))) fun r42 =>
  (Option.bind
  (cond r42
  (some x.2.2.2.2.2.2.2.2.2.2.2.2.2.2.2.2.2.2.2.2.1)
  (some r29))
  fun r43 =>
  (Option.bind (granaryref12_has (x.2.2.2.2.2.2.2.2.2.2.2.2.2.2.1, (64 : Int))) fun r44 =>
  (Option.bind
  (cond r44
  (some x.2.2.2.2.2.2.2.2.2.2.2.2.2.2.2.2.2.2.2.2.2)
  (some r41))
  fun r45 =>
  (Option.bind (granaryref12_has (x.2.2.2.2.2.2.2.2.2.2.2.2.2.2.1, (128 : Int))) fun r46 =>
  (Option.bind
  (cond r46
  (some x.2.2.2.2.2.2.2.2.2.2.2.2.2.2.2.2.2.2.2.2.2)
  (some r43))
  fun r47 =>
  (some (x.1, x.2.1, x.2.2.1, r33, x.2.2.2.2.1, r35, r37, r39, x.2.2.2.2.2.2.2.2.1, r45, r47, r31, x.2.2.2.2.2.2.2.2.2.2.2.2.1, x.2.2.2.2.2.2.2.2.2.2.2.2.2.1, r28, (0 : Int)))))))))))))))))))))))))))))
noncomputable def granaryref12_New (x : Int × Int × Int × Int × Int × Int × Int) : Option (Int × Int × Int × Int × Int × Int × Int × Int × Int × Int × (List UInt8) × Int) :=
  (Option.bind
  (cond (decide (x.1 = (0 : Int)))
  (some true)
  (cond (decide (x.2.1 = (0 : Int)))
  (some true)
  (cond (!(decide (x.2.2.1 = (1 : Int))))
  (some (!(decide (x.2.2.1 = (2 : Int)))))
  (some false))))
  fun r6 =>
  (cond r6
  (some ((0 : Int), (0 : Int), (0 : Int), (0 : Int), (0 : Int), (0 : Int), (0 : Int), (0 : Int), (0 : Int), (0 : Int), ([] : List UInt8), (120 : Int)))
  (Option.bind
  (cond (decide (x.2.2.1 = (2 : Int)))
  (some (2 : Int))
  (some (1 : Int)))
  fun r12 =>
  (some (x.1, x.2.1, x.2.2.1, (Int.tmod x.2.2.2.1 (4096 : Int)), r12, x.2.2.2.2.1, x.2.2.2.2.2.1, x.2.2.2.2.2.2, x.2.2.2.2.2.2, x.2.2.2.2.2.2, ([] : List UInt8), (0 : Int))))))
noncomputable def inode_Attributes (x : Int × Int × Int × Int × Int × Int × Int × Int × Int × Int × Int × Int × Int × (List UInt8) × Int) : Option (Int × Int × Int × Int × Int × Int × Int × Int × Int × Int × Int × Int × Int) :=
  (Option.bind (inode_Check (x.1, x.2.1, x.2.2.1, x.2.2.2.1, x.2.2.2.2.1, x.2.2.2.2.2.1, x.2.2.2.2.2.2.1, x.2.2.2.2.2.2.2.1, x.2.2.2.2.2.2.2.2.1, x.2.2.2.2.2.2.2.2.2.1, x.2.2.2.2.2.2.2.2.2.2.1, x.2.2.2.2.2.2.2.2.2.2.2.1, x.2.2.2.2.2.2.2.2.2.2.2.2.1, x.2.2.2.2.2.2.2.2.2.2.2.2.2.1)) fun r1 =>
  (cond (!(decide (r1 = (0 : Int))))
  (some ((0 : Int), (0 : Int), (0 : Int), (0 : Int), (0 : Int), (0 : Int), (0 : Int), (0 : Int), (0 : Int), (0 : Int), (0 : Int), (0 : Int), r1))
  (cond (decide ((18014398509481984 : Int) < x.2.2.2.2.2.2.2.2.1))
  (some ((0 : Int), (0 : Int), (0 : Int), (0 : Int), (0 : Int), (0 : Int), (0 : Int), (0 : Int), (0 : Int), (0 : Int), (0 : Int), (0 : Int), (122 : Int)))
  (some (x.2.2.1, x.2.2.2.1, x.2.2.2.2.1, x.2.2.2.2.2.1, x.2.2.2.2.2.2.1, x.2.2.2.2.2.2.2.1, (wrapF .u64 (x.2.2.2.2.2.2.2.2.1 * (384 : Int))), (wrapF .u64 x.2.2.2.2.2.2.2.2.2.2.2.2.2.2), x.1, x.2.2.2.2.2.2.2.2.2.1, x.2.2.2.2.2.2.2.2.2.2.1, x.2.2.2.2.2.2.2.2.2.2.2.1, (0 : Int))))))
noncomputable def granaryref12_Attributes (x : Int × Int × Int × Int × Int × Int × Int × Int × Int × Int × Int × Int × Int × (List UInt8) × Int) : Option (Int × Int × Int × Int × Int × Int × Int × Int × Int × Int × Int × Int × Int) :=
  (Option.bind (granaryref12_Check (x.1, x.2.1, x.2.2.1, x.2.2.2.1, x.2.2.2.2.1, x.2.2.2.2.2.1, x.2.2.2.2.2.2.1, x.2.2.2.2.2.2.2.1, x.2.2.2.2.2.2.2.2.1, x.2.2.2.2.2.2.2.2.2.1, x.2.2.2.2.2.2.2.2.2.2.1, x.2.2.2.2.2.2.2.2.2.2.2.1, x.2.2.2.2.2.2.2.2.2.2.2.2.1, x.2.2.2.2.2.2.2.2.2.2.2.2.2.1)) fun r1 =>
  (cond (!(decide (r1 = (0 : Int))))
  (some ((0 : Int), (0 : Int), (0 : Int), (0 : Int), (0 : Int), (0 : Int), (0 : Int), (0 : Int), (0 : Int), (0 : Int), (0 : Int), (0 : Int), r1))
  (cond (decide ((18014398509481984 : Int) < x.2.2.2.2.2.2.2.2.1))
  (some ((0 : Int), (0 : Int), (0 : Int), (0 : Int), (0 : Int), (0 : Int), (0 : Int), (0 : Int), (0 : Int), (0 : Int), (0 : Int), (0 : Int), (122 : Int)))
  (some (x.2.2.1, x.2.2.2.1, x.2.2.2.2.1, x.2.2.2.2.2.1, x.2.2.2.2.2.2.1, x.2.2.2.2.2.2.2.1, (wrapF .u64 ((384 : Int) * x.2.2.2.2.2.2.2.2.1)), (wrapF .u64 x.2.2.2.2.2.2.2.2.2.2.2.2.2.2), x.1, x.2.2.2.2.2.2.2.2.2.1, x.2.2.2.2.2.2.2.2.2.2.1, x.2.2.2.2.2.2.2.2.2.2.2.1, (0 : Int))))))
noncomputable def inode_Linked (x : Int × Int × Int × Int × Int × Int × Int × Int × Int × Int × Int × Int × Int × (List UInt8) × Int × Int) : Option (Int × Int × Int × Int × Int × Int × Int × Int × Int × Int × Int × Int × Int × (List UInt8) × Int) :=
  (Option.bind (inode_Check (x.1, x.2.1, x.2.2.1, x.2.2.2.1, x.2.2.2.2.1, x.2.2.2.2.2.1, x.2.2.2.2.2.2.1, x.2.2.2.2.2.2.2.1, x.2.2.2.2.2.2.2.2.1, x.2.2.2.2.2.2.2.2.2.1, x.2.2.2.2.2.2.2.2.2.2.1, x.2.2.2.2.2.2.2.2.2.2.2.1, x.2.2.2.2.2.2.2.2.2.2.2.2.1, x.2.2.2.2.2.2.2.2.2.2.2.2.2.1)) fun r2 =>
  (cond (!(decide (r2 = (0 : Int))))
  (some ((0 : Int), (0 : Int), (0 : Int), (0 : Int), (0 : Int), (0 : Int), (0 : Int), (0 : Int), (0 : Int), (0 : Int), (0 : Int), (0 : Int), (0 : Int), ([] : List UInt8), r2))
  (Option.bind
  (cond (decide (x.2.2.2.2.2.2.2.2.2.2.2.2.2.2.1 < (wrapF .i64 ((0 : Int) - (wrapF .i64 x.2.2.2.2.1)))))
  (some true)
  (some (decide ((wrapF .i64 ((32000 : Int) - (wrapF .i64 x.2.2.2.2.1))) < x.2.2.2.2.2.2.2.2.2.2.2.2.2.2.1))))
  fun r11 =>
  (cond r11
  (some ((0 : Int), (0 : Int), (0 : Int), (0 : Int), (0 : Int), (0 : Int), (0 : Int), (0 : Int), (0 : Int), (0 : Int), (0 : Int), (0 : Int), (0 : Int), ([] : List UInt8), (123 : Int)))
  (some (x.1, x.2.1, x.2.2.1, x.2.2.2.1, (wrapF .u32 (wrapF .i64 ((wrapF .i64 x.2.2.2.2.1) + x.2.2.2.2.2.2.2.2.2.2.2.2.2.2.1))), x.2.2.2.2.2.1, x.2.2.2.2.2.2.1, x.2.2.2.2.2.2.2.1, x.2.2.2.2.2.2.2.2.1, x.2.2.2.2.2.2.2.2.2.1, x.2.2.2.2.2.2.2.2.2.2.1, x.2.2.2.2.2.2.2.2.2.2.2.2.2.2.2, x.2.2.2.2.2.2.2.2.2.2.2.2.1, x.2.2.2.2.2.2.2.2.2.2.2.2.2.1, (0 : Int)))))))
noncomputable def granaryref12_Linked (x : Int × Int × Int × Int × Int × Int × Int × Int × Int × Int × Int × Int × Int × (List UInt8) × Int × Int) : Option (Int × Int × Int × Int × Int × Int × Int × Int × Int × Int × Int × Int × Int × (List UInt8) × Int) :=
  (Option.bind (granaryref12_Check (x.1, x.2.1, x.2.2.1, x.2.2.2.1, x.2.2.2.2.1, x.2.2.2.2.2.1, x.2.2.2.2.2.2.1, x.2.2.2.2.2.2.2.1, x.2.2.2.2.2.2.2.2.1, x.2.2.2.2.2.2.2.2.2.1, x.2.2.2.2.2.2.2.2.2.2.1, x.2.2.2.2.2.2.2.2.2.2.2.1, x.2.2.2.2.2.2.2.2.2.2.2.2.1, x.2.2.2.2.2.2.2.2.2.2.2.2.2.1)) fun r2 =>
  (cond (!(decide (r2 = (0 : Int))))
  (some ((0 : Int), (0 : Int), (0 : Int), (0 : Int), (0 : Int), (0 : Int), (0 : Int), (0 : Int), (0 : Int), (0 : Int), (0 : Int), (0 : Int), (0 : Int), ([] : List UInt8), r2))
  (Option.bind
  (cond (decide (x.2.2.2.2.2.2.2.2.2.2.2.2.2.2.1 < (-32000 : Int)))
  (some true)
  (cond (decide ((32000 : Int) < x.2.2.2.2.2.2.2.2.2.2.2.2.2.2.1))
  (some true)
  (cond (decide ((wrapF .i64 ((wrapF .i64 x.2.2.2.2.1) + x.2.2.2.2.2.2.2.2.2.2.2.2.2.2.1)) < (0 : Int)))
  (some true)
  (some (decide ((32000 : Int) < (wrapF .i64 ((wrapF .i64 x.2.2.2.2.1) + x.2.2.2.2.2.2.2.2.2.2.2.2.2.2.1))))))))
  fun r13 =>
  (cond r13
  (some ((0 : Int), (0 : Int), (0 : Int), (0 : Int), (0 : Int), (0 : Int), (0 : Int), (0 : Int), (0 : Int), (0 : Int), (0 : Int), (0 : Int), (0 : Int), ([] : List UInt8), (123 : Int)))
  (some (x.1, x.2.1, x.2.2.1, x.2.2.2.1, (wrapF .u32 (wrapF .i64 ((wrapF .i64 x.2.2.2.2.1) + x.2.2.2.2.2.2.2.2.2.2.2.2.2.2.1))), x.2.2.2.2.2.1, x.2.2.2.2.2.2.1, x.2.2.2.2.2.2.2.1, x.2.2.2.2.2.2.2.2.1, x.2.2.2.2.2.2.2.2.2.1, x.2.2.2.2.2.2.2.2.2.2.1, x.2.2.2.2.2.2.2.2.2.2.2.2.2.2.2, x.2.2.2.2.2.2.2.2.2.2.2.2.1, x.2.2.2.2.2.2.2.2.2.2.2.2.2.1, (0 : Int)))))))
noncomputable def inode_Sized (x : Int × Int × Int × Int × Int × Int × Int × Int × Int × Int × Int × Int × Int × (List UInt8) × Int × Int) : Option (Int × Int × Int × Int × Int × Int × Int × Int × Int × Int × Int × Int × Int × (List UInt8) × Int) :=
  (Option.bind (inode_Check (x.1, x.2.1, x.2.2.1, x.2.2.2.1, x.2.2.2.2.1, x.2.2.2.2.2.1, x.2.2.2.2.2.2.1, x.2.2.2.2.2.2.2.1, x.2.2.2.2.2.2.2.2.1, x.2.2.2.2.2.2.2.2.2.1, x.2.2.2.2.2.2.2.2.2.2.1, x.2.2.2.2.2.2.2.2.2.2.2.1, x.2.2.2.2.2.2.2.2.2.2.2.2.1, x.2.2.2.2.2.2.2.2.2.2.2.2.2.1)) fun r2 =>
  (cond (!(decide (r2 = (0 : Int))))
  (some ((0 : Int), (0 : Int), (0 : Int), (0 : Int), (0 : Int), (0 : Int), (0 : Int), (0 : Int), (0 : Int), (0 : Int), (0 : Int), (0 : Int), (0 : Int), ([] : List UInt8), r2))
  (Option.bind
  (cond (!(decide (x.2.2.1 = (1 : Int))))
  (some true)
  (some (decide ((1048576 : Int) < x.2.2.2.2.2.2.2.2.2.2.2.2.2.2.1))))
  fun r7 =>
  (cond r7
  (some ((0 : Int), (0 : Int), (0 : Int), (0 : Int), (0 : Int), (0 : Int), (0 : Int), (0 : Int), (0 : Int), (0 : Int), (0 : Int), (0 : Int), (0 : Int), ([] : List UInt8), (122 : Int)))
  (some (x.1, x.2.1, x.2.2.1, x.2.2.2.1, x.2.2.2.2.1, x.2.2.2.2.2.1, x.2.2.2.2.2.2.1, x.2.2.2.2.2.2.2.2.2.2.2.2.2.2.1, x.2.2.2.2.2.2.2.2.1, x.2.2.2.2.2.2.2.2.2.1, x.2.2.2.2.2.2.2.2.2.2.2.2.2.2.2, x.2.2.2.2.2.2.2.2.2.2.2.2.2.2.2, x.2.2.2.2.2.2.2.2.2.2.2.2.1, x.2.2.2.2.2.2.2.2.2.2.2.2.2.1, (0 : Int)))))))
noncomputable def granaryref12_Sized (x : Int × Int × Int × Int × Int × Int × Int × Int × Int × Int × Int × Int × Int × (List UInt8) × Int × Int) : Option (Int × Int × Int × Int × Int × Int × Int × Int × Int × Int × Int × Int × Int × (List UInt8) × Int) :=
  (Option.bind (granaryref12_Check (x.1, x.2.1, x.2.2.1, x.2.2.2.1, x.2.2.2.2.1, x.2.2.2.2.2.1, x.2.2.2.2.2.2.1, x.2.2.2.2.2.2.2.1, x.2.2.2.2.2.2.2.2.1, x.2.2.2.2.2.2.2.2.2.1, x.2.2.2.2.2.2.2.2.2.2.1, x.2.2.2.2.2.2.2.2.2.2.2.1, x.2.2.2.2.2.2.2.2.2.2.2.2.1, x.2.2.2.2.2.2.2.2.2.2.2.2.2.1)) fun r2 =>
  (cond (!(decide (r2 = (0 : Int))))
  (some ((0 : Int), (0 : Int), (0 : Int), (0 : Int), (0 : Int), (0 : Int), (0 : Int), (0 : Int), (0 : Int), (0 : Int), (0 : Int), (0 : Int), (0 : Int), ([] : List UInt8), r2))
  (Option.bind
  (cond (!(decide (x.2.2.1 = (1 : Int))))
  (some true)
  (some (decide ((1048576 : Int) < x.2.2.2.2.2.2.2.2.2.2.2.2.2.2.1))))
  fun r7 =>
  (cond r7
  (some ((0 : Int), (0 : Int), (0 : Int), (0 : Int), (0 : Int), (0 : Int), (0 : Int), (0 : Int), (0 : Int), (0 : Int), (0 : Int), (0 : Int), (0 : Int), ([] : List UInt8), (122 : Int)))
  (some (x.1, x.2.1, x.2.2.1, x.2.2.2.1, x.2.2.2.2.1, x.2.2.2.2.2.1, x.2.2.2.2.2.2.1, x.2.2.2.2.2.2.2.2.2.2.2.2.2.2.1, x.2.2.2.2.2.2.2.2.1, x.2.2.2.2.2.2.2.2.2.1, x.2.2.2.2.2.2.2.2.2.2.2.2.2.2.2, x.2.2.2.2.2.2.2.2.2.2.2.2.2.2.2, x.2.2.2.2.2.2.2.2.2.2.2.2.1, x.2.2.2.2.2.2.2.2.2.2.2.2.2.1, (0 : Int)))))))
noncomputable def inode_Touch (N : Nat) (x : Int × Int × Int × Int × Int × Int × Int × Int × Int × Int × Int × Int × Int × (List UInt8) × Int × Int) : Option (Int × Int × Int × Int × Int × Int × Int × Int × Int × Int × Int × Int × Int × (List UInt8)) :=
  some (x.1, x.2.1, x.2.2.1, x.2.2.2.1, x.2.2.2.2.1, x.2.2.2.2.2.1, x.2.2.2.2.2.2.1, x.2.2.2.2.2.2.2.1, x.2.2.2.2.2.2.2.2.1, (cond (!(decide ((andF .i64 x.2.2.2.2.2.2.2.2.2.2.2.2.2.2.1 (1 : Int)) = (0 : Int)))) x.2.2.2.2.2.2.2.2.2.2.2.2.2.2.2 x.2.2.2.2.2.2.2.2.2.1), (cond (!(decide ((andF .i64 x.2.2.2.2.2.2.2.2.2.2.2.2.2.2.1 (2 : Int)) = (0 : Int)))) x.2.2.2.2.2.2.2.2.2.2.2.2.2.2.2 x.2.2.2.2.2.2.2.2.2.2.1), (cond (!(decide ((andF .i64 x.2.2.2.2.2.2.2.2.2.2.2.2.2.2.1 (4 : Int)) = (0 : Int)))) x.2.2.2.2.2.2.2.2.2.2.2.2.2.2.2 x.2.2.2.2.2.2.2.2.2.2.2.1), x.2.2.2.2.2.2.2.2.2.2.2.2.1, x.2.2.2.2.2.2.2.2.2.2.2.2.2.1)
noncomputable def granaryref12_Touch (x : Int × Int × Int × Int × Int × Int × Int × Int × Int × Int × Int × Int × Int × (List UInt8) × Int × Int) : Option (Int × Int × Int × Int × Int × Int × Int × Int × Int × Int × Int × Int × Int × (List UInt8)) :=
  (Option.bind
  (cond (!(decide ((andF .i64 x.2.2.2.2.2.2.2.2.2.2.2.2.2.2.1 (1 : Int)) = (0 : Int))))
  (some x.2.2.2.2.2.2.2.2.2.2.2.2.2.2.2)
  (some x.2.2.2.2.2.2.2.2.2.1))
  fun r4 =>
  (Option.bind
  (cond (!(decide ((andF .i64 x.2.2.2.2.2.2.2.2.2.2.2.2.2.2.1 (2 : Int)) = (0 : Int))))
  (some x.2.2.2.2.2.2.2.2.2.2.2.2.2.2.2)
  (some x.2.2.2.2.2.2.2.2.2.2.1))
  fun r7 =>
  (Option.bind
  (cond (!(decide ((andF .i64 x.2.2.2.2.2.2.2.2.2.2.2.2.2.2.1 (4 : Int)) = (0 : Int))))
  (some x.2.2.2.2.2.2.2.2.2.2.2.2.2.2.2)
  (some x.2.2.2.2.2.2.2.2.2.2.2.1))
  fun r10 =>
  (some (x.1, x.2.1, x.2.2.1, x.2.2.2.1, x.2.2.2.2.1, x.2.2.2.2.2.1, x.2.2.2.2.2.2.1, x.2.2.2.2.2.2.2.1, x.2.2.2.2.2.2.2.2.1, r4, r7, r10, x.2.2.2.2.2.2.2.2.2.2.2.2.1, x.2.2.2.2.2.2.2.2.2.2.2.2.2.1)))))
noncomputable def granarylaw12_apart (x : Int × Int × Int × Int × Int × Int × Int × Int × Int × Int × Int × Int × Int × (List UInt8) × Int × Int × Int × Int × Int × Int × Int × Int × Int × Int × Int × Int × Int × (List UInt8)) : Option (Bool) :=
  (some ((decide (x.1 = x.2.2.2.2.2.2.2.2.2.2.2.2.2.2.1)) && ((decide (x.2.1 = x.2.2.2.2.2.2.2.2.2.2.2.2.2.2.2.1)) && ((decide (x.2.2.1 = x.2.2.2.2.2.2.2.2.2.2.2.2.2.2.2.2.1)) && ((decide (x.2.2.2.1 = x.2.2.2.2.2.2.2.2.2.2.2.2.2.2.2.2.2.1)) && ((decide (x.2.2.2.2.1 = x.2.2.2.2.2.2.2.2.2.2.2.2.2.2.2.2.2.2.1)) && ((decide (x.2.2.2.2.2.1 = x.2.2.2.2.2.2.2.2.2.2.2.2.2.2.2.2.2.2.2.1)) && ((decide (x.2.2.2.2.2.2.1 = x.2.2.2.2.2.2.2.2.2.2.2.2.2.2.2.2.2.2.2.2.1)) && ((decide (x.2.2.2.2.2.2.2.1 = x.2.2.2.2.2.2.2.2.2.2.2.2.2.2.2.2.2.2.2.2.2.1)) && ((decide (x.2.2.2.2.2.2.2.2.1 = x.2.2.2.2.2.2.2.2.2.2.2.2.2.2.2.2.2.2.2.2.2.2.1)) && ((decide (x.2.2.2.2.2.2.2.2.2.1 = x.2.2.2.2.2.2.2.2.2.1)) && ((decide (x.2.2.2.2.2.2.2.2.2.2.1 = x.2.2.2.2.2.2.2.2.2.2.1)) && ((decide (x.2.2.2.2.2.2.2.2.2.2.2.1 = x.2.2.2.2.2.2.2.2.2.2.2.1)) && ((decide (x.2.2.2.2.2.2.2.2.2.2.2.2.1 = x.2.2.2.2.2.2.2.2.2.2.2.2.2.2.2.2.2.2.2.2.2.2.2.2.2.2.1)) && ((decide (x.2.2.2.2.2.2.2.2.2.2.2.2.2.1 = x.2.2.2.2.2.2.2.2.2.2.2.2.2.2.2.2.2.2.2.2.2.2.2.2.2.2.2)) && true)))))))))))))))
noncomputable def granarylaw12_with (x : Int × Int × Int × Int × Int × Int × Int × Int × Int × Int × Int × Int × Int × (List UInt8) × Int × Int × Int × Int × Int × Int × Int × Int × Int × Int × Int × Int × Int × (List UInt8)) : Option (Int × Int × Int × Int × Int × Int × Int × Int × Int × Int × Int × Int × Int × (List UInt8)) :=
  (some (x.1, x.2.1, x.2.2.1, x.2.2.2.2.2.2.2.2.2.2.2.2.2.2.2.2.2.1, x.2.2.2.2.2.2.2.2.2.2.2.2.2.2.2.2.2.2.1, x.2.2.2.2.2.2.2.2.2.2.2.2.2.2.2.2.2.2.2.1, x.2.2.2.2.2.2.2.2.2.2.2.2.2.2.2.2.2.2.2.2.1, x.2.2.2.2.2.2.2.2.2.2.2.2.2.2.2.2.2.2.2.2.2.1, x.2.2.2.2.2.2.2.2.1, x.2.2.2.2.2.2.2.2.2.1, x.2.2.2.2.2.2.2.2.2.2.1, x.2.2.2.2.2.2.2.2.2.2.2.1, x.2.2.2.2.2.2.2.2.2.2.2.2.1, x.2.2.2.2.2.2.2.2.2.2.2.2.2.1))
end Go.Rf.W
