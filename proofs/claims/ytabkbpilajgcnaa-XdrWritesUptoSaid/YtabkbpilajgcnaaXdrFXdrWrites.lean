/-
  The law's function, printed.
-/
import Derived.Test.YtabkbpilajgcnaaXdrF0
set_option linter.unusedVariables false
set_option maxRecDepth 100000
namespace Go.Rf.W
open Go Go.Rf
noncomputable def granarylaw01_XdrWrites_b2 (N : Nat) (next : (List (Int × (Int × ((List Int) × (Int × ((List Int) × ((List (List UInt8)) × Unit))))))) × Int × Int × (List Int) → Option (((List Int)))) (x : (List (Int × (Int × ((List Int) × (Int × ((List Int) × ((List (List UInt8)) × Unit))))))) × Int × Int × (List Int)) : Option (((List Int))) :=
  (cond (decide (x.2.2.1 < (((List.length x.2.2.2) : Nat) : Int)))
  (cond ((decide ((0 : Int) ≤ x.2.2.1)) && (decide (x.2.2.1 < (((List.length x.2.2.2) : Nat) : Int))))
  ((let v3 : Nat := (Int.toNat x.2.2.1)
  (cond (decide (v3 < (List.length x.2.2.2)))
  ((cond ((decide ((0 : Int) ≤ x.2.2.1)) && (decide (x.2.2.1 < (((List.length x.2.2.2) : Nat) : Int))))
  ((let v6 : Nat := (Int.toNat x.2.2.1)
  (cond (decide (v6 < (List.length x.2.2.2)))
  ((next (x.1, x.2.1, (wrapF .i64 (x.2.2.1 + (1 : Int))), (List.set x.2.2.2 v6 (xorF .u8 (List.getD x.2.2.2 v3 (EK.dflt (.int .u8))) (85 : Int))))))
  none)))
  none))
  none)))
  none)
  (some x.2.2.2))
noncomputable def granarylaw01_XdrWrites_l2 (N : Nat) : (List (Int × (Int × ((List Int) × (Int × ((List Int) × ((List (List UInt8)) × Unit))))))) × Int × Int × (List Int) → Option (((List Int))) := loopF (granarylaw01_XdrWrites_b2 N) N
noncomputable def granarylaw01_XdrWrites_b0 (N : Nat) (next : (List (Int × (Int × ((List Int) × (Int × ((List Int) × ((List (List UInt8)) × Unit))))))) × Int × Int × Int × (List Int) × (List Int) → Option ((Int × Int × (List Int) × (List Int)) ⊕ (Int × Int × (List Int) × (List Int)))) (x : (List (Int × (Int × ((List Int) × (Int × ((List Int) × ((List (List UInt8)) × Unit))))))) × Int × Int × Int × (List Int) × (List Int)) : Option ((Int × Int × (List Int) × (List Int)) ⊕ (Int × Int × (List Int) × (List Int))) :=
  (cond (decide (x.2.1 < (((List.length x.1) : Nat) : Int)))
  (cond ((decide ((0 : Int) ≤ x.2.1)) && (decide (x.2.1 < (((List.length x.1) : Nat) : Int))))
  ((let v4 : (Int × (Int × ((List Int) × (Int × ((List Int) × ((List (List UInt8)) × Unit)))))) := (List.getD x.1 (Int.toNat x.2.1) (EK.dflt (.pair (.int .i64) (.pair (.int .u64) (.pair (.sl (.int .u8)) (.pair (.int .i64) (.pair (.sl (.int .u32)) (.pair (.sl .str) .unit))))))))
  (cond (fits 1 (List.length v4.2.2.1))
  ((cond (fits 1 ((List.length v4.2.2.1) + (List.length (List.map (fun b => (b.toNat : Int)) ([114, 101, 115, 116] : List UInt8)))))
  ((let v5 : List Int := (v4.2.2.1 ++ (List.map (fun b => (b.toNat : Int)) ([114, 101, 115, 116] : List UInt8)))
  (cond ((decide ((0 : Int) ≤ x.2.1)) && (decide (x.2.1 < (((List.length x.1) : Nat) : Int))))
  ((let v6 : (Int × (Int × ((List Int) × (Int × ((List Int) × ((List (List UInt8)) × Unit)))))) := (List.getD x.1 (Int.toNat x.2.1) (EK.dflt (.pair (.int .i64) (.pair (.int .u64) (.pair (.sl (.int .u8)) (.pair (.int .i64) (.pair (.sl (.int .u32)) (.pair (.sl .str) .unit))))))))
  (cond ((decide ((0 : Int) ≤ x.2.1)) && (decide (x.2.1 < (((List.length x.1) : Nat) : Int))))
  ((let v8 : Int := (((List.length (List.getD x.1 (Int.toNat x.2.1) (EK.dflt (.pair (.int .i64) (.pair (.int .u64) (.pair (.sl (.int .u8)) (.pair (.int .i64) (.pair (.sl (.int .u32)) (.pair (.sl .str) .unit)))))))).2.2.1) : Nat) : Int)
  (cond ((decide ((0 : Int) ≤ v8)) && (decide (v8 ≤ (((List.length v5) : Nat) : Int))))
  ((let v9 : Nat := (Int.toNat v8)
  (cond (cond ((decide ((0 + v9) ≤ (List.length v5))) && true) true false)
  (Option.bind (granarylaw01_writes_v1 N (v6.1, v6.2.1, (List.take v9 (List.drop 0 v5)), v6.2.2.2.1, v6.2.2.2.2.1, v6.2.2.2.2.2.1, x.2.2.1, x.2.2.2.1, x.2.2.2.2.1, x.2.2.2.2.2)) fun r10 =>
  (Option.bind (xdr_Writer_Bytes (r10.1, r10.2.2.1)) fun r11 =>
  (Option.bind
  (cond (!(decide ((List.map (fun (n : Int) => UInt8.ofNat n.toNat) r11.2.2) = (List.map (fun (n : Int) => UInt8.ofNat n.toNat) r10.2.2.2))))
  (some (true, r11.1, r11.2.1))
  (Option.bind (xdr_Writer_Why_v1 (r11.1, r11.2.1)) fun r15 =>
  (Option.bind (granarylaw01_num r15.1) fun r16 =>
  (cond (!(decide (r16 = r10.2.1)))
  (some (true, r15.2.1, r15.2.2))
  (cond ((decide ((0 : Int) ≤ x.2.1)) && (decide (x.2.1 < (((List.length x.1) : Nat) : Int))))
  ((let v20 : List UInt8 := (List.map (fun (n : Int) => UInt8.ofNat n.toNat) (List.getD x.1 (Int.toNat x.2.1) (EK.dflt (.pair (.int .i64) (.pair (.int .u64) (.pair (.sl (.int .u8)) (.pair (.int .i64) (.pair (.sl (.int .u32)) (.pair (.sl .str) .unit)))))))).2.2.1)
  (cond (decide ((List.length v20) + (List.length ([114, 101, 115, 116] : List UInt8)) ≤ 9223372036854775807))
  ((some ((!(decide ((List.map (fun (n : Int) => UInt8.ofNat n.toNat) v5) = (v20 ++ ([114, 101, 115, 116] : List UInt8))))), r15.2.1, r15.2.2)))
  none)))
  none)))))
  fun r23 =>
  (cond r23.1
  (some (.inl (r23.2.1, r10.2.1, r23.2.2, r10.2.2.2)))
  (Option.bind (granarylaw01_XdrWrites_l2 N (x.1, x.2.1, (0 : Int), r11.2.2)) fun r24 =>
  (next (x.1, (wrapF .i64 (x.2.1 + (1 : Int))), r23.2.1, r10.2.1, r23.2.2, r10.2.2.2)))))))
  none)))
  none)))
  none)))
  none)))
  none))
  none)))
  none)
  (some (.inr ((x.2.2.1, x.2.2.2.1, x.2.2.2.2.1, x.2.2.2.2.2)))))
noncomputable def granarylaw01_XdrWrites_l0 (N : Nat) : (List (Int × (Int × ((List Int) × (Int × ((List Int) × ((List (List UInt8)) × Unit))))))) × Int × Int × Int × (List Int) × (List Int) → Option ((Int × Int × (List Int) × (List Int)) ⊕ (Int × Int × (List Int) × (List Int))) := loopF (granarylaw01_XdrWrites_b0 N) N
noncomputable def granarylaw01_XdrWrites (N : Nat) (x : (List (Int × (Int × ((List Int) × (Int × ((List Int) × ((List (List UInt8)) × Unit)))))))) : Option (Bool) :=
  (Option.bind (granarylaw01_huge N x) fun r1 =>
  (cond r1
  (Option.bind (granarylaw01_live N ()) fun r2 =>
  (some r2))
  (Option.bind (xdr_NewWriter ()) fun r3 =>
  (Option.bind (granarylaw01_XdrWrites_l0 N (x, (0 : Int), (0 : Int), (0 : Int), ([] : List Int), ([] : List Int))) fun r4 =>
  (match r4 with
  | .inl y5 =>
  (some false)
  | .inr z6 =>
  (Option.bind
  (Option.bind (xdr_Writer_Bytes (z6.1, z6.2.2.1)) fun r7 =>
  (cond (decide ((List.map (fun (n : Int) => UInt8.ofNat n.toNat) r7.2.2) = (List.map (fun (n : Int) => UInt8.ofNat n.toNat) z6.2.2.2)))
  (Option.bind (granarylaw01_live N ()) fun r11 =>
  (some (r11, r7.1, r7.2.1)))
  (some (false, r7.1, r7.2.1))))
  fun r12 =>
  (some r12.1)))))))
end Go.Rf.W
