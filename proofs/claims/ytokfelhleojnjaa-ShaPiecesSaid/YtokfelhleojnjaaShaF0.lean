/-
  The printed functions: plain data in, plain data out; none: beyond the number of rounds N, or where Go would panic.
-/
import Derived.Test.YtokfelhleojnjaaRfA
set_option linter.unusedVariables false
set_option maxRecDepth 100000
namespace Go.Rf.W
open Go Go.Rf
noncomputable def sha_beginning (x : Unit) : Option ((List Int)) :=
  (some (List.set (List.set (List.set (List.set (List.set (List.set (List.set (List.set (List.replicate 8 (EK.dflt (.int .u32))) 0 (1779033703 : Int)) 1 (3144134277 : Int)) 2 (1013904242 : Int)) 3 (2773480762 : Int)) 4 (1359893119 : Int)) 5 (2600822924 : Int)) 6 (528734635 : Int)) 7 (1541459225 : Int)))
noncomputable def sha_New (x : Unit) : Option ((List Int)) :=
  (Option.bind (sha_beginning ()) fun r1 =>
  (some r1))
noncomputable def sha_turned (x : Int × Int) : Option (Int) :=
  (cond (decide ((0 : Int) ≤ x.2))
  ((let v2 : Int := (wrapF .i64 ((32 : Int) - x.2))
  (cond (decide ((0 : Int) ≤ v2))
  ((some (orF .u32 (shrF .u32 x.1 x.2) (shlF .u32 x.1 v2))))
  none)))
  none)
noncomputable def sha_constants (x : Unit) : Option ((List Int)) :=
  (some (List.set (List.set (List.set (List.set (List.set (List.set (List.set (List.set (List.set (List.set (List.set (List.set (List.set (List.set (List.set (List.set (List.set (List.set (List.set (List.set (List.set (List.set (List.set (List.set (List.set (List.set (List.set (List.set (List.set (List.set (List.set (List.set (List.set (List.set (List.set (List.set (List.set (List.set (List.set (List.set (List.set (List.set (List.set (List.set (List.set (List.set (List.set (List.set (List.set (List.set (List.set (List.set (List.set (List.set (List.set (List.set (List.set (List.set (List.set (List.set (List.set (List.set (List.set (List.set (List.replicate 64 (EK.dflt (.int .u32))) 0 (1116352408 : Int)) 1 (1899447441 : Int)) 2 (3049323471 : Int)) 3 (3921009573 : Int)) 4 (961987163 : Int)) 5 (1508970993 : Int)) 6 (2453635748 : Int)) 7 (2870763221 : Int)) 8 (3624381080 : Int)) 9 (310598401 : Int)) 10 (607225278 : Int)) 11 (1426881987 : Int)) 12 (1925078388 : Int)) 13 (2162078206 : Int)) 14 (2614888103 : Int)) 15 (3248222580 : Int)) 16 (3835390401 : Int)) 17 (4022224774 : Int)) 18 (264347078 : Int)) 19 (604807628 : Int)) 20 (770255983 : Int)) 21 (1249150122 : Int)) 22 (1555081692 : Int)) 23 (1996064986 : Int)) 24 (2554220882 : Int)) 25 (2821834349 : Int)) 26 (2952996808 : Int)) 27 (3210313671 : Int)) 28 (3336571891 : Int)) 29 (3584528711 : Int)) 30 (113926993 : Int)) 31 (338241895 : Int)) 32 (666307205 : Int)) 33 (773529912 : Int)) 34 (1294757372 : Int)) 35 (1396182291 : Int)) 36 (1695183700 : Int)) 37 (1986661051 : Int)) 38 (2177026350 : Int)) 39 (2456956037 : Int)) 40 (2730485921 : Int)) 41 (2820302411 : Int)) 42 (3259730800 : Int)) 43 (3345764771 : Int)) 44 (3516065817 : Int)) 45 (3600352804 : Int)) 46 (4094571909 : Int)) 47 (275423344 : Int)) 48 (430227734 : Int)) 49 (506948616 : Int)) 50 (659060556 : Int)) 51 (883997877 : Int)) 52 (958139571 : Int)) 53 (1322822218 : Int)) 54 (1537002063 : Int)) 55 (1747873779 : Int)) 56 (1955562222 : Int)) 57 (2024104815 : Int)) 58 (2227730452 : Int)) 59 (2361852424 : Int)) 60 (2428436474 : Int)) 61 (2756734187 : Int)) 62 (3204031479 : Int)) 63 (3329325298 : Int)))
noncomputable def sha_Hash_round_b0 (N : Nat) (next : (List Int) × Int × (List Int) → Option (((List Int)))) (x : (List Int) × Int × (List Int)) : Option (((List Int))) :=
  (cond (decide (x.2.1 < (16 : Int)))
  (let v2 : Int := (wrapF .i64 ((4 : Int) * x.2.1))
  (cond ((decide ((0 : Int) ≤ v2)) && (decide (v2 < (((List.length x.1) : Nat) : Int))))
  ((let v7 : Int := (wrapF .i64 ((wrapF .i64 ((4 : Int) * x.2.1)) + (1 : Int)))
  (cond ((decide ((0 : Int) ≤ v7)) && (decide (v7 < (((List.length x.1) : Nat) : Int))))
  ((let v13 : Int := (wrapF .i64 ((wrapF .i64 ((4 : Int) * x.2.1)) + (2 : Int)))
  (cond ((decide ((0 : Int) ≤ v13)) && (decide (v13 < (((List.length x.1) : Nat) : Int))))
  ((let v19 : Int := (wrapF .i64 ((wrapF .i64 ((4 : Int) * x.2.1)) + (3 : Int)))
  (cond ((decide ((0 : Int) ≤ v19)) && (decide (v19 < (((List.length x.1) : Nat) : Int))))
  ((cond ((decide ((0 : Int) ≤ x.2.1)) && (decide (x.2.1 < (64 : Int))))
  ((let v23 : Nat := (Int.toNat x.2.1)
  (cond (decide (v23 < (List.length x.2.2)))
  ((next (x.1, (wrapF .i64 (x.2.1 + (1 : Int))), (List.set x.2.2 v23 (orF .u32 (orF .u32 (orF .u32 (shlF .u32 (wrapF .u32 (List.getD x.1 (Int.toNat v2) (EK.dflt (.int .u8)))) (24 : Int)) (shlF .u32 (wrapF .u32 (List.getD x.1 (Int.toNat v7) (EK.dflt (.int .u8)))) (16 : Int))) (shlF .u32 (wrapF .u32 (List.getD x.1 (Int.toNat v13) (EK.dflt (.int .u8)))) (8 : Int))) (wrapF .u32 (List.getD x.1 (Int.toNat v19) (EK.dflt (.int .u8)))))))))
  none)))
  none))
  none)))
  none)))
  none)))
  none))
  (some x.2.2))
noncomputable def sha_Hash_round_l0 (N : Nat) : (List Int) × Int × (List Int) → Option (((List Int))) := loopF (sha_Hash_round_b0 N) N
noncomputable def sha_Hash_round_b2 (N : Nat) (next : Int × (List Int) → Option (((List Int)))) (x : Int × (List Int)) : Option (((List Int))) :=
  (cond (decide (x.1 < (64 : Int)))
  (let v2 : Int := (wrapF .i64 (x.1 - (15 : Int)))
  (cond ((decide ((0 : Int) ≤ v2)) && (decide (v2 < (64 : Int))))
  ((let v3 : Nat := (Int.toNat v2)
  (cond (decide (v3 < (List.length x.2)))
  ((let v4 : Int := (List.getD x.2 v3 (EK.dflt (.int .u32)))
  (let v5 : Int := (wrapF .i64 (x.1 - (2 : Int)))
  (cond ((decide ((0 : Int) ≤ v5)) && (decide (v5 < (64 : Int))))
  ((let v6 : Nat := (Int.toNat v5)
  (cond (decide (v6 < (List.length x.2)))
  ((let v7 : Int := (List.getD x.2 v6 (EK.dflt (.int .u32)))
  (let v8 : Int := (wrapF .i64 (x.1 - (16 : Int)))
  (cond ((decide ((0 : Int) ≤ v8)) && (decide (v8 < (64 : Int))))
  ((let v9 : Nat := (Int.toNat v8)
  (cond (decide (v9 < (List.length x.2)))
  ((Option.bind (sha_turned (v4, (7 : Int))) fun r11 =>
  (Option.bind (sha_turned (v4, (18 : Int))) fun r12 =>
  (let v17 : Int := (wrapF .i64 (x.1 - (7 : Int)))
  (cond ((decide ((0 : Int) ≤ v17)) && (decide (v17 < (64 : Int))))
  ((let v18 : Nat := (Int.toNat v17)
  (cond (decide (v18 < (List.length x.2)))
  ((Option.bind (sha_turned (v7, (17 : Int))) fun r21 =>
  (Option.bind (sha_turned (v7, (19 : Int))) fun r22 =>
  (cond ((decide ((0 : Int) ≤ x.1)) && (decide (x.1 < (64 : Int))))
  ((let v27 : Nat := (Int.toNat x.1)
  (cond (decide (v27 < (List.length x.2)))
  ((next ((wrapF .i64 (x.1 + (1 : Int))), (List.set x.2 v27 (wrapF .u32 ((wrapF .u32 ((wrapF .u32 ((List.getD x.2 v9 (EK.dflt (.int .u32))) + (xorF .u32 (xorF .u32 r11 r12) (shrF .u32 v4 (3 : Int))))) + (List.getD x.2 v18 (EK.dflt (.int .u32))))) + (xorF .u32 (xorF .u32 r21 r22) (shrF .u32 v7 (10 : Int)))))))))
  none)))
  none))))
  none)))
  none)))))
  none)))
  none))))
  none)))
  none))))
  none)))
  none))
  (some x.2))
noncomputable def sha_Hash_round_l2 (N : Nat) : Int × (List Int) → Option (((List Int))) := loopF (sha_Hash_round_b2 N) N
noncomputable def sha_Hash_round_b4 (N : Nat) (next : (List Int) × Int × (List Int) × (List Int) → Option (((List Int) × (List Int)))) (x : (List Int) × Int × (List Int) × (List Int)) : Option (((List Int) × (List Int))) :=
  (cond (decide (x.2.1 < (64 : Int)))
  (cond ((decide ((0 : Int) ≤ x.2.1)) && (decide (x.2.1 < (64 : Int))))
  ((cond (decide (0 < (List.length x.2.2.2)))
  ((let v3 : Int := (List.getD x.2.2.2 0 (EK.dflt (.int .u32)))
  (cond (decide (4 < (List.length x.2.2.2)))
  ((let v4 : Int := (List.getD x.2.2.2 4 (EK.dflt (.int .u32)))
  (cond (decide (7 < (List.length x.2.2.2)))
  ((Option.bind (sha_turned (v4, (6 : Int))) fun r6 =>
  (Option.bind (sha_turned (v4, (11 : Int))) fun r7 =>
  (Option.bind (sha_turned (v4, (25 : Int))) fun r9 =>
  (cond (decide (5 < (List.length x.2.2.2)))
  ((cond (decide (6 < (List.length x.2.2.2)))
  ((cond ((decide ((0 : Int) ≤ x.2.1)) && (decide (x.2.1 < (64 : Int))))
  ((let v20 : Nat := (Int.toNat x.2.1)
  (cond (decide (v20 < (List.length x.2.2.1)))
  ((let v22 : Int := (wrapF .u32 ((wrapF .u32 ((wrapF .u32 ((wrapF .u32 ((List.getD x.2.2.2 7 (EK.dflt (.int .u32))) + (xorF .u32 (xorF .u32 r6 r7) r9))) + (xorF .u32 (andF .u32 v4 (List.getD x.2.2.2 5 (EK.dflt (.int .u32)))) (andF .u32 (xorF .u32 (4294967295 : Int) v4) (List.getD x.2.2.2 6 (EK.dflt (.int .u32))))))) + (List.getD x.1 (Int.toNat x.2.1) (EK.dflt (.int .u32))))) + (List.getD x.2.2.1 v20 (EK.dflt (.int .u32)))))
  (Option.bind (sha_turned (v3, (2 : Int))) fun r23 =>
  (Option.bind (sha_turned (v3, (13 : Int))) fun r24 =>
  (Option.bind (sha_turned (v3, (22 : Int))) fun r26 =>
  (cond (decide (1 < (List.length x.2.2.2)))
  ((cond (decide (2 < (List.length x.2.2.2)))
  ((cond (decide (1 < (List.length x.2.2.2)))
  ((cond (decide (2 < (List.length x.2.2.2)))
  ((cond ((decide (7 ≤ (List.length x.2.2.2))) && (decide (8 ≤ (List.length x.2.2.2))))
  ((let v39 : List Int := (List.take 1 x.2.2.2 ++ List.take (min (List.length (List.take 7 (List.drop 0 x.2.2.2))) 7) (List.take 7 (List.drop 0 x.2.2.2)) ++ List.drop (1 + (min (List.length (List.take 7 (List.drop 0 x.2.2.2))) 7)) x.2.2.2)
  (cond (decide (4 < (List.length v39)))
  ((cond (decide (4 < (List.length v39)))
  ((let v42 : List Int := (List.set v39 4 (wrapF .u32 ((List.getD v39 4 (EK.dflt (.int .u32))) + v22)))
  (cond (decide (0 < (List.length v42)))
  ((next (x.1, (wrapF .i64 (x.2.1 + (1 : Int))), x.2.2.1, (List.set v42 0 (wrapF .u32 (v22 + (wrapF .u32 ((xorF .u32 (xorF .u32 r23 r24) r26) + (xorF .u32 (xorF .u32 (andF .u32 v3 (List.getD x.2.2.2 1 (EK.dflt (.int .u32)))) (andF .u32 v3 (List.getD x.2.2.2 2 (EK.dflt (.int .u32))))) (andF .u32 (List.getD x.2.2.2 1 (EK.dflt (.int .u32))) (List.getD x.2.2.2 2 (EK.dflt (.int .u32)))))))))))))
  none)))
  none))
  none)))
  none))
  none))
  none))
  none))
  none))))))
  none)))
  none))
  none))
  none)))))
  none)))
  none)))
  none))
  none)
  (some (x.2.2.1, x.2.2.2)))
noncomputable def sha_Hash_round_l4 (N : Nat) : (List Int) × Int × (List Int) × (List Int) → Option (((List Int) × (List Int))) := loopF (sha_Hash_round_b4 N) N
noncomputable def sha_Hash_round_b6 (N : Nat) (next : (List Int) × Int × (List Int) → Option (((List Int)))) (x : (List Int) × Int × (List Int)) : Option (((List Int))) :=
  (cond (decide (x.2.1 < (8 : Int)))
  (cond ((decide ((0 : Int) ≤ x.2.1)) && (decide (x.2.1 < (8 : Int))))
  ((cond ((decide ((0 : Int) ≤ x.2.1)) && (decide (x.2.1 < (8 : Int))))
  ((let v3 : Nat := (Int.toNat x.2.1)
  (cond (decide (v3 < (List.length x.2.2)))
  ((cond ((decide ((0 : Int) ≤ x.2.1)) && (decide (x.2.1 < (8 : Int))))
  ((let v6 : Nat := (Int.toNat x.2.1)
  (cond (decide (v6 < (List.length x.2.2)))
  ((next (x.1, (wrapF .i64 (x.2.1 + (1 : Int))), (List.set x.2.2 v6 (wrapF .u32 ((List.getD x.2.2 v3 (EK.dflt (.int .u32))) + (List.getD x.1 (Int.toNat x.2.1) (EK.dflt (.int .u32)))))))))
  none)))
  none))
  none)))
  none))
  none)
  (some x.2.2))
noncomputable def sha_Hash_round_l6 (N : Nat) : (List Int) × Int × (List Int) → Option (((List Int))) := loopF (sha_Hash_round_b6 N) N
noncomputable def sha_Hash_round (N : Nat) (x : (List Int) × (List Int) × Int) : Option ((List Int) × Int) :=
  (Option.bind (sha_Hash_round_l0 N (x.1, (0 : Int), (List.replicate 64 (EK.dflt (.int .u32))))) fun r2 =>
  (Option.bind (sha_Hash_round_l2 N ((16 : Int), r2)) fun r3 =>
  (Option.bind (sha_constants ()) fun r5 =>
  (Option.bind (sha_Hash_round_l4 N (r5, (0 : Int), r3, x.2.1)) fun r6 =>
  (Option.bind (sha_Hash_round_l6 N (r6.2, (0 : Int), x.2.1)) fun r7 =>
  (some (r7, x.2.2)))))))
noncomputable def slices_Clone_byte_byte (x : (List Int)) : Option ((List Int)) :=
  (agreeC (decide ((List.length x) = 0)) false
  (some ([] : List Int))
  (cond (fits 1 (List.length x))
  ((some x))
  none))
noncomputable def sha_Hash_Write_b0 (N : Nat) (next : Nat × Nat × (List Int) × Int × (List Int) → Option ((Nat × Nat × (List Int) × Int × (List Int)))) (x : Nat × Nat × (List Int) × Int × (List Int)) : Option ((Nat × Nat × (List Int) × Int × (List Int))) :=
  (cond (decide ((64 : Int) ≤ ((x.2.1 : Nat) : Int)))
  (cond (decide ((64 : Int) ≤ ((x.2.1 : Nat) : Int)))
  ((let v3 : Nat := (0 + x.1)
  (cond (cond (decide ((v3 + 64) ≤ (List.length x.2.2.2.2))) true false)
  (Option.bind (sha_Hash_round N ((List.take 64 (List.drop v3 x.2.2.2.2)), x.2.2.1, x.2.2.2.1)) fun r4 =>
  (cond ((decide ((64 : Int) ≤ ((x.2.1 : Nat) : Int))) && (decide (((x.2.1 : Nat) : Int) ≤ ((x.2.1 : Nat) : Int))))
  ((next ((64 + x.1), (x.2.1 - 64), r4.1, r4.2, x.2.2.2.2)))
  none))
  none)))
  none)
  (some (x.1, x.2.1, x.2.2.1, x.2.2.2.1, x.2.2.2.2)))
noncomputable def sha_Hash_Write_l0 (N : Nat) : Nat × Nat × (List Int) × Int × (List Int) → Option ((Nat × Nat × (List Int) × Int × (List Int))) := loopF (sha_Hash_Write_b0 N) N
noncomputable def sha_Hash_Write (N : Nat) (x : (List Int) × (List Int) × Int) : Option ((List Int) × Int × (List Int)) :=
  (cond (fits 1 (List.length x.1))
  ((Option.bind (sha_Hash_Write_l0 N (0, (List.length x.1), x.2.1, (wrapF .u64 (x.2.2 + (wrapF .u64 (((List.length x.1) : Nat) : Int)))), x.1)) fun r4 =>
  (cond (cond (decide ((r4.1 + r4.2.1) ≤ (List.length r4.2.2.2.2))) true false)
  (Option.bind (slices_Clone_byte_byte (List.take r4.2.1 (List.drop r4.1 r4.2.2.2.2))) fun r5 =>
  (some (r4.2.2.1, r4.2.2.2.1, r5)))
  none)))
  none)
noncomputable def octet_Lay_b0 (N : Nat) (next : Nat × Nat × Int × Int × (List Int) → Option (((List Int)))) (x : Nat × Nat × Int × Int × (List Int)) : Option (((List Int))) :=
  (cond (decide ((0 : Int) ≤ x.2.2.2.1))
  (cond ((decide ((0 : Int) ≤ x.2.2.2.1)) && (decide (x.2.2.2.1 < ((x.2.1 : Nat) : Int))))
  ((let v3 : Nat := ((Int.toNat x.2.2.2.1) + x.1)
  (cond (decide (v3 < (List.length x.2.2.2.2)))
  ((next (x.1, x.2.1, (shrF .u64 x.2.2.1 (8 : Int)), (wrapF .i64 (x.2.2.2.1 - (1 : Int))), (List.set x.2.2.2.2 v3 (wrapF .u8 x.2.2.1)))))
  none)))
  none)
  (some x.2.2.2.2))
noncomputable def octet_Lay_l0 (N : Nat) : Nat × Nat × Int × Int × (List Int) → Option (((List Int))) := loopF (octet_Lay_b0 N) N
noncomputable def octet_Lay (N : Nat) (x : Nat × Nat × Int × (List Int)) : Option ((List Int)) :=
  (Option.bind (octet_Lay_l0 N (x.1, x.2.1, x.2.2.1, (wrapF .i64 (((x.2.1 : Nat) : Int) - (1 : Int))), x.2.2.2)) fun r3 =>
  (some r3))
noncomputable def octet_Put (N : Nat) (x : Nat × Nat × Int × Int × (List Int)) : Option ((List Int)) :=
  (cond ((((decide ((0 : Int) ≤ x.2.2.2.1)) && (fits 1 (Int.toNat x.2.2.2.1))) && (decide (x.1 + x.2.1 = (List.length x.2.2.2.2)))) && (fits 1 (x.2.1 + (List.length (List.replicate (Int.toNat x.2.2.2.1) (EK.dflt (.int .u8)))))))
  ((let v1 : List Int := (List.drop x.1 x.2.2.2.2 ++ (List.replicate (Int.toNat x.2.2.2.1) (EK.dflt (.int .u8))))
  (let v3 : Int := (wrapF .i64 ((((List.length v1) : Nat) : Int) - x.2.2.2.1))
  (cond (((decide ((0 : Int) ≤ v3)) && (decide (v3 ≤ (((List.length v1) : Nat) : Int)))) && (decide ((((List.length v1) : Nat) : Int) ≤ (((List.length v1) : Nat) : Int))))
  ((Option.bind (octet_Lay N ((Int.toNat v3), ((List.length v1) - (Int.toNat v3)), x.2.2.1, v1)) fun r6 =>
  (some r6)))
  none))))
  none)
noncomputable def sha_Hash_round_v1_b0 (N : Nat) (next : (List Int) × Int × (List Int) → Option (((List Int)))) (x : (List Int) × Int × (List Int)) : Option (((List Int))) :=
  (cond (decide (x.2.1 < (16 : Int)))
  (let v2 : Int := (wrapF .i64 ((4 : Int) * x.2.1))
  (cond ((decide ((0 : Int) ≤ v2)) && (decide (v2 < (((List.length x.1) : Nat) : Int))))
  ((let v7 : Int := (wrapF .i64 ((wrapF .i64 ((4 : Int) * x.2.1)) + (1 : Int)))
  (cond ((decide ((0 : Int) ≤ v7)) && (decide (v7 < (((List.length x.1) : Nat) : Int))))
  ((let v13 : Int := (wrapF .i64 ((wrapF .i64 ((4 : Int) * x.2.1)) + (2 : Int)))
  (cond ((decide ((0 : Int) ≤ v13)) && (decide (v13 < (((List.length x.1) : Nat) : Int))))
  ((let v19 : Int := (wrapF .i64 ((wrapF .i64 ((4 : Int) * x.2.1)) + (3 : Int)))
  (cond ((decide ((0 : Int) ≤ v19)) && (decide (v19 < (((List.length x.1) : Nat) : Int))))
  ((cond ((decide ((0 : Int) ≤ x.2.1)) && (decide (x.2.1 < (64 : Int))))
  ((let v23 : Nat := (Int.toNat x.2.1)
  (cond (decide (v23 < (List.length x.2.2)))
  ((next (x.1, (wrapF .i64 (x.2.1 + (1 : Int))), (List.set x.2.2 v23 (orF .u32 (orF .u32 (orF .u32 (shlF .u32 (wrapF .u32 (List.getD x.1 (Int.toNat v2) (EK.dflt (.int .u8)))) (24 : Int)) (shlF .u32 (wrapF .u32 (List.getD x.1 (Int.toNat v7) (EK.dflt (.int .u8)))) (16 : Int))) (shlF .u32 (wrapF .u32 (List.getD x.1 (Int.toNat v13) (EK.dflt (.int .u8)))) (8 : Int))) (wrapF .u32 (List.getD x.1 (Int.toNat v19) (EK.dflt (.int .u8)))))))))
  none)))
  none))
  none)))
  none)))
  none)))
  none))
  (some x.2.2))
noncomputable def sha_Hash_round_v1_l0 (N : Nat) : (List Int) × Int × (List Int) → Option (((List Int))) := loopF (sha_Hash_round_v1_b0 N) N
noncomputable def sha_Hash_round_v1_b2 (N : Nat) (next : Int × (List Int) → Option (((List Int)))) (x : Int × (List Int)) : Option (((List Int))) :=
  (cond (decide (x.1 < (64 : Int)))
  (let v2 : Int := (wrapF .i64 (x.1 - (15 : Int)))
  (cond ((decide ((0 : Int) ≤ v2)) && (decide (v2 < (64 : Int))))
  ((let v3 : Nat := (Int.toNat v2)
  (cond (decide (v3 < (List.length x.2)))
  ((let v4 : Int := (List.getD x.2 v3 (EK.dflt (.int .u32)))
  (let v5 : Int := (wrapF .i64 (x.1 - (2 : Int)))
  (cond ((decide ((0 : Int) ≤ v5)) && (decide (v5 < (64 : Int))))
  ((let v6 : Nat := (Int.toNat v5)
  (cond (decide (v6 < (List.length x.2)))
  ((let v7 : Int := (List.getD x.2 v6 (EK.dflt (.int .u32)))
  (let v8 : Int := (wrapF .i64 (x.1 - (16 : Int)))
  (cond ((decide ((0 : Int) ≤ v8)) && (decide (v8 < (64 : Int))))
  ((let v9 : Nat := (Int.toNat v8)
  (cond (decide (v9 < (List.length x.2)))
  ((Option.bind (sha_turned (v4, (7 : Int))) fun r11 =>
  (Option.bind (sha_turned (v4, (18 : Int))) fun r12 =>
  (let v17 : Int := (wrapF .i64 (x.1 - (7 : Int)))
  (cond ((decide ((0 : Int) ≤ v17)) && (decide (v17 < (64 : Int))))
  ((let v18 : Nat := (Int.toNat v17)
  (cond (decide (v18 < (List.length x.2)))
  ((Option.bind (sha_turned (v7, (17 : Int))) fun r21 =>
  (Option.bind (sha_turned (v7, (19 : Int))) fun r22 =>
  (cond ((decide ((0 : Int) ≤ x.1)) && (decide (x.1 < (64 : Int))))
  ((let v27 : Nat := (Int.toNat x.1)
  (cond (decide (v27 < (List.length x.2)))
  ((next ((wrapF .i64 (x.1 + (1 : Int))), (List.set x.2 v27 (wrapF .u32 ((wrapF .u32 ((wrapF .u32 ((List.getD x.2 v9 (EK.dflt (.int .u32))) + (xorF .u32 (xorF .u32 r11 r12) (shrF .u32 v4 (3 : Int))))) + (List.getD x.2 v18 (EK.dflt (.int .u32))))) + (xorF .u32 (xorF .u32 r21 r22) (shrF .u32 v7 (10 : Int)))))))))
  none)))
  none))))
  none)))
  none)))))
  none)))
  none))))
  none)))
  none))))
  none)))
  none))
  (some x.2))
noncomputable def sha_Hash_round_v1_l2 (N : Nat) : Int × (List Int) → Option (((List Int))) := loopF (sha_Hash_round_v1_b2 N) N
noncomputable def sha_Hash_round_v1_b4 (N : Nat) (next : (List Int) × Int × (List Int) × (List Int) → Option (((List Int) × (List Int)))) (x : (List Int) × Int × (List Int) × (List Int)) : Option (((List Int) × (List Int))) :=
  (cond (decide (x.2.1 < (64 : Int)))
  (cond ((decide ((0 : Int) ≤ x.2.1)) && (decide (x.2.1 < (64 : Int))))
  ((cond (decide (0 < (List.length x.2.2.2)))
  ((let v3 : Int := (List.getD x.2.2.2 0 (EK.dflt (.int .u32)))
  (cond (decide (4 < (List.length x.2.2.2)))
  ((let v4 : Int := (List.getD x.2.2.2 4 (EK.dflt (.int .u32)))
  (cond (decide (7 < (List.length x.2.2.2)))
  ((Option.bind (sha_turned (v4, (6 : Int))) fun r6 =>
  (Option.bind (sha_turned (v4, (11 : Int))) fun r7 =>
  (Option.bind (sha_turned (v4, (25 : Int))) fun r9 =>
  (cond (decide (5 < (List.length x.2.2.2)))
  ((cond (decide (6 < (List.length x.2.2.2)))
  ((cond ((decide ((0 : Int) ≤ x.2.1)) && (decide (x.2.1 < (64 : Int))))
  ((let v20 : Nat := (Int.toNat x.2.1)
  (cond (decide (v20 < (List.length x.2.2.1)))
  ((let v22 : Int := (wrapF .u32 ((wrapF .u32 ((wrapF .u32 ((wrapF .u32 ((List.getD x.2.2.2 7 (EK.dflt (.int .u32))) + (xorF .u32 (xorF .u32 r6 r7) r9))) + (xorF .u32 (andF .u32 v4 (List.getD x.2.2.2 5 (EK.dflt (.int .u32)))) (andF .u32 (xorF .u32 (4294967295 : Int) v4) (List.getD x.2.2.2 6 (EK.dflt (.int .u32))))))) + (List.getD x.1 (Int.toNat x.2.1) (EK.dflt (.int .u32))))) + (List.getD x.2.2.1 v20 (EK.dflt (.int .u32)))))
  (Option.bind (sha_turned (v3, (2 : Int))) fun r23 =>
  (Option.bind (sha_turned (v3, (13 : Int))) fun r24 =>
  (Option.bind (sha_turned (v3, (22 : Int))) fun r26 =>
  (cond (decide (1 < (List.length x.2.2.2)))
  ((cond (decide (2 < (List.length x.2.2.2)))
  ((cond (decide (1 < (List.length x.2.2.2)))
  ((cond (decide (2 < (List.length x.2.2.2)))
  ((cond ((decide (7 ≤ (List.length x.2.2.2))) && (decide (8 ≤ (List.length x.2.2.2))))
  ((let v39 : List Int := (List.take 1 x.2.2.2 ++ List.take (min (List.length (List.take 7 (List.drop 0 x.2.2.2))) 7) (List.take 7 (List.drop 0 x.2.2.2)) ++ List.drop (1 + (min (List.length (List.take 7 (List.drop 0 x.2.2.2))) 7)) x.2.2.2)
  (cond (decide (4 < (List.length v39)))
  ((cond (decide (4 < (List.length v39)))
  ((let v42 : List Int := (List.set v39 4 (wrapF .u32 ((List.getD v39 4 (EK.dflt (.int .u32))) + v22)))
  (cond (decide (0 < (List.length v42)))
  ((next (x.1, (wrapF .i64 (x.2.1 + (1 : Int))), x.2.2.1, (List.set v42 0 (wrapF .u32 (v22 + (wrapF .u32 ((xorF .u32 (xorF .u32 r23 r24) r26) + (xorF .u32 (xorF .u32 (andF .u32 v3 (List.getD x.2.2.2 1 (EK.dflt (.int .u32)))) (andF .u32 v3 (List.getD x.2.2.2 2 (EK.dflt (.int .u32))))) (andF .u32 (List.getD x.2.2.2 1 (EK.dflt (.int .u32))) (List.getD x.2.2.2 2 (EK.dflt (.int .u32)))))))))))))
  none)))
  none))
  none)))
  none))
  none))
  none))
  none))
  none))))))
  none)))
  none))
  none))
  none)))))
  none)))
  none)))
  none))
  none)
  (some (x.2.2.1, x.2.2.2)))
noncomputable def sha_Hash_round_v1_l4 (N : Nat) : (List Int) × Int × (List Int) × (List Int) → Option (((List Int) × (List Int))) := loopF (sha_Hash_round_v1_b4 N) N
noncomputable def sha_Hash_round_v1_b6 (N : Nat) (next : (List Int) × Int × (List Int) → Option (((List Int)))) (x : (List Int) × Int × (List Int)) : Option (((List Int))) :=
  (cond (decide (x.2.1 < (8 : Int)))
  (cond ((decide ((0 : Int) ≤ x.2.1)) && (decide (x.2.1 < (8 : Int))))
  ((cond ((decide ((0 : Int) ≤ x.2.1)) && (decide (x.2.1 < (8 : Int))))
  ((let v3 : Nat := (Int.toNat x.2.1)
  (cond (decide (v3 < (List.length x.2.2)))
  ((cond ((decide ((0 : Int) ≤ x.2.1)) && (decide (x.2.1 < (8 : Int))))
  ((let v6 : Nat := (Int.toNat x.2.1)
  (cond (decide (v6 < (List.length x.2.2)))
  ((next (x.1, (wrapF .i64 (x.2.1 + (1 : Int))), (List.set x.2.2 v6 (wrapF .u32 ((List.getD x.2.2 v3 (EK.dflt (.int .u32))) + (List.getD x.1 (Int.toNat x.2.1) (EK.dflt (.int .u32)))))))))
  none)))
  none))
  none)))
  none))
  none)
  (some x.2.2))
noncomputable def sha_Hash_round_v1_l6 (N : Nat) : (List Int) × Int × (List Int) → Option (((List Int))) := loopF (sha_Hash_round_v1_b6 N) N
noncomputable def sha_Hash_round_v1 (N : Nat) (x : (List Int) × (List Int) × Int) : Option ((List Int) × Int) :=
  (Option.bind (sha_Hash_round_v1_l0 N (x.1, (0 : Int), (List.replicate 64 (EK.dflt (.int .u32))))) fun r2 =>
  (Option.bind (sha_Hash_round_v1_l2 N ((16 : Int), r2)) fun r3 =>
  (Option.bind (sha_constants ()) fun r5 =>
  (Option.bind (sha_Hash_round_v1_l4 N (r5, (0 : Int), r3, x.2.1)) fun r6 =>
  (Option.bind (sha_Hash_round_v1_l6 N (r6.2, (0 : Int), x.2.1)) fun r7 =>
  (some (r7, x.2.2)))))))
noncomputable def sha_Hash_Write_v1_b0 (N : Nat) (next : Nat × Nat × (List Int) × Int × (List Int) → Option ((Nat × Nat × (List Int) × Int × (List Int)))) (x : Nat × Nat × (List Int) × Int × (List Int)) : Option ((Nat × Nat × (List Int) × Int × (List Int))) :=
  (cond (decide ((64 : Int) ≤ ((x.2.1 : Nat) : Int)))
  (cond (decide ((64 : Int) ≤ ((x.2.1 : Nat) : Int)))
  ((let v3 : Nat := (0 + x.1)
  (cond (cond (decide ((v3 + 64) ≤ (List.length x.2.2.2.2))) true false)
  (Option.bind (sha_Hash_round_v1 N ((List.take 64 (List.drop v3 x.2.2.2.2)), x.2.2.1, x.2.2.2.1)) fun r4 =>
  (cond ((decide ((64 : Int) ≤ ((x.2.1 : Nat) : Int))) && (decide (((x.2.1 : Nat) : Int) ≤ ((x.2.1 : Nat) : Int))))
  ((next ((64 + x.1), (x.2.1 - 64), r4.1, r4.2, x.2.2.2.2)))
  none))
  none)))
  none)
  (some (x.1, x.2.1, x.2.2.1, x.2.2.2.1, x.2.2.2.2)))
noncomputable def sha_Hash_Write_v1_l0 (N : Nat) : Nat × Nat × (List Int) × Int × (List Int) → Option ((Nat × Nat × (List Int) × Int × (List Int))) := loopF (sha_Hash_Write_v1_b0 N) N
noncomputable def sha_Hash_Write_v1 (N : Nat) (x : (List Int) × (List Int) × Int × (List Int)) : Option ((List Int) × Int × (List Int)) :=
  (cond (fits 1 ((List.length x.2.2.2) + (List.length x.1)))
  ((let v4 : List Int := (x.2.2.2 ++ x.1)
  (Option.bind (sha_Hash_Write_v1_l0 N (0, (List.length v4), x.2.1, (wrapF .u64 (x.2.2.1 + (wrapF .u64 (((List.length x.1) : Nat) : Int)))), v4)) fun r5 =>
  (cond (cond (decide ((r5.1 + r5.2.1) ≤ (List.length r5.2.2.2.2))) true false)
  (Option.bind (slices_Clone_byte_byte (List.take r5.2.1 (List.drop r5.1 r5.2.2.2.2))) fun r6 =>
  (some (r5.2.2.1, r5.2.2.2.1, r6)))
  none))))
  none)
noncomputable def octet_Put_v1 (N : Nat) (x : Int × Int) : Option ((List Int)) :=
  (cond (((decide ((0 : Int) ≤ x.2)) && (fits 1 (Int.toNat x.2))) && (fits 1 (List.length (List.replicate (Int.toNat x.2) (EK.dflt (.int .u8))))))
  ((let v1 : List Int := (List.replicate (Int.toNat x.2) (EK.dflt (.int .u8)))
  (let v3 : Int := (wrapF .i64 ((((List.length v1) : Nat) : Int) - x.2))
  (cond (((decide ((0 : Int) ≤ v3)) && (decide (v3 ≤ (((List.length v1) : Nat) : Int)))) && (decide ((((List.length v1) : Nat) : Int) ≤ (((List.length v1) : Nat) : Int))))
  ((Option.bind (octet_Lay N ((Int.toNat v3), ((List.length v1) - (Int.toNat v3)), x.1, v1)) fun r6 =>
  (some r6)))
  none))))
  none)
noncomputable def octet_Put_v2 (N : Nat) (x : Int × Int × (List Int)) : Option ((List Int)) :=
  (cond (((decide ((0 : Int) ≤ x.2.1)) && (fits 1 (Int.toNat x.2.1))) && (fits 1 ((List.length x.2.2) + (List.length (List.replicate (Int.toNat x.2.1) (EK.dflt (.int .u8)))))))
  ((let v1 : List Int := (x.2.2 ++ (List.replicate (Int.toNat x.2.1) (EK.dflt (.int .u8))))
  (let v3 : Int := (wrapF .i64 ((((List.length v1) : Nat) : Int) - x.2.1))
  (cond (((decide ((0 : Int) ≤ v3)) && (decide (v3 ≤ (((List.length v1) : Nat) : Int)))) && (decide ((((List.length v1) : Nat) : Int) ≤ (((List.length v1) : Nat) : Int))))
  ((Option.bind (octet_Lay N ((Int.toNat v3), ((List.length v1) - (Int.toNat v3)), x.1, v1)) fun r6 =>
  (some r6)))
  none))))
  none)
noncomputable def sha_words_b0 (N : Nat) (next : (List Int) × Int × (List Int) → Option (((List Int)))) (x : (List Int) × Int × (List Int)) : Option (((List Int))) :=
  (cond (decide (x.2.1 < (8 : Int)))
  (cond ((decide ((0 : Int) ≤ x.2.1)) && (decide (x.2.1 < (8 : Int))))
  ((Option.bind (octet_Put_v2 N ((wrapF .u64 (List.getD x.1 (Int.toNat x.2.1) (EK.dflt (.int .u32)))), (4 : Int), x.2.2)) fun r4 =>
  (next (x.1, (wrapF .i64 (x.2.1 + (1 : Int))), r4))))
  none)
  (some x.2.2))
noncomputable def sha_words_l0 (N : Nat) : (List Int) × Int × (List Int) → Option (((List Int))) := loopF (sha_words_b0 N) N
noncomputable def sha_words (N : Nat) (x : (List Int)) : Option ((List Int)) :=
  (Option.bind (sha_words_l0 N (x, (0 : Int), ([] : List Int))) fun r1 =>
  (some r1))
noncomputable def sha_Hash_Sum_b0 (N : Nat) (next : Nat × Nat × (List Int) × Int × (List Int) × (List Int) → Option ((Nat × Nat × (List Int) × Int × (List Int) × (List Int)))) (x : Nat × Nat × (List Int) × Int × (List Int) × (List Int)) : Option ((Nat × Nat × (List Int) × Int × (List Int) × (List Int))) :=
  (cond (!(decide ((Int.tmod (wrapF .i64 ((wrapF .i64 ((((List.length x.2.2.2.2.1) : Nat) : Int) + ((x.2.1 : Nat) : Int))) + (8 : Int))) (64 : Int)) = (0 : Int))))
  (let v7 : List Int := ([(0 : Int)] : List Int)
  (cond (((decide (1 ≤ (List.length v7))) && (decide (x.1 + x.2.1 = (List.length x.2.2.2.2.2)))) && (fits 1 (x.2.1 + (List.length (List.take 1 (List.drop 0 v7))))))
  ((let v8 : List Int := (List.drop x.1 x.2.2.2.2.2 ++ (List.take 1 (List.drop 0 v7)))
  (next (0, (List.length v8), x.2.2.1, x.2.2.2.1, x.2.2.2.2.1, v8))))
  none))
  (some (x.1, x.2.1, x.2.2.1, x.2.2.2.1, x.2.2.2.2.1, x.2.2.2.2.2)))
noncomputable def sha_Hash_Sum_l0 (N : Nat) : Nat × Nat × (List Int) × Int × (List Int) × (List Int) → Option ((Nat × Nat × (List Int) × Int × (List Int) × (List Int))) := loopF (sha_Hash_Sum_b0 N) N
noncomputable def sha_Hash_Sum (N : Nat) (x : (List Int) × Int × (List Int)) : Option ((List Int) × (List Int) × Int × (List Int)) :=
  (Option.bind (slices_Clone_byte_byte x.2.2) fun r2 =>
  (Option.bind (sha_Hash_Sum_l0 N (0, 1, x.1, x.2.1, x.2.2, ([(128 : Int)] : List Int))) fun r4 =>
  (Option.bind (octet_Put N (r4.1, r4.2.1, (wrapF .u64 ((8 : Int) * r4.2.2.2.1)), (8 : Int), r4.2.2.2.2.2)) fun r6 =>
  (Option.bind (sha_Hash_Write_v1 N (r6, x.1, (0 : Int), r2)) fun r7 =>
  (let v8 : List Int := (List.replicate 32 (EK.dflt (.int .u8)))
  (Option.bind (sha_words N r7.1) fun r9 =>
  (cond (decide (32 ≤ (List.length v8)))
  ((some ((List.take 0 v8 ++ List.take (min (List.length r9) 32) r9 ++ List.drop (0 + (min (List.length r9) 32)) v8), r4.2.2.1, r4.2.2.2.1, r4.2.2.2.2.1)))
  none)))))))
noncomputable def sha_Sum (N : Nat) (x : (List Int)) : Option ((List Int)) :=
  (Option.bind (sha_New ()) fun r2 =>
  (Option.bind (sha_Hash_Write N (x, r2, (0 : Int))) fun r3 =>
  (Option.bind (sha_Hash_Sum N (r3.1, r3.2.1, r3.2.2)) fun r4 =>
  (some r4.1))))
noncomputable def sha_Hash_Write_v2_b0 (N : Nat) (next : Nat × Nat × (List Int) × Int × (List Int) → Option ((Nat × Nat × (List Int) × Int × (List Int)))) (x : Nat × Nat × (List Int) × Int × (List Int)) : Option ((Nat × Nat × (List Int) × Int × (List Int))) :=
  (cond (decide ((64 : Int) ≤ ((x.2.1 : Nat) : Int)))
  (cond (decide ((64 : Int) ≤ ((x.2.1 : Nat) : Int)))
  ((let v3 : Nat := (0 + x.1)
  (cond (cond (decide ((v3 + 64) ≤ (List.length x.2.2.2.2))) true false)
  (Option.bind (sha_Hash_round N ((List.take 64 (List.drop v3 x.2.2.2.2)), x.2.2.1, x.2.2.2.1)) fun r4 =>
  (cond ((decide ((64 : Int) ≤ ((x.2.1 : Nat) : Int))) && (decide (((x.2.1 : Nat) : Int) ≤ ((x.2.1 : Nat) : Int))))
  ((next ((64 + x.1), (x.2.1 - 64), r4.1, r4.2, x.2.2.2.2)))
  none))
  none)))
  none)
  (some (x.1, x.2.1, x.2.2.1, x.2.2.2.1, x.2.2.2.2)))
noncomputable def sha_Hash_Write_v2_l0 (N : Nat) : Nat × Nat × (List Int) × Int × (List Int) → Option ((Nat × Nat × (List Int) × Int × (List Int))) := loopF (sha_Hash_Write_v2_b0 N) N
noncomputable def sha_Hash_Write_v2 (N : Nat) (x : (List Int) × (List Int) × Int) : Option ((List Int) × Int × (List Int)) :=
  (cond (fits 1 (List.length x.1))
  ((Option.bind (sha_Hash_Write_v2_l0 N (0, (List.length x.1), x.2.1, (wrapF .u64 (x.2.2 + (wrapF .u64 (((List.length x.1) : Nat) : Int)))), x.1)) fun r4 =>
  (cond (cond (decide ((r4.1 + r4.2.1) ≤ (List.length r4.2.2.2.2))) true false)
  (Option.bind (slices_Clone_byte_byte (List.take r4.2.1 (List.drop r4.1 r4.2.2.2.2))) fun r5 =>
  (some (r4.2.2.1, r4.2.2.2.1, r5)))
  none)))
  none)
noncomputable def sha_value (x : Int) : Option (Int) :=
  (Option.bind
  (cond (decide ((48 : Int) ≤ x))
  (some (decide (x ≤ (57 : Int))))
  (some false))
  fun r3 =>
  (cond r3
  (some (wrapF .i64 (wrapF .u8 (x - (48 : Int)))))
  (Option.bind
  (cond (decide ((97 : Int) ≤ x))
  (some (decide (x ≤ (102 : Int))))
  (some false))
  fun r8 =>
  (cond r8
  (some (wrapF .i64 ((wrapF .i64 (wrapF .u8 (x - (97 : Int)))) + (10 : Int))))
  (some (-1 : Int))))))
noncomputable def sha_Parse_b0 (N : Nat) (next : (List UInt8) × Int × Int × (List Int) × (List Int) → Option ((Int × (List Int) × (List Int)) ⊕ ((List Int) × (List Int)))) (x : (List UInt8) × Int × Int × (List Int) × (List Int)) : Option ((Int × (List Int) × (List Int)) ⊕ ((List Int) × (List Int))) :=
  (cond (decide (x.2.2.1 < x.2.1))
  (cond ((decide ((0 : Int) ≤ x.2.2.1)) && (decide (x.2.2.1 < (((List.length x.1) : Nat) : Int))))
  ((Option.bind (sha_value ((List.getD x.1 (Int.toNat x.2.2.1) 0).toNat : Int)) fun r3 =>
  (cond (decide (r3 < (0 : Int)))
  (some (.inl (x.2.2.1, (List.replicate 32 (EK.dflt (.int .u8))), x.2.2.2.2)))
  (let v6 : Int := (wrapF .i64 (Int.tdiv x.2.2.1 (2 : Int)))
  (let v7 : Int := (wrapF .i64 (Int.tdiv x.2.2.1 (2 : Int)))
  (cond ((decide ((0 : Int) ≤ v7)) && (decide (v7 < (32 : Int))))
  ((let v8 : Nat := (Int.toNat v7)
  (cond (decide (v8 < (List.length x.2.2.2.2)))
  ((cond ((decide ((0 : Int) ≤ v6)) && (decide (v6 < (32 : Int))))
  ((let v13 : Nat := (Int.toNat v6)
  (cond (decide (v13 < (List.length x.2.2.2.2)))
  ((next (x.1, x.2.1, (wrapF .i64 (x.2.2.1 + (1 : Int))), x.2.2.2.1, (List.set x.2.2.2.2 v13 (orF .u8 (shlF .u8 (List.getD x.2.2.2.2 v8 (EK.dflt (.int .u8))) (4 : Int)) (wrapF .u8 r3))))))
  none)))
  none))
  none)))
  none))))))
  none)
  (some (.inr ((x.2.2.2.1, x.2.2.2.2)))))
noncomputable def sha_Parse_l0 (N : Nat) : (List UInt8) × Int × Int × (List Int) × (List Int) → Option ((Int × (List Int) × (List Int)) ⊕ ((List Int) × (List Int))) := loopF (sha_Parse_b0 N) N
noncomputable def sha_Parse (N : Nat) (x : (List UInt8)) : Option ((List Int) × Int × Int) :=
  (let v3 : Int := (((List.length x) : Nat) : Int)
  (Option.bind (sha_Parse_l0 N (x, (if (64 : Int) < v3 then (64 : Int) else v3), (0 : Int), (List.replicate 32 (EK.dflt (.int .u8))), (List.replicate 32 (EK.dflt (.int .u8))))) fun r5 =>
  (match r5 with
  | .inl y6 =>
  (some (y6.2.1, (50 : Int), y6.1))
  | .inr z7 =>
  (cond (decide ((((List.length x) : Nat) : Int) < (64 : Int)))
  (some ((List.replicate 32 (EK.dflt (.int .u8))), (3 : Int), (((List.length x) : Nat) : Int)))
  (cond (decide ((64 : Int) < (((List.length x) : Nat) : Int)))
  (some ((List.replicate 32 (EK.dflt (.int .u8))), (4 : Int), (64 : Int)))
  (some (z7.2, (0 : Int), (0 : Int))))))))
noncomputable def sha_Hex_b0 (N : Nat) (next : (List Int) × Int × (List Int) → Option (((List Int)))) (x : (List Int) × Int × (List Int)) : Option (((List Int))) :=
  (cond (decide (x.2.1 < (32 : Int)))
  (cond ((decide ((0 : Int) ≤ x.2.1)) && (decide (x.2.1 < (32 : Int))))
  ((let v2 : Int := (List.getD x.1 (Int.toNat x.2.1) (EK.dflt (.int .u8)))
  (let v3 : Int := (shrF .u8 v2 (4 : Int))
  (cond ((decide ((0 : Int) ≤ v3)) && (decide (v3 < (((List.length ([48, 49, 50, 51, 52, 53, 54, 55, 56, 57, 97, 98, 99, 100, 101, 102] : List UInt8)) : Nat) : Int))))
  ((let v5 : Int := (andF .u8 v2 (15 : Int))
  (cond ((decide ((0 : Int) ≤ v5)) && (decide (v5 < (((List.length ([48, 49, 50, 51, 52, 53, 54, 55, 56, 57, 97, 98, 99, 100, 101, 102] : List UInt8)) : Nat) : Int))))
  ((let v7 : List Int := ([((List.getD ([48, 49, 50, 51, 52, 53, 54, 55, 56, 57, 97, 98, 99, 100, 101, 102] : List UInt8) (Int.toNat v3) 0).toNat : Int), ((List.getD ([48, 49, 50, 51, 52, 53, 54, 55, 56, 57, 97, 98, 99, 100, 101, 102] : List UInt8) (Int.toNat v5) 0).toNat : Int)] : List Int)
  (cond ((decide (2 ≤ (List.length v7))) && (fits 1 ((List.length x.2.2) + (List.length (List.take 2 (List.drop 0 v7))))))
  ((next (x.1, (wrapF .i64 (x.2.1 + (1 : Int))), (x.2.2 ++ (List.take 2 (List.drop 0 v7))))))
  none)))
  none)))
  none))))
  none)
  (some x.2.2))
noncomputable def sha_Hex_l0 (N : Nat) : (List Int) × Int × (List Int) → Option (((List Int))) := loopF (sha_Hex_b0 N) N
noncomputable def sha_Hex (N : Nat) (x : (List Int)) : Option ((List UInt8)) :=
  (Option.bind (sha_Hex_l0 N (x, (0 : Int), ([] : List Int))) fun r2 =>
  (some (List.map (fun (n : Int) => UInt8.ofNat n.toNat) r2)))
noncomputable def sha_steps (x : Unit) : Option ((List Int)) :=
  (some (List.set (List.set (List.set (List.set (List.set (List.set (List.set (List.set (List.set (List.set (List.set (List.set (List.set (List.set (List.set (List.set (List.replicate 16 (EK.dflt (.int .u32))) 0 (0 : Int)) 1 (274646895 : Int)) 2 (549293790 : Int)) 3 (820201905 : Int)) 4 (1098587580 : Int)) 5 (1361435347 : Int)) 6 (1640403810 : Int)) 7 (1905808397 : Int)) 8 (2197175160 : Int)) 9 (2460548119 : Int)) 10 (2722870694 : Int)) 11 (2987750089 : Int)) 12 (3280807620 : Int)) 13 (3553878443 : Int)) 14 (3811616794 : Int)) 15 (4084100981 : Int)))
noncomputable def sha_More_b0 (N : Nat) (next : Int × (List Int) × Int × Int × (List Int) → Option ((Int × (List Int)))) (x : Int × (List Int) × Int × Int × (List Int)) : Option ((Int × (List Int))) :=
  (cond (decide (x.2.2.2.1 < x.2.2.1))
  (cond ((decide ((0 : Int) ≤ x.2.2.2.1)) && (decide (x.2.2.2.1 < (((List.length x.2.1) : Nat) : Int))))
  ((let v4 : Int := (xorF .u32 x.1 (wrapF .u32 (List.getD x.2.1 (Int.toNat x.2.2.2.1) (EK.dflt (.int .u8)))))
  (let v6 : Int := (andF .u32 v4 (15 : Int))
  (cond ((decide ((0 : Int) ≤ v6)) && (decide (v6 < (16 : Int))))
  ((let v7 : Nat := (Int.toNat v6)
  (cond (decide (v7 < (List.length x.2.2.2.2)))
  ((let v9 : Int := (xorF .u32 (shrF .u32 v4 (4 : Int)) (List.getD x.2.2.2.2 v7 (EK.dflt (.int .u32))))
  (let v11 : Int := (andF .u32 v9 (15 : Int))
  (cond ((decide ((0 : Int) ≤ v11)) && (decide (v11 < (16 : Int))))
  ((let v12 : Nat := (Int.toNat v11)
  (cond (decide (v12 < (List.length x.2.2.2.2)))
  ((next ((xorF .u32 (shrF .u32 v9 (4 : Int)) (List.getD x.2.2.2.2 v12 (EK.dflt (.int .u32)))), x.2.1, x.2.2.1, (wrapF .i64 (x.2.2.2.1 + (1 : Int))), x.2.2.2.2)))
  none)))
  none))))
  none)))
  none))))
  none)
  (some (x.1, x.2.2.2.2)))
noncomputable def sha_More_l0 (N : Nat) : Int × (List Int) × Int × Int × (List Int) → Option ((Int × (List Int))) := loopF (sha_More_b0 N) N
noncomputable def sha_More (N : Nat) (x : Int × (List Int)) : Option (Int) :=
  (Option.bind (sha_steps ()) fun r1 =>
  (Option.bind (sha_More_l0 N ((xorF .u32 (4294967295 : Int) x.1), x.2, (((List.length x.2) : Nat) : Int), (0 : Int), r1)) fun r5 =>
  (some (xorF .u32 (4294967295 : Int) r5.1))))
noncomputable def sha_Crc (N : Nat) (x : (List Int)) : Option (Int) :=
  (Option.bind (sha_More N ((0 : Int), x)) fun r1 =>
  (some r1))
noncomputable def sha_Sum_v1 (N : Nat) (x : (List Int)) : Option ((List Int)) :=
  (Option.bind (sha_New ()) fun r2 =>
  (Option.bind (sha_Hash_Write N (x, r2, (0 : Int))) fun r3 =>
  (Option.bind (sha_Hash_Sum N (r3.1, r3.2.1, r3.2.2)) fun r4 =>
  (some r4.1))))
noncomputable def sha_half_b0 (N : Nat) (next : Int × Int → Option (Int)) (x : Int × Int) : Option (Int) :=
  (cond (decide ((wrapF .i64 ((2 : Int) * x.2)) < x.1))
  (next (x.1, (wrapF .i64 (x.2 * (2 : Int)))))
  (some x.2))
noncomputable def sha_half_l0 (N : Nat) : Int × Int → Option (Int) := loopF (sha_half_b0 N) N
noncomputable def sha_half (N : Nat) (x : Int) : Option (Int) :=
  (Option.bind (sha_half_l0 N (x, (1 : Int))) fun r1 =>
  (some r1))
noncomputable def sha_pair (N : Nat) (x : (List Int) × (List Int)) : Option ((List Int)) :=
  (Option.bind (sha_New ()) fun r2 =>
  (let v3 : List Int := ([(1 : Int)] : List Int)
  (cond (cond (decide (1 ≤ (List.length v3))) true false)
  (Option.bind (sha_Hash_Write_v2 N ((List.take 1 (List.drop 0 v3)), r2, (0 : Int))) fun r4 =>
  (cond (cond (decide (32 ≤ (List.length x.1))) true false)
  (Option.bind (sha_Hash_Write_v1 N ((List.take 32 (List.drop 0 x.1)), r4.1, r4.2.1, r4.2.2)) fun r5 =>
  (cond (cond (decide (32 ≤ (List.length x.2))) true false)
  (Option.bind (sha_Hash_Write_v1 N ((List.take 32 (List.drop 0 x.2)), r5.1, r5.2.1, r5.2.2)) fun r6 =>
  (Option.bind (sha_Hash_Sum N (r6.1, r6.2.1, r6.2.2)) fun r7 =>
  (some r7.1)))
  none))
  none))
  none)))
noncomputable def sha_Root_v1_b (N : Nat) (rec : (List (List Int)) → Option ((List Int))) (x : (List (List Int))) : Option ((List Int)) :=
  (let v2 : Int := (((List.length x) : Nat) : Int)
  (cond (decide (v2 = (0 : Int)))
  (Option.bind (sha_Sum_v1 N ([] : List Int)) fun r4 =>
  (some r4))
  (cond (decide (v2 = (1 : Int)))
  (cond (decide ((0 : Int) < (((List.length x) : Nat) : Int)))
  ((some (List.getD x 0 (EK.dflt (.arr 32 (.int .u8))))))
  none)
  (Option.bind (sha_half N (((List.length x) : Nat) : Int)) fun r8 =>
  (cond ((decide ((0 : Int) ≤ r8)) && (decide (r8 ≤ (((List.length x) : Nat) : Int))))
  ((Option.bind (rec (List.take (Int.toNat r8) (List.drop 0 x))) fun r10 =>
  (cond (((decide ((0 : Int) ≤ r8)) && (decide (r8 ≤ (((List.length x) : Nat) : Int)))) && (decide ((((List.length x) : Nat) : Int) ≤ (((List.length x) : Nat) : Int))))
  ((Option.bind (rec (List.take ((List.length x) - (Int.toNat r8)) (List.drop (Int.toNat r8) x))) fun r12 =>
  (Option.bind (sha_pair N (r10, r12)) fun r13 =>
  (some r13))))
  none)))
  none)))))
noncomputable def sha_Root_v1 (N : Nat) : (List (List Int)) → Option ((List Int)) := loopF (sha_Root_v1_b N) N
noncomputable def sha_Root (N : Nat) (x : (List (List Int))) : Option ((List Int)) :=
  (let v2 : Int := (((List.length x) : Nat) : Int)
  (cond (decide (v2 = (0 : Int)))
  (Option.bind (sha_Sum_v1 N ([] : List Int)) fun r4 =>
  (some r4))
  (cond (decide (v2 = (1 : Int)))
  (cond (decide ((0 : Int) < (((List.length x) : Nat) : Int)))
  ((some (List.getD x 0 (EK.dflt (.arr 32 (.int .u8))))))
  none)
  (Option.bind (sha_half N (((List.length x) : Nat) : Int)) fun r8 =>
  (cond ((decide ((0 : Int) ≤ r8)) && (decide (r8 ≤ (((List.length x) : Nat) : Int))))
  ((Option.bind (sha_Root_v1 N (List.take (Int.toNat r8) (List.drop 0 x))) fun r10 =>
  (cond (((decide ((0 : Int) ≤ r8)) && (decide (r8 ≤ (((List.length x) : Nat) : Int)))) && (decide ((((List.length x) : Nat) : Int) ≤ (((List.length x) : Nat) : Int))))
  ((Option.bind (sha_Root_v1 N (List.take ((List.length x) - (Int.toNat r8)) (List.drop (Int.toNat r8) x))) fun r12 =>
  (Option.bind (sha_pair N (r10, r12)) fun r13 =>
  (some r13))))
  none)))
  none)))))
noncomputable def granarylaw05_num (x : Int) : Option (Int) :=
  (some x)
noncomputable def granarylaw05_live (N : Nat) (x : Unit) : Option (Bool) :=
  (let v1 : List Int := ([(97 : Int), (98 : Int), (99 : Int)] : List Int)
  (cond (cond (decide (3 ≤ (List.length v1))) true false)
  (Option.bind (sha_Sum N (List.take 3 (List.drop 0 v1))) fun r2 =>
  (Option.bind (sha_New ()) fun r4 =>
  (let v5 : List Int := ([(97 : Int)] : List Int)
  (cond (cond (decide (1 ≤ (List.length v5))) true false)
  (Option.bind (sha_Hash_Write_v2 N ((List.take 1 (List.drop 0 v5)), r4, (0 : Int))) fun r6 =>
  (let v7 : List Int := ([(98 : Int), (99 : Int)] : List Int)
  (cond (cond (decide (2 ≤ (List.length v7))) true false)
  (Option.bind (sha_Hash_Write_v1 N ((List.take 2 (List.drop 0 v7)), r6.1, r6.2.1, r6.2.2)) fun r8 =>
  (Option.bind (sha_Parse N ([120] : List UInt8)) fun r9 =>
  (Option.bind
  (Option.bind (sha_Hex N r2) fun r11 =>
  (cond (decide (r11 = ([98, 97, 55, 56, 49, 54, 98, 102, 56, 102, 48, 49, 99, 102, 101, 97, 52, 49, 52, 49, 52, 48, 100, 101, 53, 100, 97, 101, 50, 50, 50, 51, 98, 48, 48, 51, 54, 49, 97, 51, 57, 54, 49, 55, 55, 97, 57, 99, 98, 52, 49, 48, 102, 102, 54, 49, 102, 50, 48, 48, 49, 53, 97, 100] : List UInt8)))
  (Option.bind (sha_Hash_Sum N (r8.1, r8.2.1, r8.2.2)) fun r13 =>
  (cond (decide (r13.1 = r2))
  (let v15 : List Int := ([(49 : Int), (50 : Int), (51 : Int), (52 : Int), (53 : Int), (54 : Int), (55 : Int), (56 : Int), (57 : Int)] : List Int)
  (cond (cond (decide (9 ≤ (List.length v15))) true false)
  (Option.bind (sha_Crc N (List.take 9 (List.drop 0 v15))) fun r16 =>
  (cond (decide (r16 = (3808858755 : Int)))
  (let v18 : List (List Int) := ([r2] : List (List Int))
  (cond (cond (decide (1 ≤ (List.length v18))) true false)
  (Option.bind (sha_Root N (List.take 1 (List.drop 0 v18))) fun r19 =>
  (cond (decide (r19 = r2))
  (Option.bind (granarylaw05_num r9.2.1) fun r21 =>
  (cond (decide (r21 = (50 : Int)))
  (some ((decide (r9.2.2 = (0 : Int))), r13.2.1, r13.2.2.1, r13.2.2.2))
  (some (false, r13.2.1, r13.2.2.1, r13.2.2.2))))
  (some (false, r13.2.1, r13.2.2.1, r13.2.2.2))))
  none))
  (some (false, r13.2.1, r13.2.2.1, r13.2.2.2))))
  none))
  (some (false, r13.2.1, r13.2.2.1, r13.2.2.2))))
  (some (false, r8.1, r8.2.1, r8.2.2))))
  fun r24 =>
  (some r24.1))))
  none)))
  none))))
  none))
noncomputable def granaryref05_First (x : Unit) : Option ((List Int)) :=
  (some (List.set (List.set (List.set (List.set (List.set (List.set (List.set (List.set (List.replicate 8 (EK.dflt (.int .u32))) 0 (1779033703 : Int)) 1 (3144134277 : Int)) 2 (1013904242 : Int)) 3 (2773480762 : Int)) 4 (1359893119 : Int)) 5 (2600822924 : Int)) 6 (528734635 : Int)) 7 (1541459225 : Int)))
noncomputable def granaryref05_New (x : Unit) : Option ((List Int)) :=
  (Option.bind (granaryref05_First ()) fun r1 =>
  (some r1))
noncomputable def granaryref05_K (x : Unit) : Option ((List Int)) :=
  (some (List.set (List.set (List.set (List.set (List.set (List.set (List.set (List.set (List.set (List.set (List.set (List.set (List.set (List.set (List.set (List.set (List.set (List.set (List.set (List.set (List.set (List.set (List.set (List.set (List.set (List.set (List.set (List.set (List.set (List.set (List.set (List.set (List.set (List.set (List.set (List.set (List.set (List.set (List.set (List.set (List.set (List.set (List.set (List.set (List.set (List.set (List.set (List.set (List.set (List.set (List.set (List.set (List.set (List.set (List.set (List.set (List.set (List.set (List.set (List.set (List.set (List.set (List.set (List.set (List.replicate 64 (EK.dflt (.int .u32))) 0 (1116352408 : Int)) 1 (1899447441 : Int)) 2 (3049323471 : Int)) 3 (3921009573 : Int)) 4 (961987163 : Int)) 5 (1508970993 : Int)) 6 (2453635748 : Int)) 7 (2870763221 : Int)) 8 (3624381080 : Int)) 9 (310598401 : Int)) 10 (607225278 : Int)) 11 (1426881987 : Int)) 12 (1925078388 : Int)) 13 (2162078206 : Int)) 14 (2614888103 : Int)) 15 (3248222580 : Int)) 16 (3835390401 : Int)) 17 (4022224774 : Int)) 18 (264347078 : Int)) 19 (604807628 : Int)) 20 (770255983 : Int)) 21 (1249150122 : Int)) 22 (1555081692 : Int)) 23 (1996064986 : Int)) 24 (2554220882 : Int)) 25 (2821834349 : Int)) 26 (2952996808 : Int)) 27 (3210313671 : Int)) 28 (3336571891 : Int)) 29 (3584528711 : Int)) 30 (113926993 : Int)) 31 (338241895 : Int)) 32 (666307205 : Int)) 33 (773529912 : Int)) 34 (1294757372 : Int)) 35 (1396182291 : Int)) 36 (1695183700 : Int)) 37 (1986661051 : Int)) 38 (2177026350 : Int)) 39 (2456956037 : Int)) 40 (2730485921 : Int)) 41 (2820302411 : Int)) 42 (3259730800 : Int)) 43 (3345764771 : Int)) 44 (3516065817 : Int)) 45 (3600352804 : Int)) 46 (4094571909 : Int)) 47 (275423344 : Int)) 48 (430227734 : Int)) 49 (506948616 : Int)) 50 (659060556 : Int)) 51 (883997877 : Int)) 52 (958139571 : Int)) 53 (1322822218 : Int)) 54 (1537002063 : Int)) 55 (1747873779 : Int)) 56 (1955562222 : Int)) 57 (2024104815 : Int)) 58 (2227730452 : Int)) 59 (2361852424 : Int)) 60 (2428436474 : Int)) 61 (2756734187 : Int)) 62 (3204031479 : Int)) 63 (3329325298 : Int)))
noncomputable def granaryref05_r (x : Int × Int) : Option (Int) :=
  (cond (decide ((0 : Int) ≤ x.2))
  ((let v2 : Int := (wrapF .u64 ((32 : Int) - x.2))
  (cond (decide ((0 : Int) ≤ v2))
  ((some (orF .u32 (shrF .u32 x.1 x.2) (shlF .u32 x.1 v2))))
  none)))
  none)
noncomputable def granaryref05_Piece_b0 (N : Nat) (next : (List Int) × Int × (List Int) → Option (((List Int)))) (x : (List Int) × Int × (List Int)) : Option (((List Int))) :=
  (cond (decide (x.2.1 < (16 : Int)))
  (let v2 : Int := (wrapF .i64 ((4 : Int) * x.2.1))
  (cond ((decide ((0 : Int) ≤ v2)) && (decide (v2 < (((List.length x.1) : Nat) : Int))))
  ((let v7 : Int := (wrapF .i64 ((wrapF .i64 ((4 : Int) * x.2.1)) + (1 : Int)))
  (cond ((decide ((0 : Int) ≤ v7)) && (decide (v7 < (((List.length x.1) : Nat) : Int))))
  ((let v13 : Int := (wrapF .i64 ((wrapF .i64 ((4 : Int) * x.2.1)) + (2 : Int)))
  (cond ((decide ((0 : Int) ≤ v13)) && (decide (v13 < (((List.length x.1) : Nat) : Int))))
  ((let v19 : Int := (wrapF .i64 ((wrapF .i64 ((4 : Int) * x.2.1)) + (3 : Int)))
  (cond ((decide ((0 : Int) ≤ v19)) && (decide (v19 < (((List.length x.1) : Nat) : Int))))
  ((cond ((decide ((0 : Int) ≤ x.2.1)) && (decide (x.2.1 < (64 : Int))))
  ((let v23 : Nat := (Int.toNat x.2.1)
  (cond (decide (v23 < (List.length x.2.2)))
  ((next (x.1, (wrapF .i64 (x.2.1 + (1 : Int))), (List.set x.2.2 v23 (orF .u32 (orF .u32 (orF .u32 (shlF .u32 (wrapF .u32 (List.getD x.1 (Int.toNat v2) (EK.dflt (.int .u8)))) (24 : Int)) (shlF .u32 (wrapF .u32 (List.getD x.1 (Int.toNat v7) (EK.dflt (.int .u8)))) (16 : Int))) (shlF .u32 (wrapF .u32 (List.getD x.1 (Int.toNat v13) (EK.dflt (.int .u8)))) (8 : Int))) (wrapF .u32 (List.getD x.1 (Int.toNat v19) (EK.dflt (.int .u8)))))))))
  none)))
  none))
  none)))
  none)))
  none)))
  none))
  (some x.2.2))
noncomputable def granaryref05_Piece_l0 (N : Nat) : (List Int) × Int × (List Int) → Option (((List Int))) := loopF (granaryref05_Piece_b0 N) N
noncomputable def granaryref05_Piece_b2 (N : Nat) (next : Int × (List Int) → Option (((List Int)))) (x : Int × (List Int)) : Option (((List Int))) :=
  (cond (decide (x.1 < (64 : Int)))
  (let v2 : Int := (wrapF .i64 (x.1 - (15 : Int)))
  (cond ((decide ((0 : Int) ≤ v2)) && (decide (v2 < (64 : Int))))
  ((let v3 : Nat := (Int.toNat v2)
  (cond (decide (v3 < (List.length x.2)))
  ((let v4 : Int := (List.getD x.2 v3 (EK.dflt (.int .u32)))
  (let v5 : Int := (wrapF .i64 (x.1 - (2 : Int)))
  (cond ((decide ((0 : Int) ≤ v5)) && (decide (v5 < (64 : Int))))
  ((let v6 : Nat := (Int.toNat v5)
  (cond (decide (v6 < (List.length x.2)))
  ((let v7 : Int := (List.getD x.2 v6 (EK.dflt (.int .u32)))
  (let v8 : Int := (wrapF .i64 (x.1 - (16 : Int)))
  (cond ((decide ((0 : Int) ≤ v8)) && (decide (v8 < (64 : Int))))
  ((let v9 : Nat := (Int.toNat v8)
  (cond (decide (v9 < (List.length x.2)))
  ((Option.bind (granaryref05_r (v4, (7 : Int))) fun r11 =>
  (Option.bind (granaryref05_r (v4, (18 : Int))) fun r12 =>
  (let v17 : Int := (wrapF .i64 (x.1 - (7 : Int)))
  (cond ((decide ((0 : Int) ≤ v17)) && (decide (v17 < (64 : Int))))
  ((let v18 : Nat := (Int.toNat v17)
  (cond (decide (v18 < (List.length x.2)))
  ((Option.bind (granaryref05_r (v7, (17 : Int))) fun r21 =>
  (Option.bind (granaryref05_r (v7, (19 : Int))) fun r22 =>
  (cond ((decide ((0 : Int) ≤ x.1)) && (decide (x.1 < (64 : Int))))
  ((let v27 : Nat := (Int.toNat x.1)
  (cond (decide (v27 < (List.length x.2)))
  ((next ((wrapF .i64 (x.1 + (1 : Int))), (List.set x.2 v27 (wrapF .u32 ((wrapF .u32 ((wrapF .u32 ((List.getD x.2 v9 (EK.dflt (.int .u32))) + (xorF .u32 (xorF .u32 r11 r12) (shrF .u32 v4 (3 : Int))))) + (List.getD x.2 v18 (EK.dflt (.int .u32))))) + (xorF .u32 (xorF .u32 r21 r22) (shrF .u32 v7 (10 : Int)))))))))
  none)))
  none))))
  none)))
  none)))))
  none)))
  none))))
  none)))
  none))))
  none)))
  none))
  (some x.2))
noncomputable def granaryref05_Piece_l2 (N : Nat) : Int × (List Int) → Option (((List Int))) := loopF (granaryref05_Piece_b2 N) N
noncomputable def granaryref05_Piece_b4 (N : Nat) (next : Int × (List Int) × (List Int) × (List Int) → Option (((List Int) × (List Int) × (List Int)))) (x : Int × (List Int) × (List Int) × (List Int)) : Option (((List Int) × (List Int) × (List Int))) :=
  (cond (decide (x.1 < (64 : Int)))
  (cond (decide (0 < (List.length x.2.2.2)))
  ((let v2 : Int := (List.getD x.2.2.2 0 (EK.dflt (.int .u32)))
  (cond (decide (4 < (List.length x.2.2.2)))
  ((let v3 : Int := (List.getD x.2.2.2 4 (EK.dflt (.int .u32)))
  (cond (decide (7 < (List.length x.2.2.2)))
  ((Option.bind (granaryref05_r (v3, (6 : Int))) fun r5 =>
  (Option.bind (granaryref05_r (v3, (11 : Int))) fun r6 =>
  (Option.bind (granaryref05_r (v3, (25 : Int))) fun r8 =>
  (cond (decide (5 < (List.length x.2.2.2)))
  ((cond (decide (6 < (List.length x.2.2.2)))
  ((cond ((decide ((0 : Int) ≤ x.1)) && (decide (x.1 < (64 : Int))))
  ((let v18 : Nat := (Int.toNat x.1)
  (cond (decide (v18 < (List.length x.2.1)))
  ((cond ((decide ((0 : Int) ≤ x.1)) && (decide (x.1 < (64 : Int))))
  ((let v21 : Nat := (Int.toNat x.1)
  (cond (decide (v21 < (List.length x.2.2.1)))
  ((let v23 : Int := (wrapF .u32 ((wrapF .u32 ((wrapF .u32 ((wrapF .u32 ((List.getD x.2.2.2 7 (EK.dflt (.int .u32))) + (xorF .u32 (xorF .u32 r5 r6) r8))) + (xorF .u32 (andF .u32 v3 (List.getD x.2.2.2 5 (EK.dflt (.int .u32)))) (andF .u32 (xorF .u32 (4294967295 : Int) v3) (List.getD x.2.2.2 6 (EK.dflt (.int .u32))))))) + (List.getD x.2.1 v18 (EK.dflt (.int .u32))))) + (List.getD x.2.2.1 v21 (EK.dflt (.int .u32)))))
  (Option.bind (granaryref05_r (v2, (2 : Int))) fun r24 =>
  (Option.bind (granaryref05_r (v2, (13 : Int))) fun r25 =>
  (Option.bind (granaryref05_r (v2, (22 : Int))) fun r27 =>
  (cond (decide (1 < (List.length x.2.2.2)))
  ((cond (decide (2 < (List.length x.2.2.2)))
  ((cond (decide (1 < (List.length x.2.2.2)))
  ((cond (decide (2 < (List.length x.2.2.2)))
  ((cond (decide (0 < (List.length x.2.2.2)))
  ((cond (decide (1 < (List.length x.2.2.2)))
  ((cond (decide (2 < (List.length x.2.2.2)))
  ((cond (decide (3 < (List.length x.2.2.2)))
  ((cond (decide (4 < (List.length x.2.2.2)))
  ((cond (decide (5 < (List.length x.2.2.2)))
  ((cond (decide (6 < (List.length x.2.2.2)))
  ((next ((wrapF .i64 (x.1 + (1 : Int))), x.2.1, x.2.2.1, (List.set (List.set (List.set (List.set (List.set (List.set (List.set (List.set (List.replicate 8 (EK.dflt (.int .u32))) 0 (wrapF .u32 (v23 + (wrapF .u32 ((xorF .u32 (xorF .u32 r24 r25) r27) + (xorF .u32 (xorF .u32 (andF .u32 v2 (List.getD x.2.2.2 1 (EK.dflt (.int .u32)))) (andF .u32 v2 (List.getD x.2.2.2 2 (EK.dflt (.int .u32))))) (andF .u32 (List.getD x.2.2.2 1 (EK.dflt (.int .u32))) (List.getD x.2.2.2 2 (EK.dflt (.int .u32)))))))))) 1 (List.getD x.2.2.2 0 (EK.dflt (.int .u32)))) 2 (List.getD x.2.2.2 1 (EK.dflt (.int .u32)))) 3 (List.getD x.2.2.2 2 (EK.dflt (.int .u32)))) 4 (wrapF .u32 ((List.getD x.2.2.2 3 (EK.dflt (.int .u32))) + v23))) 5 (List.getD x.2.2.2 4 (EK.dflt (.int .u32)))) 6 (List.getD x.2.2.2 5 (EK.dflt (.int .u32)))) 7 (List.getD x.2.2.2 6 (EK.dflt (.int .u32)))))))
  none))
  none))
  none))
  none))
  none))
  none))
  none))
  none))
  none))
  none))
  none))))))
  none)))
  none))
  none)))
  none))
  none))
  none)))))
  none)))
  none)))
  none)
  (some (x.2.1, x.2.2.1, x.2.2.2)))
noncomputable def granaryref05_Piece_l4 (N : Nat) : Int × (List Int) × (List Int) × (List Int) → Option (((List Int) × (List Int) × (List Int))) := loopF (granaryref05_Piece_b4 N) N
noncomputable def granaryref05_Piece_b6 (N : Nat) (next : Int × (List Int) × (List Int) → Option (((List Int) × (List Int)))) (x : Int × (List Int) × (List Int)) : Option (((List Int) × (List Int))) :=
  (cond (decide (x.1 < (8 : Int)))
  (cond ((decide ((0 : Int) ≤ x.1)) && (decide (x.1 < (8 : Int))))
  ((let v2 : Nat := (Int.toNat x.1)
  (cond (decide (v2 < (List.length x.2.2)))
  ((cond ((decide ((0 : Int) ≤ x.1)) && (decide (x.1 < (8 : Int))))
  ((let v4 : Nat := (Int.toNat x.1)
  (cond (decide (v4 < (List.length x.2.1)))
  ((cond ((decide ((0 : Int) ≤ x.1)) && (decide (x.1 < (8 : Int))))
  ((let v7 : Nat := (Int.toNat x.1)
  (cond (decide (v7 < (List.length x.2.2)))
  ((next ((wrapF .i64 (x.1 + (1 : Int))), x.2.1, (List.set x.2.2 v7 (wrapF .u32 ((List.getD x.2.2 v2 (EK.dflt (.int .u32))) + (List.getD x.2.1 v4 (EK.dflt (.int .u32)))))))))
  none)))
  none))
  none)))
  none))
  none)))
  none)
  (some (x.2.1, x.2.2)))
noncomputable def granaryref05_Piece_l6 (N : Nat) : Int × (List Int) × (List Int) → Option (((List Int) × (List Int))) := loopF (granaryref05_Piece_b6 N) N
noncomputable def granaryref05_Piece (N : Nat) (x : (List Int) × (List Int)) : Option ((List Int)) :=
  (Option.bind (granaryref05_K ()) fun r2 =>
  (Option.bind (granaryref05_Piece_l0 N (x.2, (0 : Int), (List.replicate 64 (EK.dflt (.int .u32))))) fun r5 =>
  (Option.bind (granaryref05_Piece_l2 N ((16 : Int), r5)) fun r6 =>
  (Option.bind (granaryref05_Piece_l4 N ((0 : Int), r2, r6, x.1)) fun r8 =>
  (Option.bind (granaryref05_Piece_l6 N ((0 : Int), x.1, r8.2.2)) fun r9 =>
  (some r9.2))))))
noncomputable def granaryref05_Hash_Write_b0 (N : Nat) (next : Nat × Nat × (List Int) × (List Int) → Option ((Nat × Nat × (List Int) × (List Int)))) (x : Nat × Nat × (List Int) × (List Int)) : Option ((Nat × Nat × (List Int) × (List Int))) :=
  (cond (decide ((64 : Int) ≤ ((x.2.1 : Nat) : Int)))
  (cond (cond (decide ((x.1 + x.2.1) ≤ (List.length x.2.2.2))) true false)
  (Option.bind (granaryref05_Piece N (x.2.2.1, (List.take x.2.1 (List.drop x.1 x.2.2.2)))) fun r3 =>
  (cond ((decide ((64 : Int) ≤ ((x.2.1 : Nat) : Int))) && (decide (((x.2.1 : Nat) : Int) ≤ ((x.2.1 : Nat) : Int))))
  ((next ((64 + x.1), (x.2.1 - 64), r3, x.2.2.2)))
  none))
  none)
  (some (x.1, x.2.1, x.2.2.1, x.2.2.2)))
noncomputable def granaryref05_Hash_Write_l0 (N : Nat) : Nat × Nat × (List Int) × (List Int) → Option ((Nat × Nat × (List Int) × (List Int))) := loopF (granaryref05_Hash_Write_b0 N) N
noncomputable def granaryref05_Hash_Write (N : Nat) (x : (List Int) × (List Int) × Int) : Option ((List Int) × Int × (List Int)) :=
  (cond (fits 1 (List.length ([] : List Int)))
  ((let v5 : List Int := ([] : List Int)
  (cond (fits 1 ((List.length v5) + (List.length x.1)))
  ((let v6 : List Int := (v5 ++ x.1)
  (Option.bind (granaryref05_Hash_Write_l0 N (0, (List.length v6), x.2.1, v6)) fun r7 =>
  (cond ((decide ((r7.1 + r7.2.1) ≤ (List.length r7.2.2.2))) && (fits 1 (List.length (List.take r7.2.1 (List.drop r7.1 r7.2.2.2)))))
  ((some (r7.2.2.1, (wrapF .u64 (x.2.2 + (wrapF .u64 (((List.length x.1) : Nat) : Int)))), (List.take r7.2.1 (List.drop r7.1 r7.2.2.2)))))
  none))))
  none)))
  none)
noncomputable def granaryref05_eight (x : Int) : Option (Nat × Nat × (List Int)) :=
  (some (0, 8, ([(wrapF .u8 (shrF .u64 x (56 : Int))), (wrapF .u8 (shrF .u64 x (48 : Int))), (wrapF .u8 (shrF .u64 x (40 : Int))), (wrapF .u8 (shrF .u64 x (32 : Int))), (wrapF .u8 (shrF .u64 x (24 : Int))), (wrapF .u8 (shrF .u64 x (16 : Int))), (wrapF .u8 (shrF .u64 x (8 : Int))), (wrapF .u8 x)] : List Int)))
noncomputable def granaryref05_Words_b0 (N : Nat) (next : Int × (List Int) × (List Int) → Option (((List Int) × (List Int)))) (x : Int × (List Int) × (List Int)) : Option (((List Int) × (List Int))) :=
  (cond (decide (x.1 < (8 : Int)))
  (cond ((decide ((0 : Int) ≤ x.1)) && (decide (x.1 < (8 : Int))))
  ((let v2 : Nat := (Int.toNat x.1)
  (cond (decide (v2 < (List.length x.2.1)))
  ((cond ((decide ((0 : Int) ≤ x.1)) && (decide (x.1 < (8 : Int))))
  ((let v6 : Nat := (Int.toNat x.1)
  (cond (decide (v6 < (List.length x.2.1)))
  ((cond ((decide ((0 : Int) ≤ x.1)) && (decide (x.1 < (8 : Int))))
  ((let v10 : Nat := (Int.toNat x.1)
  (cond (decide (v10 < (List.length x.2.1)))
  ((cond ((decide ((0 : Int) ≤ x.1)) && (decide (x.1 < (8 : Int))))
  ((let v14 : Nat := (Int.toNat x.1)
  (cond (decide (v14 < (List.length x.2.1)))
  ((let v17 : List Int := ([(wrapF .u8 (shrF .u32 (List.getD x.2.1 v2 (EK.dflt (.int .u32))) (24 : Int))), (wrapF .u8 (shrF .u32 (List.getD x.2.1 v6 (EK.dflt (.int .u32))) (16 : Int))), (wrapF .u8 (shrF .u32 (List.getD x.2.1 v10 (EK.dflt (.int .u32))) (8 : Int))), (wrapF .u8 (List.getD x.2.1 v14 (EK.dflt (.int .u32))))] : List Int)
  (cond ((decide (4 ≤ (List.length v17))) && (fits 1 ((List.length x.2.2) + (List.length (List.take 4 (List.drop 0 v17))))))
  ((next ((wrapF .i64 (x.1 + (1 : Int))), x.2.1, (x.2.2 ++ (List.take 4 (List.drop 0 v17))))))
  none)))
  none)))
  none))
  none)))
  none))
  none)))
  none))
  none)))
  none)
  (some (x.2.1, x.2.2)))
noncomputable def granaryref05_Words_l0 (N : Nat) : Int × (List Int) × (List Int) → Option (((List Int) × (List Int))) := loopF (granaryref05_Words_b0 N) N
noncomputable def granaryref05_Words (N : Nat) (x : (List Int)) : Option ((List Int)) :=
  (Option.bind (granaryref05_Words_l0 N ((0 : Int), x, ([] : List Int))) fun r1 =>
  (some r1.2))
noncomputable def granaryref05_Hash_Sum_b0 (N : Nat) (next : (List Int) → Option (((List Int)))) (x : (List Int)) : Option (((List Int))) :=
  (cond (!(decide ((Int.tmod (wrapF .i64 ((((List.length x) : Nat) : Int) + (8 : Int))) (64 : Int)) = (0 : Int))))
  (let v5 : List Int := ([(0 : Int)] : List Int)
  (cond ((decide (1 ≤ (List.length v5))) && (fits 1 ((List.length x) + (List.length (List.take 1 (List.drop 0 v5))))))
  ((next (x ++ (List.take 1 (List.drop 0 v5)))))
  none))
  (some x))
noncomputable def granaryref05_Hash_Sum_l0 (N : Nat) : (List Int) → Option (((List Int))) := loopF (granaryref05_Hash_Sum_b0 N) N
noncomputable def granaryref05_Hash_Sum_b2 (N : Nat) (next : Nat × Nat × (List Int) × (List Int) → Option (((List Int) × (List Int)))) (x : Nat × Nat × (List Int) × (List Int)) : Option (((List Int) × (List Int))) :=
  (cond (decide ((0 : Int) < ((x.2.1 : Nat) : Int)))
  (cond (cond (decide ((x.1 + x.2.1) ≤ (List.length x.2.2.1))) true false)
  (Option.bind (granaryref05_Piece N (x.2.2.2, (List.take x.2.1 (List.drop x.1 x.2.2.1)))) fun r3 =>
  (cond ((decide ((64 : Int) ≤ ((x.2.1 : Nat) : Int))) && (decide (((x.2.1 : Nat) : Int) ≤ ((x.2.1 : Nat) : Int))))
  ((next ((64 + x.1), (x.2.1 - 64), x.2.2.1, r3)))
  none))
  none)
  (some (x.2.2.1, x.2.2.2)))
noncomputable def granaryref05_Hash_Sum_l2 (N : Nat) : Nat × Nat × (List Int) × (List Int) → Option (((List Int) × (List Int))) := loopF (granaryref05_Hash_Sum_b2 N) N
noncomputable def granaryref05_Hash_Sum_b4 (N : Nat) (next : Int × (List Int) × (List Int) → Option (((List Int) × (List Int)))) (x : Int × (List Int) × (List Int)) : Option (((List Int) × (List Int))) :=
  (cond (decide (x.1 < (32 : Int)))
  (cond ((decide ((0 : Int) ≤ x.1)) && (decide (x.1 < (((List.length x.2.1) : Nat) : Int))))
  ((let v2 : Nat := (Int.toNat x.1)
  (cond (decide (v2 < (List.length x.2.1)))
  ((cond ((decide ((0 : Int) ≤ x.1)) && (decide (x.1 < (32 : Int))))
  ((let v4 : Nat := (Int.toNat x.1)
  (cond (decide (v4 < (List.length x.2.2)))
  ((next ((wrapF .i64 (x.1 + (1 : Int))), x.2.1, (List.set x.2.2 v4 (List.getD x.2.1 v2 (EK.dflt (.int .u8)))))))
  none)))
  none))
  none)))
  none)
  (some (x.2.1, x.2.2)))
noncomputable def granaryref05_Hash_Sum_l4 (N : Nat) : Int × (List Int) × (List Int) → Option (((List Int) × (List Int))) := loopF (granaryref05_Hash_Sum_b4 N) N
noncomputable def granaryref05_Hash_Sum (N : Nat) (x : (List Int) × Int × (List Int)) : Option ((List Int) × (List Int) × Int × (List Int)) :=
  (cond (fits 1 (List.length x.2.2))
  ((let v3 : List Int := ([(128 : Int)] : List Int)
  (cond ((decide (1 ≤ (List.length v3))) && (fits 1 ((List.length x.2.2) + (List.length (List.take 1 (List.drop 0 v3))))))
  ((Option.bind (granaryref05_Hash_Sum_l0 N (x.2.2 ++ (List.take 1 (List.drop 0 v3)))) fun r5 =>
  (Option.bind (granaryref05_eight (wrapF .u64 ((8 : Int) * x.2.1))) fun r7 =>
  (cond ((decide ((r7.1 + r7.2.1) ≤ (List.length r7.2.2))) && (fits 1 ((List.length r5) + (List.length (List.take r7.2.1 (List.drop r7.1 r7.2.2))))))
  ((let v8 : List Int := (r5 ++ (List.take r7.2.1 (List.drop r7.1 r7.2.2)))
  (Option.bind (granaryref05_Hash_Sum_l2 N (0, (List.length v8), v8, x.1)) fun r10 =>
  (Option.bind (granaryref05_Words N r10.2) fun r11 =>
  (Option.bind (granaryref05_Hash_Sum_l4 N ((0 : Int), r11, (List.replicate 32 (EK.dflt (.int .u8))))) fun r13 =>
  (some (r13.2, x.1, x.2.1, x.2.2)))))))
  none))))
  none)))
  none)
noncomputable def granaryref05_Sum (N : Nat) (x : (List Int)) : Option ((List Int)) :=
  (Option.bind (granaryref05_New ()) fun r2 =>
  (Option.bind (granaryref05_Hash_Write N (x, r2, (0 : Int))) fun r3 =>
  (Option.bind (granaryref05_Hash_Sum N (r3.1, r3.2.1, r3.2.2)) fun r4 =>
  (some r4.1))))
noncomputable def granaryref05_More_b2 (N : Nat) (next : (List Int) × Int × Int × Int → Option (Int)) (x : (List Int) × Int × Int × Int) : Option (Int) :=
  (cond (decide (x.2.2.2 < (8 : Int)))
  (let v3 : Int := (shrF .u32 x.2.1 (1 : Int))
  (Option.bind
  (cond (decide ((andF .u32 x.2.1 (1 : Int)) = (1 : Int)))
  (some (xorF .u32 v3 (2197175160 : Int)))
  (some v3))
  fun r6 =>
  (next (x.1, r6, x.2.2.1, (wrapF .i64 (x.2.2.2 + (1 : Int)))))))
  (some x.2.1))
noncomputable def granaryref05_More_l2 (N : Nat) : (List Int) × Int × Int × Int → Option (Int) := loopF (granaryref05_More_b2 N) N
noncomputable def granaryref05_More_b0 (N : Nat) (next : (List Int) × Int × Int → Option (Int)) (x : (List Int) × Int × Int) : Option (Int) :=
  (cond (decide (x.2.2 < (((List.length x.1) : Nat) : Int)))
  (cond ((decide ((0 : Int) ≤ x.2.2)) && (decide (x.2.2 < (((List.length x.1) : Nat) : Int))))
  ((Option.bind (granaryref05_More_l2 N (x.1, (xorF .u32 x.2.1 (wrapF .u32 (List.getD x.1 (Int.toNat x.2.2) (EK.dflt (.int .u8))))), x.2.2, (0 : Int))) fun r6 =>
  (next (x.1, r6, (wrapF .i64 (x.2.2 + (1 : Int)))))))
  none)
  (some x.2.1))
noncomputable def granaryref05_More_l0 (N : Nat) : (List Int) × Int × Int → Option (Int) := loopF (granaryref05_More_b0 N) N
noncomputable def granaryref05_More (N : Nat) (x : Int × (List Int)) : Option (Int) :=
  (Option.bind (granaryref05_More_l0 N (x.2, (xorF .u32 (4294967295 : Int) x.1), (0 : Int))) fun r2 =>
  (some (xorF .u32 (4294967295 : Int) r2)))
noncomputable def granaryref05_Crc (N : Nat) (x : (List Int)) : Option (Int) :=
  (Option.bind (granaryref05_More N ((0 : Int), x)) fun r1 =>
  (some r1))
noncomputable def sha_More_v1_b0 (N : Nat) (next : Int × (List Int) × Int × Int × (List Int) → Option ((Int × (List Int)))) (x : Int × (List Int) × Int × Int × (List Int)) : Option ((Int × (List Int))) :=
  (cond (decide (x.2.2.2.1 < x.2.2.1))
  (cond ((decide ((0 : Int) ≤ x.2.2.2.1)) && (decide (x.2.2.2.1 < (((List.length x.2.1) : Nat) : Int))))
  ((let v4 : Int := (xorF .u32 x.1 (wrapF .u32 (List.getD x.2.1 (Int.toNat x.2.2.2.1) (EK.dflt (.int .u8)))))
  (let v6 : Int := (andF .u32 v4 (15 : Int))
  (cond ((decide ((0 : Int) ≤ v6)) && (decide (v6 < (16 : Int))))
  ((let v7 : Nat := (Int.toNat v6)
  (cond (decide (v7 < (List.length x.2.2.2.2)))
  ((let v9 : Int := (xorF .u32 (shrF .u32 v4 (4 : Int)) (List.getD x.2.2.2.2 v7 (EK.dflt (.int .u32))))
  (let v11 : Int := (andF .u32 v9 (15 : Int))
  (cond ((decide ((0 : Int) ≤ v11)) && (decide (v11 < (16 : Int))))
  ((let v12 : Nat := (Int.toNat v11)
  (cond (decide (v12 < (List.length x.2.2.2.2)))
  ((next ((xorF .u32 (shrF .u32 v9 (4 : Int)) (List.getD x.2.2.2.2 v12 (EK.dflt (.int .u32)))), x.2.1, x.2.2.1, (wrapF .i64 (x.2.2.2.1 + (1 : Int))), x.2.2.2.2)))
  none)))
  none))))
  none)))
  none))))
  none)
  (some (x.1, x.2.2.2.2)))
noncomputable def sha_More_v1_l0 (N : Nat) : Int × (List Int) × Int × Int × (List Int) → Option ((Int × (List Int))) := loopF (sha_More_v1_b0 N) N
noncomputable def sha_More_v1 (N : Nat) (x : Int × (List Int)) : Option (Int) :=
  (Option.bind (sha_steps ()) fun r1 =>
  (Option.bind (sha_More_v1_l0 N ((xorF .u32 (4294967295 : Int) x.1), x.2, (((List.length x.2) : Nat) : Int), (0 : Int), r1)) fun r5 =>
  (some (xorF .u32 (4294967295 : Int) r5.1))))
noncomputable def granaryref05_digit_b0 (N : Nat) (next : Int × Int → Option (Int ⊕ Unit)) (x : Int × Int) : Option (Int ⊕ Unit) :=
  (cond (decide (x.2 < (16 : Int)))
  (cond ((decide ((0 : Int) ≤ x.2)) && (decide (x.2 < (((List.length ([48, 49, 50, 51, 52, 53, 54, 55, 56, 57, 97, 98, 99, 100, 101, 102] : List UInt8)) : Nat) : Int))))
  ((cond (decide (((List.getD ([48, 49, 50, 51, 52, 53, 54, 55, 56, 57, 97, 98, 99, 100, 101, 102] : List UInt8) (Int.toNat x.2) 0).toNat : Int) = x.1))
  (some (.inl x.2))
  (next (x.1, (wrapF .i64 (x.2 + (1 : Int)))))))
  none)
  (some (.inr (()))))
noncomputable def granaryref05_digit_l0 (N : Nat) : Int × Int → Option (Int ⊕ Unit) := loopF (granaryref05_digit_b0 N) N
noncomputable def granaryref05_digit (N : Nat) (x : Int) : Option (Int) :=
  (Option.bind (granaryref05_digit_l0 N (x, (0 : Int))) fun r1 =>
  (match r1 with
  | .inl y2 =>
  (some y2)
  | .inr z3 =>
  (some (-1 : Int))))
noncomputable def granaryref05_Parse_b0 (N : Nat) (next : (List UInt8) × Int × (List Int) × (List Int) → Option ((Int × (List Int) × (List Int)) ⊕ ((List Int) × (List Int)))) (x : (List UInt8) × Int × (List Int) × (List Int)) : Option ((Int × (List Int) × (List Int)) ⊕ ((List Int) × (List Int))) :=
  (Option.bind
  (cond (decide (x.2.1 < (((List.length x.1) : Nat) : Int)))
  (some (decide (x.2.1 < (64 : Int))))
  (some false))
  fun r4 =>
  (cond r4
  (cond ((decide ((0 : Int) ≤ x.2.1)) && (decide (x.2.1 < (((List.length x.1) : Nat) : Int))))
  ((Option.bind (granaryref05_digit N ((List.getD x.1 (Int.toNat x.2.1) 0).toNat : Int)) fun r6 =>
  (cond (decide (r6 < (0 : Int)))
  (some (.inl (x.2.1, (List.replicate 32 (EK.dflt (.int .u8))), x.2.2.2)))
  (let v9 : Int := (wrapF .i64 (Int.tdiv x.2.1 (2 : Int)))
  (let v10 : Int := (wrapF .i64 (Int.tdiv x.2.1 (2 : Int)))
  (cond ((decide ((0 : Int) ≤ v10)) && (decide (v10 < (32 : Int))))
  ((let v11 : Nat := (Int.toNat v10)
  (cond (decide (v11 < (List.length x.2.2.2)))
  ((cond ((decide ((0 : Int) ≤ v9)) && (decide (v9 < (32 : Int))))
  ((let v16 : Nat := (Int.toNat v9)
  (cond (decide (v16 < (List.length x.2.2.2)))
  ((next (x.1, (wrapF .i64 (x.2.1 + (1 : Int))), x.2.2.1, (List.set x.2.2.2 v16 (wrapF .u8 ((wrapF .u8 ((List.getD x.2.2.2 v11 (EK.dflt (.int .u8))) * (16 : Int))) + (wrapF .u8 r6)))))))
  none)))
  none))
  none)))
  none))))))
  none)
  (some (.inr ((x.2.2.1, x.2.2.2))))))
noncomputable def granaryref05_Parse_l0 (N : Nat) : (List UInt8) × Int × (List Int) × (List Int) → Option ((Int × (List Int) × (List Int)) ⊕ ((List Int) × (List Int))) := loopF (granaryref05_Parse_b0 N) N
noncomputable def granaryref05_Parse (N : Nat) (x : (List UInt8)) : Option ((List Int) × Int × Int) :=
  (Option.bind (granaryref05_Parse_l0 N (x, (0 : Int), (List.replicate 32 (EK.dflt (.int .u8))), (List.replicate 32 (EK.dflt (.int .u8))))) fun r3 =>
  (match r3 with
  | .inl y4 =>
  (some (y4.2.1, (50 : Int), y4.1))
  | .inr z5 =>
  (cond (decide ((((List.length x) : Nat) : Int) < (64 : Int)))
  (some ((List.replicate 32 (EK.dflt (.int .u8))), (3 : Int), (((List.length x) : Nat) : Int)))
  (cond (decide ((64 : Int) < (((List.length x) : Nat) : Int)))
  (some ((List.replicate 32 (EK.dflt (.int .u8))), (4 : Int), (64 : Int)))
  (some (z5.2, (0 : Int), (0 : Int)))))))
noncomputable def granaryref05_Hex_b0 (N : Nat) (next : (List UInt8) × Int × (List Int) → Option (((List UInt8) × (List Int)))) (x : (List UInt8) × Int × (List Int)) : Option (((List UInt8) × (List Int))) :=
  (cond (decide (x.2.1 < (32 : Int)))
  (cond ((decide ((0 : Int) ≤ x.2.1)) && (decide (x.2.1 < (32 : Int))))
  ((let v2 : Nat := (Int.toNat x.2.1)
  (cond (decide (v2 < (List.length x.2.2)))
  ((let v4 : Int := (wrapF .u8 (Int.tdiv (List.getD x.2.2 v2 (EK.dflt (.int .u8))) (16 : Int)))
  (cond ((decide ((0 : Int) ≤ x.2.1)) && (decide (x.2.1 < (32 : Int))))
  ((let v5 : Nat := (Int.toNat x.2.1)
  (cond (decide (v5 < (List.length x.2.2)))
  ((let v7 : Int := (Int.tmod (List.getD x.2.2 v5 (EK.dflt (.int .u8))) (16 : Int))
  (let v8 : Int := (wrapF .u8 (v4 + (1 : Int)))
  (cond (((decide ((0 : Int) ≤ v4)) && (decide (v4 ≤ v8))) && (decide (v8 ≤ (((List.length ([48, 49, 50, 51, 52, 53, 54, 55, 56, 57, 97, 98, 99, 100, 101, 102] : List UInt8)) : Nat) : Int))))
  ((let v9 : List UInt8 := (List.take ((Int.toNat v8) - (Int.toNat v4)) (List.drop (Int.toNat v4) ([48, 49, 50, 51, 52, 53, 54, 55, 56, 57, 97, 98, 99, 100, 101, 102] : List UInt8)))
  (cond (decide ((List.length x.1) + (List.length v9) ≤ 9223372036854775807))
  ((let v10 : List UInt8 := (x.1 ++ v9)
  (let v11 : Int := (wrapF .u8 (v7 + (1 : Int)))
  (cond (((decide ((0 : Int) ≤ v7)) && (decide (v7 ≤ v11))) && (decide (v11 ≤ (((List.length ([48, 49, 50, 51, 52, 53, 54, 55, 56, 57, 97, 98, 99, 100, 101, 102] : List UInt8)) : Nat) : Int))))
  ((let v12 : List UInt8 := (List.take ((Int.toNat v11) - (Int.toNat v7)) (List.drop (Int.toNat v7) ([48, 49, 50, 51, 52, 53, 54, 55, 56, 57, 97, 98, 99, 100, 101, 102] : List UInt8)))
  (cond (decide ((List.length v10) + (List.length v12) ≤ 9223372036854775807))
  ((next ((v10 ++ v12), (wrapF .i64 (x.2.1 + (1 : Int))), x.2.2)))
  none)))
  none))))
  none)))
  none))))
  none)))
  none)))
  none)))
  none)
  (some (x.1, x.2.2)))
noncomputable def granaryref05_Hex_l0 (N : Nat) : (List UInt8) × Int × (List Int) → Option (((List UInt8) × (List Int))) := loopF (granaryref05_Hex_b0 N) N
noncomputable def granaryref05_Hex (N : Nat) (x : (List Int)) : Option ((List UInt8)) :=
  (Option.bind (granaryref05_Hex_l0 N (([] : List UInt8), (0 : Int), x)) fun r3 =>
  (some r3.1))
noncomputable def sha_Crc_v1 (N : Nat) (x : (List Int)) : Option (Int) :=
  (Option.bind (sha_More N ((0 : Int), x)) fun r1 =>
  (some r1))
noncomputable def sha_Hash_Write_v3 (x : (List Int)) : Option (Unit) :=
  (some ())
noncomputable def sha_Hash_Len (x : Unit) : Option (Unit) :=
  (some ())
noncomputable def slices_Clone_byte_byte_v1 (x : (List Int)) : Option ((List Int)) :=
  (agreeC (decide ((List.length x) = 0)) false
  (some ([] : List Int))
  (cond (fits 1 (List.length x))
  ((some x))
  none))
noncomputable def sha_Hash_Sum_v1_b0 (N : Nat) (next : Nat × Nat × (List Int) × (List Int) → Option ((Nat × Nat × (List Int) × (List Int)))) (x : Nat × Nat × (List Int) × (List Int)) : Option ((Nat × Nat × (List Int) × (List Int))) :=
  (cond (!(decide ((Int.tmod (wrapF .i64 ((wrapF .i64 ((0 : Int) + ((x.2.1 : Nat) : Int))) + (8 : Int))) (64 : Int)) = (0 : Int))))
  (let v6 : List Int := ([(0 : Int)] : List Int)
  (cond (((decide (1 ≤ (List.length v6))) && (decide (x.1 + x.2.1 = (List.length x.2.2.2)))) && (fits 1 (x.2.1 + (List.length (List.take 1 (List.drop 0 v6))))))
  ((let v7 : List Int := (List.drop x.1 x.2.2.2 ++ (List.take 1 (List.drop 0 v6)))
  (next (0, (List.length v7), x.2.2.1, v7))))
  none))
  (some (x.1, x.2.1, x.2.2.1, x.2.2.2)))
noncomputable def sha_Hash_Sum_v1_l0 (N : Nat) : Nat × Nat × (List Int) × (List Int) → Option ((Nat × Nat × (List Int) × (List Int))) := loopF (sha_Hash_Sum_v1_b0 N) N
noncomputable def sha_Hash_Sum_v1 (N : Nat) (x : Unit) : Option ((List Int)) :=
  (Option.bind (sha_New ()) fun r2 =>
  (Option.bind (slices_Clone_byte_byte_v1 ([] : List Int)) fun r3 =>
  (Option.bind (sha_Hash_Sum_v1_l0 N (0, 1, r2, ([(128 : Int)] : List Int))) fun r5 =>
  (Option.bind (octet_Put N (r5.1, r5.2.1, (0 : Int), (8 : Int), r5.2.2.2)) fun r6 =>
  (Option.bind (sha_Hash_Write_v1 N (r6, r2, (0 : Int), r3)) fun r7 =>
  (let v8 : List Int := (List.replicate 32 (EK.dflt (.int .u8)))
  (Option.bind (sha_words N r7.1) fun r9 =>
  (cond (decide (32 ≤ (List.length v8)))
  ((some (List.take 0 v8 ++ List.take (min (List.length r9) 32) r9 ++ List.drop (0 + (min (List.length r9) 32)) v8)))
  none))))))))
noncomputable def sha_Hash_Save (x : Unit) : Option (Unit) :=
  (some ())
noncomputable def sha_Path_v1_b (N : Nat) (rec : (List (List Int)) × Int → Option (Int × (List (List Int)))) (x : (List (List Int)) × Int) : Option (Int × (List (List Int))) :=
  (Option.bind
  (cond (decide (x.2 < (0 : Int)))
  (some true)
  (some (decide ((((List.length x.1) : Nat) : Int) ≤ x.2))))
  fun r4 =>
  (cond r4
  (some ((2 : Int), ([] : List (List Int))))
  (cond (decide ((((List.length x.1) : Nat) : Int) = (1 : Int)))
  (some ((0 : Int), ([] : List (List Int))))
  (Option.bind (sha_half N (((List.length x.1) : Nat) : Int)) fun r8 =>
  (cond ((decide ((0 : Int) ≤ r8)) && (decide (r8 ≤ (((List.length x.1) : Nat) : Int))))
  ((cond (((decide ((0 : Int) ≤ r8)) && (decide (r8 ≤ (((List.length x.1) : Nat) : Int)))) && (decide ((((List.length x.1) : Nat) : Int) ≤ (((List.length x.1) : Nat) : Int))))
  ((Option.bind
  (cond (decide (r8 ≤ x.2))
  (cond (((decide ((0 : Int) ≤ r8)) && (decide (r8 ≤ (((List.length x.1) : Nat) : Int)))) && (decide ((((List.length x.1) : Nat) : Int) ≤ (((List.length x.1) : Nat) : Int))))
  ((cond ((decide ((0 : Int) ≤ r8)) && (decide (r8 ≤ (((List.length x.1) : Nat) : Int))))
  ((some ((List.take ((List.length x.1) - (Int.toNat r8)) (List.drop (Int.toNat r8) x.1)), (wrapF .i64 (x.2 - r8)), (List.take (Int.toNat r8) (List.drop 0 x.1)))))
  none))
  none)
  (some ((List.take (Int.toNat r8) (List.drop 0 x.1)), x.2, (List.take ((List.length x.1) - (Int.toNat r8)) (List.drop (Int.toNat r8) x.1)))))
  fun r15 =>
  (Option.bind (rec (r15.1, r15.2.1)) fun r16 =>
  (Option.bind (sha_Root_v1 N r15.2.2) fun r17 =>
  (let v18 : List (List Int) := ([r17] : List (List Int))
  (cond ((decide (1 ≤ (List.length v18))) && (fits 32 ((List.length r16.2) + (List.length (List.take 1 (List.drop 0 v18))))))
  ((some ((0 : Int), (r16.2 ++ (List.take 1 (List.drop 0 v18))))))
  none))))))
  none))
  none)))))
noncomputable def sha_Path_v1 (N : Nat) : (List (List Int)) × Int → Option (Int × (List (List Int))) := loopF (sha_Path_v1_b N) N
noncomputable def sha_Path (N : Nat) (x : (List (List Int)) × Int) : Option (Int × (List (List Int))) :=
  (Option.bind
  (cond (decide (x.2 < (0 : Int)))
  (some true)
  (some (decide ((((List.length x.1) : Nat) : Int) ≤ x.2))))
  fun r4 =>
  (cond r4
  (some ((2 : Int), ([] : List (List Int))))
  (cond (decide ((((List.length x.1) : Nat) : Int) = (1 : Int)))
  (some ((0 : Int), ([] : List (List Int))))
  (Option.bind (sha_half N (((List.length x.1) : Nat) : Int)) fun r8 =>
  (cond ((decide ((0 : Int) ≤ r8)) && (decide (r8 ≤ (((List.length x.1) : Nat) : Int))))
  ((cond (((decide ((0 : Int) ≤ r8)) && (decide (r8 ≤ (((List.length x.1) : Nat) : Int)))) && (decide ((((List.length x.1) : Nat) : Int) ≤ (((List.length x.1) : Nat) : Int))))
  ((Option.bind
  (cond (decide (r8 ≤ x.2))
  (cond (((decide ((0 : Int) ≤ r8)) && (decide (r8 ≤ (((List.length x.1) : Nat) : Int)))) && (decide ((((List.length x.1) : Nat) : Int) ≤ (((List.length x.1) : Nat) : Int))))
  ((cond ((decide ((0 : Int) ≤ r8)) && (decide (r8 ≤ (((List.length x.1) : Nat) : Int))))
  ((some ((List.take ((List.length x.1) - (Int.toNat r8)) (List.drop (Int.toNat r8) x.1)), (wrapF .i64 (x.2 - r8)), (List.take (Int.toNat r8) (List.drop 0 x.1)))))
  none))
  none)
  (some ((List.take (Int.toNat r8) (List.drop 0 x.1)), x.2, (List.take ((List.length x.1) - (Int.toNat r8)) (List.drop (Int.toNat r8) x.1)))))
  fun r15 =>
  (Option.bind (sha_Path_v1 N (r15.1, r15.2.1)) fun r16 =>
  (Option.bind (sha_Root_v1 N r15.2.2) fun r17 =>
  (let v18 : List (List Int) := ([r17] : List (List Int))
  (cond ((decide (1 ≤ (List.length v18))) && (fits 32 ((List.length r16.2) + (List.length (List.take 1 (List.drop 0 v18))))))
  ((some ((0 : Int), (r16.2 ++ (List.take 1 (List.drop 0 v18))))))
  none))))))
  none))
  none)))))
noncomputable def granaryref05_half_b0 (N : Nat) (next : Int × Int → Option (Int)) (x : Int × Int) : Option (Int) :=
  (cond (decide ((wrapF .i64 ((2 : Int) * x.2)) < x.1))
  (next (x.1, (wrapF .i64 ((2 : Int) * x.2))))
  (some x.2))
noncomputable def granaryref05_half_l0 (N : Nat) : Int × Int → Option (Int) := loopF (granaryref05_half_b0 N) N
noncomputable def granaryref05_half (N : Nat) (x : Int) : Option (Int) :=
  (Option.bind (granaryref05_half_l0 N (x, (1 : Int))) fun r1 =>
  (some r1))
noncomputable def granaryref05_Sum_v1 (N : Nat) (x : (List Int)) : Option ((List Int)) :=
  (Option.bind (granaryref05_New ()) fun r2 =>
  (Option.bind (granaryref05_Hash_Write N (x, r2, (0 : Int))) fun r3 =>
  (Option.bind (granaryref05_Hash_Sum N (r3.1, r3.2.1, r3.2.2)) fun r4 =>
  (some r4.1))))
noncomputable def granaryref05_node (N : Nat) (x : (List Int) × (List Int)) : Option ((List Int)) :=
  (let v2 : List Int := ([(1 : Int)] : List Int)
  (cond ((((decide (32 ≤ (List.length x.1))) && (decide (1 = 1))) && (decide (0 + 1 ≤ (List.length v2)))) && (fits 1 (1 + (List.length (List.take 32 (List.drop 0 x.1))))))
  ((let v3 : List Int := (List.take 1 (List.drop 0 v2) ++ (List.take 32 (List.drop 0 x.1)))
  (cond ((decide (32 ≤ (List.length x.2))) && (fits 1 ((List.length v3) + (List.length (List.take 32 (List.drop 0 x.2))))))
  ((Option.bind (granaryref05_Sum_v1 N (v3 ++ (List.take 32 (List.drop 0 x.2)))) fun r5 =>
  (some r5)))
  none)))
  none))
noncomputable def granaryref05_Root_b (N : Nat) (rec : (List (List Int)) → Option ((List Int))) (x : (List (List Int))) : Option ((List Int)) :=
  (cond (decide ((((List.length x) : Nat) : Int) = (0 : Int)))
  (Option.bind (granaryref05_Sum N ([] : List Int)) fun r4 =>
  (some r4))
  (cond (decide ((((List.length x) : Nat) : Int) = (1 : Int)))
  (cond (decide ((0 : Int) < (((List.length x) : Nat) : Int)))
  ((some (List.getD x 0 (EK.dflt (.arr 32 (.int .u8))))))
  none)
  (Option.bind (granaryref05_half N (((List.length x) : Nat) : Int)) fun r9 =>
  (cond ((decide ((0 : Int) ≤ r9)) && (decide (r9 ≤ (((List.length x) : Nat) : Int))))
  ((Option.bind (rec (List.take (Int.toNat r9) (List.drop 0 x))) fun r11 =>
  (cond (((decide ((0 : Int) ≤ r9)) && (decide (r9 ≤ (((List.length x) : Nat) : Int)))) && (decide ((((List.length x) : Nat) : Int) ≤ (((List.length x) : Nat) : Int))))
  ((Option.bind (rec (List.take ((List.length x) - (Int.toNat r9)) (List.drop (Int.toNat r9) x))) fun r13 =>
  (Option.bind (granaryref05_node N (r11, r13)) fun r14 =>
  (some r14))))
  none)))
  none))))
noncomputable def granaryref05_Root (N : Nat) : (List (List Int)) → Option ((List Int)) := loopF (granaryref05_Root_b N) N
noncomputable def granaryref05_Path_b (N : Nat) (rec : (List (List Int)) × Int → Option (Int × (List (List Int)))) (x : (List (List Int)) × Int) : Option (Int × (List (List Int))) :=
  (Option.bind
  (cond (decide (x.2 < (0 : Int)))
  (some true)
  (some (decide ((((List.length x.1) : Nat) : Int) ≤ x.2))))
  fun r4 =>
  (cond r4
  (some ((2 : Int), ([] : List (List Int))))
  (cond (decide ((((List.length x.1) : Nat) : Int) = (1 : Int)))
  (some ((0 : Int), ([] : List (List Int))))
  (Option.bind (granaryref05_half N (((List.length x.1) : Nat) : Int)) fun r8 =>
  (cond (decide (x.2 < r8))
  (cond ((decide ((0 : Int) ≤ r8)) && (decide (r8 ≤ (((List.length x.1) : Nat) : Int))))
  ((Option.bind (rec ((List.take (Int.toNat r8) (List.drop 0 x.1)), x.2)) fun r11 =>
  (cond (((decide ((0 : Int) ≤ r8)) && (decide (r8 ≤ (((List.length x.1) : Nat) : Int)))) && (decide ((((List.length x.1) : Nat) : Int) ≤ (((List.length x.1) : Nat) : Int))))
  ((Option.bind (granaryref05_Root N (List.take ((List.length x.1) - (Int.toNat r8)) (List.drop (Int.toNat r8) x.1))) fun r13 =>
  (let v14 : List (List Int) := ([r13] : List (List Int))
  (cond ((decide (1 ≤ (List.length v14))) && (fits 32 ((List.length r11.2) + (List.length (List.take 1 (List.drop 0 v14))))))
  ((some ((0 : Int), (r11.2 ++ (List.take 1 (List.drop 0 v14))))))
  none))))
  none)))
  none)
  (cond (((decide ((0 : Int) ≤ r8)) && (decide (r8 ≤ (((List.length x.1) : Nat) : Int)))) && (decide ((((List.length x.1) : Nat) : Int) ≤ (((List.length x.1) : Nat) : Int))))
  ((Option.bind (rec ((List.take ((List.length x.1) - (Int.toNat r8)) (List.drop (Int.toNat r8) x.1)), (wrapF .i64 (x.2 - r8)))) fun r18 =>
  (cond ((decide ((0 : Int) ≤ r8)) && (decide (r8 ≤ (((List.length x.1) : Nat) : Int))))
  ((Option.bind (granaryref05_Root N (List.take (Int.toNat r8) (List.drop 0 x.1))) fun r20 =>
  (let v21 : List (List Int) := ([r20] : List (List Int))
  (cond ((decide (1 ≤ (List.length v21))) && (fits 32 ((List.length r18.2) + (List.length (List.take 1 (List.drop 0 v21))))))
  ((some ((0 : Int), (r18.2 ++ (List.take 1 (List.drop 0 v21))))))
  none))))
  none)))
  none))))))
noncomputable def granaryref05_Path (N : Nat) : (List (List Int)) × Int → Option (Int × (List (List Int))) := loopF (granaryref05_Path_b N) N
noncomputable def sha_sides_b (N : Nat) (rec : Int × Int → Option ((List Bool))) (x : Int × Int) : Option ((List Bool)) :=
  (cond (decide (x.2 = (1 : Int)))
  (some ([] : List Bool))
  (Option.bind (sha_half N x.2) fun r2 =>
  (cond (decide (x.1 < r2))
  (Option.bind (rec (x.1, r2)) fun r4 =>
  (let v5 : List Bool := ([false] : List Bool)
  (cond ((decide (1 ≤ (List.length v5))) && (fits 1 ((List.length r4) + (List.length (List.take 1 (List.drop 0 v5))))))
  ((some (r4 ++ (List.take 1 (List.drop 0 v5)))))
  none)))
  (Option.bind (rec ((wrapF .i64 (x.1 - r2)), (wrapF .i64 (x.2 - r2)))) fun r9 =>
  (let v10 : List Bool := ([true] : List Bool)
  (cond ((decide (1 ≤ (List.length v10))) && (fits 1 ((List.length r9) + (List.length (List.take 1 (List.drop 0 v10))))))
  ((some (r9 ++ (List.take 1 (List.drop 0 v10)))))
  none))))))
noncomputable def sha_sides (N : Nat) : Int × Int → Option ((List Bool)) := loopF (sha_sides_b N) N
noncomputable def sha_Climb_b0 (N : Nat) (next : (List (List Int)) × Int × Int × (List Int) × (List Bool) → Option (((List Int) × (List Bool)))) (x : (List (List Int)) × Int × Int × (List Int) × (List Bool)) : Option (((List Int) × (List Bool))) :=
  (cond (decide (x.2.2.1 < x.2.1))
  (cond ((decide ((0 : Int) ≤ x.2.2.1)) && (decide (x.2.2.1 < (((List.length x.2.2.2.2) : Nat) : Int))))
  ((let v2 : Nat := (Int.toNat x.2.2.1)
  (cond (decide (v2 < (List.length x.2.2.2.2)))
  ((Option.bind
  (cond (List.getD x.2.2.2.2 v2 (EK.dflt .bool))
  (cond ((decide ((0 : Int) ≤ x.2.2.1)) && (decide (x.2.2.1 < (((List.length x.1) : Nat) : Int))))
  ((Option.bind (sha_pair N ((List.getD x.1 (Int.toNat x.2.2.1) (EK.dflt (.arr 32 (.int .u8)))), x.2.2.2.1)) fun r5 =>
  (some r5)))
  none)
  (cond ((decide ((0 : Int) ≤ x.2.2.1)) && (decide (x.2.2.1 < (((List.length x.1) : Nat) : Int))))
  ((Option.bind (sha_pair N (x.2.2.2.1, (List.getD x.1 (Int.toNat x.2.2.1) (EK.dflt (.arr 32 (.int .u8)))))) fun r7 =>
  (some r7)))
  none))
  fun r8 =>
  (next (x.1, x.2.1, (wrapF .i64 (x.2.2.1 + (1 : Int))), r8, x.2.2.2.2))))
  none)))
  none)
  (some (x.2.2.2.1, x.2.2.2.2)))
noncomputable def sha_Climb_l0 (N : Nat) : (List (List Int)) × Int × Int × (List Int) × (List Bool) → Option (((List Int) × (List Bool))) := loopF (sha_Climb_b0 N) N
noncomputable def sha_Climb (N : Nat) (x : (List Int) × Int × Int × (List (List Int))) : Option ((List Int) × Int) :=
  (Option.bind
  (cond (decide (x.2.1 < (0 : Int)))
  (some true)
  (cond (decide (x.2.2.1 ≤ x.2.1))
  (some true)
  (some (decide ((1048576 : Int) < x.2.2.1)))))
  fun r5 =>
  (cond r5
  (some ((List.replicate 32 (EK.dflt (.int .u8))), (2 : Int)))
  (Option.bind (sha_sides N (x.2.1, x.2.2.1)) fun r7 =>
  (cond (!(decide ((((List.length r7) : Nat) : Int) = (((List.length x.2.2.2) : Nat) : Int))))
  (some ((List.replicate 32 (EK.dflt (.int .u8))), (2 : Int)))
  (Option.bind (sha_Climb_l0 N (x.2.2.2, (((List.length r7) : Nat) : Int), (0 : Int), x.1, r7)) fun r13 =>
  (some (r13.1, (0 : Int))))))))
noncomputable def granaryref05_steps_b (N : Nat) (rec : Int × Int → Option (Int)) (x : Int × Int) : Option (Int) :=
  (cond (decide (x.2 = (1 : Int)))
  (some (0 : Int))
  (Option.bind (granaryref05_half N x.2) fun r2 =>
  (cond (decide (x.1 < r2))
  (Option.bind (rec (x.1, r2)) fun r4 =>
  (some (wrapF .i64 ((1 : Int) + r4))))
  (Option.bind (rec ((wrapF .i64 (x.1 - r2)), (wrapF .i64 (x.2 - r2)))) fun r8 =>
  (some (wrapF .i64 ((1 : Int) + r8)))))))
noncomputable def granaryref05_steps (N : Nat) : Int × Int → Option (Int) := loopF (granaryref05_steps_b N) N
noncomputable def granaryref05_climb_b (N : Nat) (rec : (List Int) × Int × Int × (List (List Int)) → Option ((List Int))) (x : (List Int) × Int × Int × (List (List Int))) : Option ((List Int)) :=
  (cond (decide (x.2.2.1 = (1 : Int)))
  (some x.1)
  (Option.bind (granaryref05_half N x.2.2.1) fun r3 =>
  (let v5 : Int := (wrapF .i64 ((((List.length x.2.2.2) : Nat) : Int) - (1 : Int)))
  (cond (decide (x.2.1 < r3))
  (cond ((decide ((0 : Int) ≤ v5)) && (decide (v5 ≤ (((List.length x.2.2.2) : Nat) : Int))))
  ((Option.bind (rec (x.1, x.2.1, r3, (List.take (Int.toNat v5) (List.drop 0 x.2.2.2)))) fun r8 =>
  (cond ((decide ((0 : Int) ≤ v5)) && (decide (v5 < (((List.length x.2.2.2) : Nat) : Int))))
  ((Option.bind (granaryref05_node N (r8, (List.getD x.2.2.2 (Int.toNat v5) (EK.dflt (.arr 32 (.int .u8)))))) fun r10 =>
  (some r10)))
  none)))
  none)
  (cond ((decide ((0 : Int) ≤ v5)) && (decide (v5 < (((List.length x.2.2.2) : Nat) : Int))))
  ((cond ((decide ((0 : Int) ≤ v5)) && (decide (v5 ≤ (((List.length x.2.2.2) : Nat) : Int))))
  ((Option.bind (rec (x.1, (wrapF .i64 (x.2.1 - r3)), (wrapF .i64 (x.2.2.1 - r3)), (List.take (Int.toNat v5) (List.drop 0 x.2.2.2)))) fun r15 =>
  (Option.bind (granaryref05_node N ((List.getD x.2.2.2 (Int.toNat v5) (EK.dflt (.arr 32 (.int .u8)))), r15)) fun r16 =>
  (some r16))))
  none))
  none)))))
noncomputable def granaryref05_climb (N : Nat) : (List Int) × Int × Int × (List (List Int)) → Option ((List Int)) := loopF (granaryref05_climb_b N) N
noncomputable def granaryref05_Climb (N : Nat) (x : (List Int) × Int × Int × (List (List Int))) : Option ((List Int) × Int) :=
  (Option.bind
  (cond (decide ((1048576 : Int) < x.2.2.1))
  (some true)
  (cond (decide (x.2.1 < (0 : Int)))
  (some true)
  (cond (decide (x.2.2.1 ≤ x.2.1))
  (some true)
  (Option.bind (granaryref05_steps N (x.2.1, x.2.2.1)) fun r6 =>
  (some (!(decide ((((List.length x.2.2.2) : Nat) : Int) = r6))))))))
  fun r8 =>
  (cond r8
  (some ((List.replicate 32 (EK.dflt (.int .u8))), (2 : Int)))
  (Option.bind (granaryref05_climb N (x.1, x.2.1, x.2.2.1, x.2.2.2)) fun r10 =>
  (some (r10, (0 : Int))))))
noncomputable def granaryref05_Same_b0 (N : Nat) (next : (List (List Int)) × (List (List Int)) × Int → Option (Unit ⊕ Unit)) (x : (List (List Int)) × (List (List Int)) × Int) : Option (Unit ⊕ Unit) :=
  (cond (decide (x.2.2 < (((List.length x.1) : Nat) : Int)))
  (cond ((decide ((0 : Int) ≤ x.2.2)) && (decide (x.2.2 < (((List.length x.1) : Nat) : Int))))
  ((cond ((decide ((0 : Int) ≤ x.2.2)) && (decide (x.2.2 < (((List.length x.2.1) : Nat) : Int))))
  ((cond (!(decide ((List.getD x.1 (Int.toNat x.2.2) (EK.dflt (.arr 32 (.int .u8)))) = (List.getD x.2.1 (Int.toNat x.2.2) (EK.dflt (.arr 32 (.int .u8)))))))
  (some (.inl ()))
  (next (x.1, x.2.1, (wrapF .i64 (x.2.2 + (1 : Int)))))))
  none))
  none)
  (some (.inr (()))))
noncomputable def granaryref05_Same_l0 (N : Nat) : (List (List Int)) × (List (List Int)) × Int → Option (Unit ⊕ Unit) := loopF (granaryref05_Same_b0 N) N
noncomputable def granaryref05_Same (N : Nat) (x : (List (List Int)) × (List (List Int))) : Option (Bool) :=
  (cond (!(decide ((((List.length x.1) : Nat) : Int) = (((List.length x.2) : Nat) : Int))))
  (some false)
  (Option.bind (granaryref05_Same_l0 N (x.1, x.2, (0 : Int))) fun r4 =>
  (match r4 with
  | .inl y5 =>
  (some false)
  | .inr z6 =>
  (some true))))
noncomputable def granaryref05_Same_v1_b0 (N : Nat) (next : (List (List Int)) × (List (List Int)) × Int → Option (Unit ⊕ Unit)) (x : (List (List Int)) × (List (List Int)) × Int) : Option (Unit ⊕ Unit) :=
  (cond (decide (x.2.2 < (((List.length x.1) : Nat) : Int)))
  (cond ((decide ((0 : Int) ≤ x.2.2)) && (decide (x.2.2 < (((List.length x.1) : Nat) : Int))))
  ((cond ((decide ((0 : Int) ≤ x.2.2)) && (decide (x.2.2 < (((List.length x.2.1) : Nat) : Int))))
  ((cond (!(decide ((List.getD x.1 (Int.toNat x.2.2) (EK.dflt (.arr 32 (.int .u8)))) = (List.getD x.2.1 (Int.toNat x.2.2) (EK.dflt (.arr 32 (.int .u8)))))))
  (some (.inl ()))
  (next (x.1, x.2.1, (wrapF .i64 (x.2.2 + (1 : Int)))))))
  none))
  none)
  (some (.inr (()))))
noncomputable def granaryref05_Same_v1_l0 (N : Nat) : (List (List Int)) × (List (List Int)) × Int → Option (Unit ⊕ Unit) := loopF (granaryref05_Same_v1_b0 N) N
noncomputable def granaryref05_Same_v1 (N : Nat) (x : (List (List Int)) × (List (List Int))) : Option (Bool) :=
  (cond (!(decide ((((List.length x.1) : Nat) : Int) = (((List.length x.2) : Nat) : Int))))
  (some false)
  (Option.bind (granaryref05_Same_v1_l0 N (x.1, x.2, (0 : Int))) fun r4 =>
  (match r4 with
  | .inl y5 =>
  (some false)
  | .inr z6 =>
  (some true))))
noncomputable def sha_Hash_Save_v1 (N : Nat) (x : (List Int) × Int × (List Int)) : Option ((List Int) × Int × (List Int) × (List Int)) :=
  (Option.bind (sha_words N x.1) fun r1 =>
  (Option.bind (octet_Put_v2 N (x.2.1, (8 : Int), r1)) fun r2 =>
  (cond (fits 1 ((List.length r2) + (List.length x.2.2)))
  ((some (x.1, x.2.1, x.2.2, (r2 ++ x.2.2))))
  none)))
noncomputable def octet_Get_b0 (N : Nat) (next : Int × (List Int) × Int × Int → Option (Int)) (x : Int × (List Int) × Int × Int) : Option (Int) :=
  (cond (decide (x.2.2.2 < x.2.2.1))
  (cond ((decide ((0 : Int) ≤ x.2.2.2)) && (decide (x.2.2.2 < (((List.length x.2.1) : Nat) : Int))))
  ((next ((orF .u64 (shlF .u64 x.1 (8 : Int)) (wrapF .u64 (List.getD x.2.1 (Int.toNat x.2.2.2) (EK.dflt (.int .u8))))), x.2.1, x.2.2.1, (wrapF .i64 (x.2.2.2 + (1 : Int))))))
  none)
  (some x.1))
noncomputable def octet_Get_l0 (N : Nat) : Int × (List Int) × Int × Int → Option (Int) := loopF (octet_Get_b0 N) N
noncomputable def octet_Get (N : Nat) (x : (List Int)) : Option (Int) :=
  (Option.bind (octet_Get_l0 N ((0 : Int), x, (((List.length x) : Nat) : Int), (0 : Int))) fun r2 =>
  (some r2))
noncomputable def sha_Load_b0 (N : Nat) (next : (List Int) × Int × (List Int) → Option (((List Int)))) (x : (List Int) × Int × (List Int)) : Option (((List Int))) :=
  (cond (decide (x.2.1 < (8 : Int)))
  (let v2 : Int := (wrapF .i64 ((4 : Int) * x.2.1))
  (cond (((decide ((0 : Int) ≤ v2)) && (decide (v2 ≤ (((List.length x.1) : Nat) : Int)))) && (decide ((((List.length x.1) : Nat) : Int) ≤ (((List.length x.1) : Nat) : Int))))
  ((let v3 : List Int := (List.take ((List.length x.1) - (Int.toNat v2)) (List.drop (Int.toNat v2) x.1))
  (cond (decide ((4 : Int) ≤ (((List.length v3) : Nat) : Int)))
  ((Option.bind (octet_Get N (List.take 4 (List.drop 0 v3))) fun r5 =>
  (cond ((decide ((0 : Int) ≤ x.2.1)) && (decide (x.2.1 < (8 : Int))))
  ((let v7 : Nat := (Int.toNat x.2.1)
  (cond (decide (v7 < (List.length x.2.2)))
  ((next (x.1, (wrapF .i64 (x.2.1 + (1 : Int))), (List.set x.2.2 v7 (wrapF .u32 r5)))))
  none)))
  none)))
  none)))
  none))
  (some x.2.2))
noncomputable def sha_Load_l0 (N : Nat) : (List Int) × Int × (List Int) → Option (((List Int))) := loopF (sha_Load_b0 N) N
noncomputable def sha_Load (N : Nat) (x : (List Int)) : Option ((Unit) ⊕ ((List Int) × Int × (List Int))) :=
  (cond (decide ((((List.length x) : Nat) : Int) < (40 : Int)))
  (some (.inl ()))
  (cond ((decide ((32 : Int) ≤ (((List.length x) : Nat) : Int))) && (decide ((((List.length x) : Nat) : Int) ≤ (((List.length x) : Nat) : Int))))
  ((let v3 : List Int := (List.take ((List.length x) - 32) (List.drop 32 x))
  (cond (decide ((8 : Int) ≤ (((List.length v3) : Nat) : Int)))
  ((Option.bind (octet_Get N (List.take 8 (List.drop 0 v3))) fun r5 =>
  (cond ((decide ((40 : Int) ≤ (((List.length x) : Nat) : Int))) && (decide ((((List.length x) : Nat) : Int) ≤ (((List.length x) : Nat) : Int))))
  ((Option.bind (slices_Clone_byte_byte_v1 (List.take ((List.length x) - 40) (List.drop 40 x))) fun r7 =>
  (cond (!(decide ((wrapF .u64 (((List.length r7) : Nat) : Int)) = (Int.tmod r5 (64 : Int)))))
  (some (.inl ()))
  (Option.bind (sha_Load_l0 N (x, (0 : Int), (List.replicate 8 (EK.dflt (.int .u32))))) fun r13 =>
  (some (.inr ((r13, r5, r7))))))))
  none)))
  none)))
  none))
noncomputable def sha_Hash_Write_v4_b0 (N : Nat) (next : Nat × Nat × (List Int) × Int × (List Int) → Option ((Nat × Nat × (List Int) × Int × (List Int)))) (x : Nat × Nat × (List Int) × Int × (List Int)) : Option ((Nat × Nat × (List Int) × Int × (List Int))) :=
  (cond (decide ((64 : Int) ≤ ((x.2.1 : Nat) : Int)))
  (cond (decide ((64 : Int) ≤ ((x.2.1 : Nat) : Int)))
  ((let v3 : Nat := (0 + x.1)
  (cond (cond (decide ((v3 + 64) ≤ (List.length x.2.2.2.2))) true false)
  (Option.bind (sha_Hash_round_v1 N ((List.take 64 (List.drop v3 x.2.2.2.2)), x.2.2.1, x.2.2.2.1)) fun r4 =>
  (cond ((decide ((64 : Int) ≤ ((x.2.1 : Nat) : Int))) && (decide (((x.2.1 : Nat) : Int) ≤ ((x.2.1 : Nat) : Int))))
  ((next ((64 + x.1), (x.2.1 - 64), r4.1, r4.2, x.2.2.2.2)))
  none))
  none)))
  none)
  (some (x.1, x.2.1, x.2.2.1, x.2.2.2.1, x.2.2.2.2)))
noncomputable def sha_Hash_Write_v4_l0 (N : Nat) : Nat × Nat × (List Int) × Int × (List Int) → Option ((Nat × Nat × (List Int) × Int × (List Int))) := loopF (sha_Hash_Write_v4_b0 N) N
noncomputable def sha_Hash_Write_v4 (N : Nat) (x : (List Int) × (List Int) × Int × (List Int)) : Option ((List Int) × Int × (List Int)) :=
  (cond (fits 1 ((List.length x.2.2.2) + (List.length x.1)))
  ((let v4 : List Int := (x.2.2.2 ++ x.1)
  (Option.bind (sha_Hash_Write_v4_l0 N (0, (List.length v4), x.2.1, (wrapF .u64 (x.2.2.1 + (wrapF .u64 (((List.length x.1) : Nat) : Int)))), v4)) fun r5 =>
  (cond (cond (decide ((r5.1 + r5.2.1) ≤ (List.length r5.2.2.2.2))) true false)
  (Option.bind (slices_Clone_byte_byte (List.take r5.2.1 (List.drop r5.1 r5.2.2.2.2))) fun r6 =>
  (some (r5.2.2.1, r5.2.2.2.1, r6)))
  none))))
  none)
noncomputable def sha_Hash_Len_v1 (x : (List Int) × Int × (List Int)) : Option (Int × (List Int) × Int × (List Int)) :=
  (some (x.2.1, x.1, x.2.1, x.2.2))
noncomputable def sha_Climb_v1_b0 (N : Nat) (next : (List (List Int)) × Int × Int × (List Int) × (List Bool) → Option (((List Int) × (List Bool)))) (x : (List (List Int)) × Int × Int × (List Int) × (List Bool)) : Option (((List Int) × (List Bool))) :=
  (cond (decide (x.2.2.1 < x.2.1))
  (cond ((decide ((0 : Int) ≤ x.2.2.1)) && (decide (x.2.2.1 < (((List.length x.2.2.2.2) : Nat) : Int))))
  ((let v2 : Nat := (Int.toNat x.2.2.1)
  (cond (decide (v2 < (List.length x.2.2.2.2)))
  ((Option.bind
  (cond (List.getD x.2.2.2.2 v2 (EK.dflt .bool))
  (cond ((decide ((0 : Int) ≤ x.2.2.1)) && (decide (x.2.2.1 < (((List.length x.1) : Nat) : Int))))
  ((Option.bind (sha_pair N ((List.getD x.1 (Int.toNat x.2.2.1) (EK.dflt (.arr 32 (.int .u8)))), x.2.2.2.1)) fun r5 =>
  (some r5)))
  none)
  (cond ((decide ((0 : Int) ≤ x.2.2.1)) && (decide (x.2.2.1 < (((List.length x.1) : Nat) : Int))))
  ((Option.bind (sha_pair N (x.2.2.2.1, (List.getD x.1 (Int.toNat x.2.2.1) (EK.dflt (.arr 32 (.int .u8)))))) fun r7 =>
  (some r7)))
  none))
  fun r8 =>
  (next (x.1, x.2.1, (wrapF .i64 (x.2.2.1 + (1 : Int))), r8, x.2.2.2.2))))
  none)))
  none)
  (some (x.2.2.2.1, x.2.2.2.2)))
noncomputable def sha_Climb_v1_l0 (N : Nat) : (List (List Int)) × Int × Int × (List Int) × (List Bool) → Option (((List Int) × (List Bool))) := loopF (sha_Climb_v1_b0 N) N
noncomputable def sha_Climb_v1 (N : Nat) (x : (List Int) × Int × Int × (List (List Int))) : Option ((List Int) × Int) :=
  (Option.bind
  (cond (decide (x.2.1 < (0 : Int)))
  (some true)
  (cond (decide (x.2.2.1 ≤ x.2.1))
  (some true)
  (some (decide ((1048576 : Int) < x.2.2.1)))))
  fun r5 =>
  (cond r5
  (some ((List.replicate 32 (EK.dflt (.int .u8))), (2 : Int)))
  (Option.bind (sha_sides N (x.2.1, x.2.2.1)) fun r7 =>
  (cond (!(decide ((((List.length r7) : Nat) : Int) = (((List.length x.2.2.2) : Nat) : Int))))
  (some ((List.replicate 32 (EK.dflt (.int .u8))), (2 : Int)))
  (Option.bind (sha_Climb_v1_l0 N (x.2.2.2, (((List.length r7) : Nat) : Int), (0 : Int), x.1, r7)) fun r13 =>
  (some (r13.1, (0 : Int))))))))
end Go.Rf.W
