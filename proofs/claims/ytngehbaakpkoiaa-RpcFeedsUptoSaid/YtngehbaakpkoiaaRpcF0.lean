/-
  The printed functions: plain data in, plain data out; none: beyond the number of rounds N, or where Go would panic.
-/
import Derived.Test.YtngehbaakpkoiaaRfA
set_option linter.unusedVariables false
set_option maxRecDepth 100000
namespace Go.Rf.W
open Go Go.Rf
noncomputable def rpc_NewFramer (x : Unit) : Option (Unit) :=
  (some ())
noncomputable def octet_Get_b0 (N : Nat) (next : Int × (List Int) × Int × Int → Option (Int)) (x : Int × (List Int) × Int × Int) : Option (Int) :=
  (cond (decide (x.2.2.2 < x.2.2.1))
  (cond ((decide ((0 : Int) ≤ x.2.2.2)) && (decide (x.2.2.2 < (((List.length x.2.1) : Nat) : Int))))
  ((next ((orF .u64 (shlF .u64 x.1 (8 : Int)) (wrapF .u64 (List.getD x.2.1 (Int.toNat x.2.2.2) (EK.dflt (.int .u8))))), x.2.1, x.2.2.1, (wrapF .i64 (x.2.2.2 + (1 : Int))))))
  none)
  (some x.1))
noncomputable def octet_Get_l0 (N : Nat) : Int × (List Int) × Int × Int → Option (Int) := loopF (octet_Get_b0 N) N
noncomputable def octet_Get (N : Nat) (x : (List Int)) : Option (Int) :=
  (Option.bind (octet_Get_l0 N ((0 : Int), x, (((List.length x) : Nat) : Int), (0 : Int))) fun r2 =>
  (some r2))
noncomputable def rpc_Framer_begins (N : Nat) (x : Int × Bool × Int × Int × Bool × (List Int)) : Option (Bool × Int × Bool × Int × Int × Bool × (List Int)) :=
  (cond (decide ((4 : Int) ≤ (((List.length x.2.2.2.2.2) : Nat) : Int)))
  ((cond (cond (decide (4 ≤ (List.length x.2.2.2.2.2))) true false)
  (Option.bind (octet_Get N (List.take 4 (List.drop 0 x.2.2.2.2.2))) fun r1 =>
  (let v2 : Int := (wrapF .u32 r1)
  (let v6 : Int := (wrapF .i64 (andNotF .u32 v2 (2147483648 : Int)))
  (let v7 : Int := (wrapF .i64 (x.2.2.1 + (1 : Int)))
  (Option.bind
  (cond (decide ((wrapF .i64 ((0 : Int) + v6)) ≤ (4096 : Int)))
  (some (decide (v7 ≤ (32 : Int))))
  (some false))
  fun r11 =>
  (some (r11, v6, (!(decide ((andF .u32 v2 (2147483648 : Int)) = (0 : Int)))), v7, x.2.2.2.1, x.2.2.2.2.1, x.2.2.2.2.2)))))))
  none))
  none)
noncomputable def rpc_Framer_begins_v1 (N : Nat) (x : Int × Bool × Int × Int × Bool × (List Int) × (List Int)) : Option (Bool × Int × Bool × Int × Int × Bool × (List Int) × (List Int)) :=
  (cond (decide ((4 : Int) ≤ (((List.length x.2.2.2.2.2.1) : Nat) : Int)))
  ((cond (cond (decide (4 ≤ (List.length x.2.2.2.2.2.1))) true false)
  (Option.bind (octet_Get N (List.take 4 (List.drop 0 x.2.2.2.2.2.1))) fun r1 =>
  (let v2 : Int := (wrapF .u32 r1)
  (let v6 : Int := (wrapF .i64 (andNotF .u32 v2 (2147483648 : Int)))
  (let v7 : Int := (wrapF .i64 (x.2.2.1 + (1 : Int)))
  (Option.bind
  (cond (decide ((wrapF .i64 ((((List.length x.2.2.2.2.2.2) : Nat) : Int) + v6)) ≤ (4096 : Int)))
  (some (decide (v7 ≤ (32 : Int))))
  (some false))
  fun r12 =>
  (some (r12, v6, (!(decide ((andF .u32 v2 (2147483648 : Int)) = (0 : Int)))), v7, x.2.2.2.1, x.2.2.2.2.1, x.2.2.2.2.2.1, x.2.2.2.2.2.2)))))))
  none))
  none)
noncomputable def rpc_Framer_Feed_b1 (N : Nat) (next : (List Int) × Bool × Int × Bool × Int × Int × Bool × (List (List Int)) × (List Int) → Option ((Int × Bool × Int × Int × Bool × (List (List Int)) × (List Int) × (List Int)) ⊕ ((List (List Int))))) (x : (List Int) × Bool × Int × Bool × Int × Int × Bool × (List (List Int)) × (List Int)) : Option ((Int × Bool × Int × Int × Bool × (List (List Int)) × (List Int) × (List Int)) ⊕ ((List (List Int)))) :=
  (cond (decide ((0 : Int) < (((List.length x.1) : Nat) : Int)))
  (Option.bind
  ((Option.bind
  ((cond (!x.2.1)
  (let v4 : Int := (((List.length x.1) : Nat) : Int)
  (let v5 : Int := (if v4 < (4 : Int) then v4 else (4 : Int))
  (cond ((decide ((0 : Int) ≤ v5)) && (decide (v5 ≤ (((List.length x.1) : Nat) : Int))))
  ((let v6 : List Int := (List.take (Int.toNat v5) (List.drop 0 x.1))
  (cond (fits 1 (List.length v6))
  ((cond (((decide ((0 : Int) ≤ v5)) && (decide (v5 ≤ (((List.length x.1) : Nat) : Int)))) && (decide ((((List.length x.1) : Nat) : Int) ≤ (((List.length x.1) : Nat) : Int))))
  ((let v8 : Int := (wrapF .i64 (x.2.2.2.2.2.1 + v5))
  (cond (decide ((((List.length v6) : Nat) : Int) < (4 : Int)))
  (some (.inr (.inl (x.2.2.1, x.2.2.2.1, x.2.2.2.2.1, v8, x.2.2.2.2.2.2.1, x.2.2.2.2.2.2.2.2, v6))))
  (Option.bind (rpc_Framer_begins_v1 N (x.2.2.1, x.2.2.2.1, x.2.2.2.2.1, v8, x.2.2.2.2.2.2.1, v6, x.2.2.2.2.2.2.2.2)) fun r11 =>
  (cond (!r11.1)
  (some (.inr (.inr (r11.2.2.2.2.2.2.2))))
  (some (.inl ((List.take ((List.length x.1) - (Int.toNat v5)) (List.drop (Int.toNat v5) x.1)), r11.2.1, r11.2.2.1, r11.2.2.2.1, r11.2.2.2.2.1, r11.2.2.2.2.2.1, r11.2.2.2.2.2.2.2))))))))
  none))
  none)))
  none)))
  (some (.inl (x.1, x.2.2.1, x.2.2.2.1, x.2.2.2.2.1, x.2.2.2.2.2.1, x.2.2.2.2.2.2.1, x.2.2.2.2.2.2.2.2)))) : Option (((List Int) × Int × Bool × Int × Int × Bool × (List Int)) ⊕ (Int × Bool × Int × Int × Bool × (List Int) × (List Int)) ⊕ ((List Int))))
  fun r13 =>
  (match r13 with
  | .inl y14 =>
  (let v16 : Int := (((List.length y14.1) : Nat) : Int)
  (let v17 : Int := (if v16 < y14.2.1 then v16 else y14.2.1)
  (cond ((decide ((0 : Int) ≤ v17)) && (decide (v17 ≤ (((List.length y14.1) : Nat) : Int))))
  ((let v18 : List Int := (List.take (Int.toNat v17) (List.drop 0 y14.1))
  (cond (fits 1 ((List.length y14.2.2.2.2.2.2) + (List.length v18)))
  ((let v19 : List Int := (y14.2.2.2.2.2.2 ++ v18)
  (cond (((decide ((0 : Int) ≤ v17)) && (decide (v17 ≤ (((List.length y14.1) : Nat) : Int)))) && (decide ((((List.length y14.1) : Nat) : Int) ≤ (((List.length y14.1) : Nat) : Int))))
  ((let v20 : List Int := (List.take ((List.length y14.1) - (Int.toNat v17)) (List.drop (Int.toNat v17) y14.1))
  (let v21 : Int := (wrapF .i64 (y14.2.1 - v17))
  (let v23 : Bool := (decide ((0 : Int) < v21))
  (Option.bind
  (cond v23
  (some true)
  (some (!y14.2.2.1)))
  fun r25 =>
  (cond r25
  (some (.inl (v20, v23, v21, y14.2.2.1, y14.2.2.2.1, (wrapF .i64 (y14.2.2.2.2.1 + v17)), y14.2.2.2.2.2.1, x.2.2.2.2.2.2.2.1, v19)))
  (cond (fits 1 (List.length v19))
  ((let v27 : List (List Int) := ([v19] : List (List Int))
  (cond (fits 24 ((List.length x.2.2.2.2.2.2.2.1) + (List.length v27)))
  ((some (.inl (v20, v23, (0 : Int), false, (0 : Int), (0 : Int), false, (x.2.2.2.2.2.2.2.1 ++ v27), ([] : List Int)))))
  none)))
  none)))))))
  none)))
  none)))
  none)))
  | .inr z15 =>
  (match z15 with
  | .inl y29 =>
  (some (.inr (.inl (y29.1, y29.2.1, y29.2.2.1, y29.2.2.2.1, y29.2.2.2.2.1, y29.2.2.2.2.2.1, x.2.2.2.2.2.2.2.1, y29.2.2.2.2.2.2))))
  | .inr z30 =>
  (some (.inr (.inr ((z30, x.2.2.2.2.2.2.2.1)))))))) : Option (((List Int) × Bool × Int × Bool × Int × Int × Bool × (List (List Int)) × (List Int)) ⊕ (Int × Bool × Int × Int × Bool × (List Int) × (List (List Int)) × (List Int)) ⊕ ((List Int) × (List (List Int)))))
  fun r31 =>
  (match r31 with
  | .inl y32 =>
  (next (y32.1, y32.2.1, y32.2.2.1, y32.2.2.2.1, y32.2.2.2.2.1, y32.2.2.2.2.2.1, y32.2.2.2.2.2.2.1, y32.2.2.2.2.2.2.2.1, y32.2.2.2.2.2.2.2.2))
  | .inr z33 =>
  (match z33 with
  | .inl y34 =>
  (some (.inl (y34.1, y34.2.1, y34.2.2.1, y34.2.2.2.1, y34.2.2.2.2.1, y34.2.2.2.2.2.2.1, y34.2.2.2.2.2.2.2, y34.2.2.2.2.2.1)))
  | .inr z35 =>
  (some (.inr (z35.2))))))
  (some (.inl (x.2.2.1, x.2.2.2.1, x.2.2.2.2.1, x.2.2.2.2.2.1, x.2.2.2.2.2.2.1, x.2.2.2.2.2.2.2.1, ([] : List Int), x.2.2.2.2.2.2.2.2))))
noncomputable def rpc_Framer_Feed_l1 (N : Nat) : (List Int) × Bool × Int × Bool × Int × Int × Bool × (List (List Int)) × (List Int) → Option ((Int × Bool × Int × Int × Bool × (List (List Int)) × (List Int) × (List Int)) ⊕ ((List (List Int)))) := loopF (rpc_Framer_Feed_b1 N) N
noncomputable def rpc_Framer_Feed (N : Nat) (x : (List Int) × Int × Bool × Int × Int × Bool) : Option (Int × Int × Bool × Int × Int × Bool × (List (List Int)) × (List Int) × (List Int)) :=
  (cond x.2.2.2.2.2
  (some ((210 : Int), x.2.1, x.2.2.1, x.2.2.2.1, x.2.2.2.2.1, x.2.2.2.2.2, ([] : List (List Int)), ([] : List Int), ([] : List Int)))
  (Option.bind (rpc_Framer_Feed_l1 N (x.1, (decide ((0 : Int) < x.2.1)), x.2.1, x.2.2.1, x.2.2.2.1, x.2.2.2.2.1, x.2.2.2.2.2, ([] : List (List Int)), ([] : List Int))) fun r2 =>
  (match r2 with
  | .inl y3 =>
  (some ((0 : Int), y3.1, y3.2.1, y3.2.2.1, y3.2.2.2.1, y3.2.2.2.2.1, y3.2.2.2.2.2.1, y3.2.2.2.2.2.2.1, y3.2.2.2.2.2.2.2))
  | .inr z4 =>
  (some ((210 : Int), (0 : Int), false, (0 : Int), (0 : Int), true, z4, ([] : List Int), ([] : List Int))))))
noncomputable def rpc_Framer_Feed_v1_b1 (N : Nat) (next : (List Int) × Bool × Int × Bool × Int × Int × Bool × (List Int) × (List Int) × (List (List Int)) → Option ((Int × Bool × Int × Int × Bool × (List (List Int)) × (List Int) × (List Int)) ⊕ ((List (List Int))))) (x : (List Int) × Bool × Int × Bool × Int × Int × Bool × (List Int) × (List Int) × (List (List Int))) : Option ((Int × Bool × Int × Int × Bool × (List (List Int)) × (List Int) × (List Int)) ⊕ ((List (List Int)))) :=
  (cond (decide ((0 : Int) < (((List.length x.1) : Nat) : Int)))
  (Option.bind
  ((Option.bind
  ((cond (!x.2.1)
  (let v5 : Int := (wrapF .i64 ((4 : Int) - (((List.length x.2.2.2.2.2.2.2.1) : Nat) : Int)))
  (let v6 : Int := (((List.length x.1) : Nat) : Int)
  (let v7 : Int := (if v6 < v5 then v6 else v5)
  (cond ((decide ((0 : Int) ≤ v7)) && (decide (v7 ≤ (((List.length x.1) : Nat) : Int))))
  ((let v8 : List Int := (List.take (Int.toNat v7) (List.drop 0 x.1))
  (cond (fits 1 ((List.length x.2.2.2.2.2.2.2.1) + (List.length v8)))
  ((let v9 : List Int := (x.2.2.2.2.2.2.2.1 ++ v8)
  (cond (((decide ((0 : Int) ≤ v7)) && (decide (v7 ≤ (((List.length x.1) : Nat) : Int)))) && (decide ((((List.length x.1) : Nat) : Int) ≤ (((List.length x.1) : Nat) : Int))))
  ((let v11 : Int := (wrapF .i64 (x.2.2.2.2.2.1 + v7))
  (cond (decide ((((List.length v9) : Nat) : Int) < (4 : Int)))
  (some (.inr (.inl (x.2.2.1, x.2.2.2.1, x.2.2.2.2.1, v11, x.2.2.2.2.2.2.1, x.2.2.2.2.2.2.2.2.1, v9))))
  (Option.bind (rpc_Framer_begins_v1 N (x.2.2.1, x.2.2.2.1, x.2.2.2.2.1, v11, x.2.2.2.2.2.2.1, v9, x.2.2.2.2.2.2.2.2.1)) fun r14 =>
  (cond (!r14.1)
  (some (.inr (.inr (r14.2.2.2.2.2.2.2))))
  (some (.inl ((List.take ((List.length x.1) - (Int.toNat v7)) (List.drop (Int.toNat v7) x.1)), r14.2.1, r14.2.2.1, r14.2.2.2.1, r14.2.2.2.2.1, r14.2.2.2.2.2.1, r14.2.2.2.2.2.2.2, ([] : List Int)))))))))
  none)))
  none)))
  none))))
  (some (.inl (x.1, x.2.2.1, x.2.2.2.1, x.2.2.2.2.1, x.2.2.2.2.2.1, x.2.2.2.2.2.2.1, x.2.2.2.2.2.2.2.2.1, x.2.2.2.2.2.2.2.1)))) : Option (((List Int) × Int × Bool × Int × Int × Bool × (List Int) × (List Int)) ⊕ (Int × Bool × Int × Int × Bool × (List Int) × (List Int)) ⊕ ((List Int))))
  fun r16 =>
  (match r16 with
  | .inl y17 =>
  (let v19 : Int := (((List.length y17.1) : Nat) : Int)
  (let v20 : Int := (if v19 < y17.2.1 then v19 else y17.2.1)
  (cond ((decide ((0 : Int) ≤ v20)) && (decide (v20 ≤ (((List.length y17.1) : Nat) : Int))))
  ((let v21 : List Int := (List.take (Int.toNat v20) (List.drop 0 y17.1))
  (cond (fits 1 ((List.length y17.2.2.2.2.2.2.1) + (List.length v21)))
  ((let v22 : List Int := (y17.2.2.2.2.2.2.1 ++ v21)
  (cond (((decide ((0 : Int) ≤ v20)) && (decide (v20 ≤ (((List.length y17.1) : Nat) : Int)))) && (decide ((((List.length y17.1) : Nat) : Int) ≤ (((List.length y17.1) : Nat) : Int))))
  ((let v23 : List Int := (List.take ((List.length y17.1) - (Int.toNat v20)) (List.drop (Int.toNat v20) y17.1))
  (let v24 : Int := (wrapF .i64 (y17.2.1 - v20))
  (let v26 : Bool := (decide ((0 : Int) < v24))
  (Option.bind
  (cond v26
  (some true)
  (some (!y17.2.2.1)))
  fun r28 =>
  (cond r28
  (some (.inl (v23, v26, v24, y17.2.2.1, y17.2.2.2.1, (wrapF .i64 (y17.2.2.2.2.1 + v20)), y17.2.2.2.2.2.1, x.2.2.2.2.2.2.2.2.2, y17.2.2.2.2.2.2.2, v22)))
  (cond (fits 1 (List.length v22))
  ((let v30 : List (List Int) := ([v22] : List (List Int))
  (cond (fits 24 ((List.length x.2.2.2.2.2.2.2.2.2) + (List.length v30)))
  ((some (.inl (v23, v26, (0 : Int), false, (0 : Int), (0 : Int), false, (x.2.2.2.2.2.2.2.2.2 ++ v30), ([] : List Int), ([] : List Int)))))
  none)))
  none)))))))
  none)))
  none)))
  none)))
  | .inr z18 =>
  (match z18 with
  | .inl y32 =>
  (some (.inr (.inl (y32.1, y32.2.1, y32.2.2.1, y32.2.2.2.1, y32.2.2.2.2.1, y32.2.2.2.2.2.1, x.2.2.2.2.2.2.2.2.2, y32.2.2.2.2.2.2))))
  | .inr z33 =>
  (some (.inr (.inr ((z33, x.2.2.2.2.2.2.2.2.2)))))))) : Option (((List Int) × Bool × Int × Bool × Int × Int × Bool × (List (List Int)) × (List Int) × (List Int)) ⊕ (Int × Bool × Int × Int × Bool × (List Int) × (List (List Int)) × (List Int)) ⊕ ((List Int) × (List (List Int)))))
  fun r34 =>
  (match r34 with
  | .inl y35 =>
  (next (y35.1, y35.2.1, y35.2.2.1, y35.2.2.2.1, y35.2.2.2.2.1, y35.2.2.2.2.2.1, y35.2.2.2.2.2.2.1, y35.2.2.2.2.2.2.2.2.1, y35.2.2.2.2.2.2.2.2.2, y35.2.2.2.2.2.2.2.1))
  | .inr z36 =>
  (match z36 with
  | .inl y37 =>
  (some (.inl (y37.1, y37.2.1, y37.2.2.1, y37.2.2.2.1, y37.2.2.2.2.1, y37.2.2.2.2.2.2.1, y37.2.2.2.2.2.2.2, y37.2.2.2.2.2.1)))
  | .inr z38 =>
  (some (.inr (z38.2))))))
  (some (.inl (x.2.2.1, x.2.2.2.1, x.2.2.2.2.1, x.2.2.2.2.2.1, x.2.2.2.2.2.2.1, x.2.2.2.2.2.2.2.2.2, x.2.2.2.2.2.2.2.1, x.2.2.2.2.2.2.2.2.1))))
noncomputable def rpc_Framer_Feed_v1_l1 (N : Nat) : (List Int) × Bool × Int × Bool × Int × Int × Bool × (List Int) × (List Int) × (List (List Int)) → Option ((Int × Bool × Int × Int × Bool × (List (List Int)) × (List Int) × (List Int)) ⊕ ((List (List Int)))) := loopF (rpc_Framer_Feed_v1_b1 N) N
noncomputable def rpc_Framer_Feed_v1 (N : Nat) (x : (List Int) × Int × Bool × Int × Int × Bool × (List Int) × (List Int)) : Option (Int × Int × Bool × Int × Int × Bool × (List (List Int)) × (List Int) × (List Int)) :=
  (cond x.2.2.2.2.2.1
  (some ((210 : Int), x.2.1, x.2.2.1, x.2.2.2.1, x.2.2.2.2.1, x.2.2.2.2.2.1, ([] : List (List Int)), x.2.2.2.2.2.2.1, x.2.2.2.2.2.2.2))
  (Option.bind (rpc_Framer_Feed_v1_l1 N (x.1, (decide ((0 : Int) < x.2.1)), x.2.1, x.2.2.1, x.2.2.2.1, x.2.2.2.2.1, x.2.2.2.2.2.1, x.2.2.2.2.2.2.1, x.2.2.2.2.2.2.2, ([] : List (List Int)))) fun r2 =>
  (match r2 with
  | .inl y3 =>
  (some ((0 : Int), y3.1, y3.2.1, y3.2.2.1, y3.2.2.2.1, y3.2.2.2.2.1, y3.2.2.2.2.2.1, y3.2.2.2.2.2.2.1, y3.2.2.2.2.2.2.2))
  | .inr z4 =>
  (some ((210 : Int), (0 : Int), false, (0 : Int), (0 : Int), true, z4, ([] : List Int), ([] : List Int))))))
noncomputable def xdr_NewWriter (x : Unit) : Option (Unit) :=
  (some ())
noncomputable def xdr_Writer_bad (x : Int) : Option (Bool × Int) :=
  (some ((!(decide (x = (0 : Int)))), x))
noncomputable def octet_Lay_b0 (N : Nat) (next : Nat × Nat × Int × Int × (List Int) → Option (((List Int)))) (x : Nat × Nat × Int × Int × (List Int)) : Option (((List Int))) :=
  (cond (decide ((0 : Int) ≤ x.2.2.2.1))
  (cond ((decide ((0 : Int) ≤ x.2.2.2.1)) && (decide (x.2.2.2.1 < ((x.2.1 : Nat) : Int))))
  ((let v3 : Nat := ((Int.toNat x.2.2.2.1) + x.1)
  (cond (decide (v3 < (List.length x.2.2.2.2)))
  ((next (x.1, x.2.1, (shrF .u64 x.2.2.1 (8 : Int)), (wrapF .i64 (x.2.2.2.1 - (1 : Int))), (List.set x.2.2.2.2 v3 (wrapF .u8 x.2.2.1)))))
  none)))
  none)
  (some x.2.2.2.2))
noncomputable def octet_Lay_l0 (N : Nat) : Nat × Nat × Int × Int × (List Int) → Option (((List Int))) := loopF (octet_Lay_b0 N) N
noncomputable def octet_Lay (N : Nat) (x : Nat × Nat × Int × (List Int)) : Option ((List Int)) :=
  (Option.bind (octet_Lay_l0 N (x.1, x.2.1, x.2.2.1, (wrapF .i64 (((x.2.1 : Nat) : Int) - (1 : Int))), x.2.2.2)) fun r3 =>
  (some r3))
noncomputable def octet_Put (N : Nat) (x : Int × Int) : Option ((List Int)) :=
  (cond (((decide ((0 : Int) ≤ x.2)) && (fits 1 (Int.toNat x.2))) && (fits 1 (List.length (List.replicate (Int.toNat x.2) (EK.dflt (.int .u8))))))
  ((let v1 : List Int := (List.replicate (Int.toNat x.2) (EK.dflt (.int .u8)))
  (let v3 : Int := (wrapF .i64 ((((List.length v1) : Nat) : Int) - x.2))
  (cond (((decide ((0 : Int) ≤ v3)) && (decide (v3 ≤ (((List.length v1) : Nat) : Int)))) && (decide ((((List.length v1) : Nat) : Int) ≤ (((List.length v1) : Nat) : Int))))
  ((Option.bind (octet_Lay N ((Int.toNat v3), ((List.length v1) - (Int.toNat v3)), x.1, v1)) fun r6 =>
  (some r6)))
  none))))
  none)
noncomputable def xdr_Writer_Uint (N : Nat) (x : Int × Int) : Option (Int × (List Int)) :=
  (Option.bind (xdr_Writer_bad x.2) fun r1 =>
  (Option.bind
  (cond (!r1.1)
  (Option.bind (octet_Put N ((wrapF .u64 x.1), (4 : Int))) fun r4 =>
  (some r4))
  (some ([] : List Int)))
  fun r5 =>
  (some (r1.2, r5))))
noncomputable def xdr_Writer_bad_v1 (x : Int × (List Int)) : Option (Bool × Int × (List Int)) :=
  (some ((!(decide (x.1 = (0 : Int)))), x.1, x.2))
noncomputable def octet_Put_v1 (N : Nat) (x : Int × Int × (List Int)) : Option ((List Int)) :=
  (cond (((decide ((0 : Int) ≤ x.2.1)) && (fits 1 (Int.toNat x.2.1))) && (fits 1 ((List.length x.2.2) + (List.length (List.replicate (Int.toNat x.2.1) (EK.dflt (.int .u8)))))))
  ((let v1 : List Int := (x.2.2 ++ (List.replicate (Int.toNat x.2.1) (EK.dflt (.int .u8))))
  (let v3 : Int := (wrapF .i64 ((((List.length v1) : Nat) : Int) - x.2.1))
  (cond (((decide ((0 : Int) ≤ v3)) && (decide (v3 ≤ (((List.length v1) : Nat) : Int)))) && (decide ((((List.length v1) : Nat) : Int) ≤ (((List.length v1) : Nat) : Int))))
  ((Option.bind (octet_Lay N ((Int.toNat v3), ((List.length v1) - (Int.toNat v3)), x.1, v1)) fun r6 =>
  (some r6)))
  none))))
  none)
noncomputable def xdr_Writer_Uint_v1 (N : Nat) (x : Int × Int × (List Int)) : Option (Int × (List Int)) :=
  (Option.bind (xdr_Writer_bad_v1 (x.2.1, x.2.2)) fun r1 =>
  (Option.bind
  (cond (!r1.1)
  (Option.bind (octet_Put_v1 N ((wrapF .u64 x.1), (4 : Int), r1.2.2)) fun r4 =>
  (some r4))
  (some r1.2.2))
  fun r5 =>
  (some (r1.2.1, r5))))
noncomputable def xdr_Writer_fits (x : Int × Int × Int × (List Int)) : Option (Bool × Int × (List Int)) :=
  (Option.bind (xdr_Writer_bad_v1 (x.2.2.1, x.2.2.2)) fun r1 =>
  (cond r1.1
  (some (false, r1.2.1, r1.2.2))
  (Option.bind
  (cond (decide (x.2.1 < x.1))
  (some (1 : Int))
  (some r1.2.1))
  fun r3 =>
  (some ((decide (x.1 ≤ x.2.1)), r3, r1.2.2)))))
noncomputable def xdr_padding (x : Int) : Option (Int) :=
  (some (Int.tmod (wrapF .i64 ((4 : Int) - (Int.tmod x (4 : Int)))) (4 : Int)))
noncomputable def xdr_Writer_Fixed_b0 (N : Nat) (next : Int × Int × (List Int) → Option (((List Int)))) (x : Int × Int × (List Int)) : Option (((List Int))) :=
  (cond (decide (x.2.1 < x.1))
  (let v2 : List Int := ([(0 : Int)] : List Int)
  (cond ((decide (1 ≤ (List.length v2))) && (fits 1 ((List.length x.2.2) + (List.length (List.take 1 (List.drop 0 v2))))))
  ((next (x.1, (wrapF .i64 (x.2.1 + (1 : Int))), (x.2.2 ++ (List.take 1 (List.drop 0 v2))))))
  none))
  (some x.2.2))
noncomputable def xdr_Writer_Fixed_l0 (N : Nat) : Int × Int × (List Int) → Option (((List Int))) := loopF (xdr_Writer_Fixed_b0 N) N
noncomputable def xdr_Writer_Fixed (N : Nat) (x : (List Int) × Int × (List Int)) : Option (Int × (List Int)) :=
  (Option.bind (xdr_Writer_bad_v1 (x.2.1, x.2.2)) fun r1 =>
  (cond r1.1
  (some (r1.2.1, r1.2.2))
  (cond (fits 1 ((List.length r1.2.2) + (List.length x.1)))
  ((Option.bind (xdr_padding (((List.length x.1) : Nat) : Int)) fun r4 =>
  (Option.bind (xdr_Writer_Fixed_l0 N (r4, (0 : Int), (r1.2.2 ++ x.1))) fun r5 =>
  (some (r1.2.1, r5)))))
  none)))
noncomputable def xdr_Writer_Opaque (N : Nat) (x : (List Int) × Int × Int × (List Int)) : Option (Int × (List Int)) :=
  (Option.bind (xdr_Writer_fits ((((List.length x.1) : Nat) : Int), x.2.1, x.2.2.1, x.2.2.2)) fun r2 =>
  (Option.bind
  (cond r2.1
  (Option.bind (xdr_Writer_Uint_v1 N ((wrapF .u32 (((List.length x.1) : Nat) : Int)), r2.2.1, r2.2.2)) fun r5 =>
  (Option.bind (xdr_Writer_Fixed N (x.1, r5.1, r5.2)) fun r6 =>
  (some (r6.1, r6.2))))
  (some (r2.2.1, r2.2.2)))
  fun r7 =>
  (some (r7.1, r7.2))))
noncomputable def rpc_putAuth (N : Nat) (x : Int × (List Int) × Int × (List Int)) : Option (Int × (List Int)) :=
  (Option.bind (xdr_Writer_Uint_v1 N (x.1, x.2.2.1, x.2.2.2)) fun r1 =>
  (Option.bind (xdr_Writer_Opaque N (x.2.1, (400 : Int), r1.1, r1.2)) fun r2 =>
  (some (r2.1, r2.2))))
noncomputable def xdr_Writer_Why (x : Int × (List Int)) : Option (Int × Int × (List Int)) :=
  (some (x.1, x.1, x.2))
noncomputable def slices_Clone_byte_byte (x : (List Int)) : Option ((List Int)) :=
  (agreeC (decide ((List.length x) = 0)) false
  (some ([] : List Int))
  (cond (fits 1 (List.length x))
  ((some x))
  none))
noncomputable def xdr_Writer_Bytes (x : Int × (List Int)) : Option (Int × (List Int) × (List Int)) :=
  (Option.bind (slices_Clone_byte_byte x.2) fun r1 =>
  (some (x.1, x.2, r1)))
noncomputable def rpc_PutCall_b0 (N : Nat) (next : Nat × Nat × Int × Int × (List Int) × (List Int) → Option ((Int × (List Int) × (List Int)))) (x : Nat × Nat × Int × Int × (List Int) × (List Int)) : Option ((Int × (List Int) × (List Int))) :=
  (cond (decide (x.2.2.1 < (6 : Int)))
  (cond ((decide ((0 : Int) ≤ x.2.2.1)) && (decide (x.2.2.1 < ((x.2.1 : Nat) : Int))))
  ((let v2 : Nat := ((Int.toNat x.2.2.1) + x.1)
  (cond (decide (v2 < (List.length x.2.2.2.2.1)))
  ((Option.bind (xdr_Writer_Uint_v1 N ((List.getD x.2.2.2.2.1 v2 (EK.dflt (.int .u32))), x.2.2.2.1, x.2.2.2.2.2)) fun r4 =>
  (next (x.1, x.2.1, (wrapF .i64 (x.2.2.1 + (1 : Int))), r4.1, x.2.2.2.2.1, r4.2))))
  none)))
  none)
  (some (x.2.2.2.1, x.2.2.2.2.1, x.2.2.2.2.2)))
noncomputable def rpc_PutCall_l0 (N : Nat) : Nat × Nat × Int × Int × (List Int) × (List Int) → Option ((Int × (List Int) × (List Int))) := loopF (rpc_PutCall_b0 N) N
noncomputable def rpc_PutCall (N : Nat) (x : Int × Int × Int × Int × Int × Int × (List Int) × Int × (List Int) × (List Int)) : Option (Int × (List Int)) :=
  (Option.bind (xdr_NewWriter ()) fun r1 =>
  (Option.bind (rpc_PutCall_l0 N (0, 6, (0 : Int), (0 : Int), ([x.1, (0 : Int), x.2.1, x.2.2.1, x.2.2.2.1, x.2.2.2.2.1] : List Int), ([] : List Int))) fun r3 =>
  (Option.bind (rpc_putAuth N (x.2.2.2.2.2.1, x.2.2.2.2.2.2.1, r3.1, r3.2.2)) fun r4 =>
  (Option.bind (rpc_putAuth N (x.2.2.2.2.2.2.2.1, x.2.2.2.2.2.2.2.2.1, r4.1, r4.2)) fun r5 =>
  (Option.bind (xdr_Writer_Why (r5.1, r5.2)) fun r6 =>
  (cond (!(decide (r6.1 = (0 : Int))))
  (Option.bind (xdr_Writer_Why (r6.2.1, r6.2.2)) fun r8 =>
  (some (r8.1, ([] : List Int))))
  (Option.bind (xdr_Writer_Bytes (r6.2.1, r6.2.2)) fun r9 =>
  (cond (fits 1 ((List.length r9.2.2) + (List.length x.2.2.2.2.2.2.2.2.2)))
  ((some ((0 : Int), (r9.2.2 ++ x.2.2.2.2.2.2.2.2.2))))
  none))))))))
noncomputable def slices_Clone_byte_byte_v1 (x : (List Int)) : Option ((List Int)) :=
  (agreeC (decide ((List.length x) = 0)) false
  (some ([] : List Int))
  (cond (fits 1 (List.length x))
  ((some x))
  none))
noncomputable def xdr_NewReader (x : (List Int)) : Option ((List Int)) :=
  (Option.bind (slices_Clone_byte_byte_v1 x) fun r1 =>
  (some r1))
noncomputable def xdr_Reader_At (x : Int × Int × Int × (List Int)) : Option (Int × Int × Int × Int × (List Int)) :=
  (some (x.1, x.1, x.2.1, x.2.2.1, x.2.2.2))
noncomputable def xdr_Reader_bad (x : Int × Int × Int × (List Int)) : Option (Bool × Int × Int × Int × (List Int)) :=
  (some ((!(decide (x.2.1 = (0 : Int)))), x.1, x.2.1, x.2.2.1, x.2.2.2))
noncomputable def xdr_Reader_fails (x : Int × Int × Int × Int × Int × (List Int)) : Option (Int × Int × Int × (List Int)) :=
  (Option.bind (xdr_Reader_bad (x.2.2.1, x.2.2.2.1, x.2.2.2.2.1, x.2.2.2.2.2)) fun r1 =>
  (Option.bind
  (cond (!r1.1)
  (some (x.2.1, x.1, x.2.1))
  (some (r1.2.1, r1.2.2.1, r1.2.2.2.1)))
  fun r3 =>
  (some (r3.1, r3.2.1, r3.2.2, r1.2.2.2.2))))
noncomputable def xdr_Reader_take (x : Int × Int × Int × Int × Int × (List Int)) : Option ((Int × Int × Int × (List Int)) ⊕ (Nat × Nat × Int × Int × Int × (List Int))) :=
  (Option.bind (xdr_Reader_bad (x.2.2.1, x.2.2.2.1, x.2.2.2.2.1, x.2.2.2.2.2)) fun r1 =>
  (cond r1.1
  (some (.inl (r1.2.1, r1.2.2.1, r1.2.2.2.1, r1.2.2.2.2)))
  (cond (decide ((wrapF .i64 ((((List.length r1.2.2.2.2) : Nat) : Int) - r1.2.1)) < x.1))
  (Option.bind (xdr_Reader_fails ((3 : Int), x.2.1, r1.2.1, r1.2.2.1, r1.2.2.2.1, r1.2.2.2.2)) fun r5 =>
  (some (.inl (r5.1, r5.2.1, r5.2.2.1, r5.2.2.2))))
  (let v6 : Int := (wrapF .i64 (r1.2.1 + x.1))
  (cond (((decide ((0 : Int) ≤ r1.2.1)) && (decide (r1.2.1 ≤ v6))) && (decide (v6 ≤ (((List.length r1.2.2.2.2) : Nat) : Int))))
  ((some (.inr (((Int.toNat r1.2.1), ((Int.toNat v6) - (Int.toNat r1.2.1)), (wrapF .i64 (r1.2.1 + x.1)), r1.2.2.1, r1.2.2.2.1, r1.2.2.2.2)))))
  none)))))
noncomputable def xdr_Reader_Uint (N : Nat) (x : Int × Int × Int × (List Int)) : Option (Int × Int × Int × Int × (List Int)) :=
  (Option.bind (xdr_Reader_At (x.1, x.2.1, x.2.2.1, x.2.2.2)) fun r1 =>
  (Option.bind (xdr_Reader_take ((4 : Int), r1.1, r1.2.1, r1.2.2.1, r1.2.2.2.1, r1.2.2.2.2)) fun r2 =>
  (match r2 with
  | .inl y3 =>
  (some ((0 : Int), y3.1, y3.2.1, y3.2.2.1, y3.2.2.2))
  | .inr z4 =>
  (agreeC (decide (z4.2.1 = 0)) false
  (some ((0 : Int), z4.2.2.1, z4.2.2.2.1, z4.2.2.2.2.1, z4.2.2.2.2.2))
  (cond (decide ((4 : Int) ≤ ((z4.2.1 : Nat) : Int)))
  ((let v5 : Nat := (0 + z4.1)
  (cond (cond (decide ((v5 + 4) ≤ (List.length z4.2.2.2.2.2))) true false)
  (Option.bind (octet_Get N (List.take 4 (List.drop v5 z4.2.2.2.2.2))) fun r6 =>
  (some ((wrapF .u32 r6), z4.2.2.1, z4.2.2.2.1, z4.2.2.2.2.1, z4.2.2.2.2.2)))
  none)))
  none)))))
noncomputable def xdr_Reader_length (N : Nat) (x : Int × Int × Int × Int × (List Int)) : Option (Int × Int × Int × Int × (List Int)) :=
  (Option.bind (xdr_Reader_At (x.2.1, x.2.2.1, x.2.2.2.1, x.2.2.2.2)) fun r1 =>
  (Option.bind (xdr_Reader_Uint N (r1.2.1, r1.2.2.1, r1.2.2.2.1, r1.2.2.2.2)) fun r2 =>
  (let v3 : Int := (wrapF .i64 r2.1)
  (Option.bind
  (Option.bind (xdr_Reader_bad (r2.2.1, r2.2.2.1, r2.2.2.2.1, r2.2.2.2.2)) fun r4 =>
  (cond (!r4.1)
  (some ((decide (x.1 < v3)), r4.2.1, r4.2.2.1, r4.2.2.2.1, r4.2.2.2.2))
  (some (false, r4.2.1, r4.2.2.1, r4.2.2.2.1, r4.2.2.2.2))))
  fun r7 =>
  (cond r7.1
  (Option.bind (xdr_Reader_fails ((1 : Int), r1.1, r7.2.1, r7.2.2.1, r7.2.2.2.1, r7.2.2.2.2)) fun r8 =>
  (some ((0 : Int), r8.1, r8.2.1, r8.2.2.1, r8.2.2.2)))
  (some (v3, r7.2.1, r7.2.2.1, r7.2.2.2.1, r7.2.2.2.2)))))))
noncomputable def xdr_Reader_fixed_b0 (N : Nat) (next : Int × Int × Nat × Nat × Nat × Nat × Int × Int × Int × Int × Int × (List Int) → Option ((Int × Int × Int × (List Int)) ⊕ (Int × Int × Int × (List Int)))) (x : Int × Int × Nat × Nat × Nat × Nat × Int × Int × Int × Int × Int × (List Int)) : Option ((Int × Int × Int × (List Int)) ⊕ (Int × Int × Int × (List Int))) :=
  (cond (decide (x.2.2.2.2.2.2.2.1 < x.2.2.2.2.2.2.1))
  (cond ((decide ((0 : Int) ≤ x.2.2.2.2.2.2.2.1)) && (decide (x.2.2.2.2.2.2.2.1 < ((x.2.2.2.2.2.1 : Nat) : Int))))
  ((let v2 : Nat := ((Int.toNat x.2.2.2.2.2.2.2.1) + x.2.2.2.2.1)
  (cond (decide (v2 < (List.length x.2.2.2.2.2.2.2.2.2.2.2)))
  ((cond (!(decide ((List.getD x.2.2.2.2.2.2.2.2.2.2.2 v2 (EK.dflt (.int .u8))) = (0 : Int))))
  (Option.bind (xdr_Reader_fails ((11 : Int), x.2.1, x.2.2.2.2.2.2.2.2.1, x.2.2.2.2.2.2.2.2.2.1, x.2.2.2.2.2.2.2.2.2.2.1, x.2.2.2.2.2.2.2.2.2.2.2)) fun r5 =>
  (some (.inl (r5.1, r5.2.1, r5.2.2.1, r5.2.2.2))))
  (next (x.1, x.2.1, x.2.2.1, x.2.2.2.1, x.2.2.2.2.1, x.2.2.2.2.2.1, x.2.2.2.2.2.2.1, (wrapF .i64 (x.2.2.2.2.2.2.2.1 + (1 : Int))), x.2.2.2.2.2.2.2.2.1, x.2.2.2.2.2.2.2.2.2.1, x.2.2.2.2.2.2.2.2.2.2.1, x.2.2.2.2.2.2.2.2.2.2.2))))
  none)))
  none)
  (some (.inr ((x.2.2.2.2.2.2.2.2.1, x.2.2.2.2.2.2.2.2.2.1, x.2.2.2.2.2.2.2.2.2.2.1, x.2.2.2.2.2.2.2.2.2.2.2)))))
noncomputable def xdr_Reader_fixed_l0 (N : Nat) : Int × Int × Nat × Nat × Nat × Nat × Int × Int × Int × Int × Int × (List Int) → Option ((Int × Int × Int × (List Int)) ⊕ (Int × Int × Int × (List Int))) := loopF (xdr_Reader_fixed_b0 N) N
noncomputable def xdr_Reader_fixed (N : Nat) (x : Int × Int × Int × Int × Int × (List Int)) : Option (Int × Int × Int × (List Int) × (List Int)) :=
  (Option.bind
  (Option.bind (xdr_Reader_bad (x.2.2.1, x.2.2.2.1, x.2.2.2.2.1, x.2.2.2.2.2)) fun r1 =>
  (cond r1.1
  (some (true, r1.2.1, r1.2.2.1, r1.2.2.2.1, r1.2.2.2.2))
  (some ((decide (x.1 ≤ (0 : Int))), r1.2.1, r1.2.2.1, r1.2.2.2.1, r1.2.2.2.2))))
  fun r3 =>
  (cond r3.1
  (some (r3.2.1, r3.2.2.1, r3.2.2.2.1, r3.2.2.2.2, ([] : List Int)))
  (cond (decide ((((List.length r3.2.2.2.2) : Nat) : Int) < x.1))
  (Option.bind (xdr_Reader_fails ((3 : Int), x.2.1, r3.2.1, r3.2.2.1, r3.2.2.2.1, r3.2.2.2.2)) fun r6 =>
  (some (r6.1, r6.2.1, r6.2.2.1, r6.2.2.2, ([] : List Int))))
  (Option.bind (xdr_padding x.1) fun r7 =>
  (Option.bind (xdr_Reader_take ((wrapF .i64 (x.1 + r7)), x.2.1, r3.2.1, r3.2.2.1, r3.2.2.2.1, r3.2.2.2.2)) fun r9 =>
  (match r9 with
  | .inl y10 =>
  (some (y10.1, y10.2.1, y10.2.2.1, y10.2.2.2, ([] : List Int)))
  | .inr z11 =>
  (agreeC (decide (z11.2.1 = 0)) false
  (some (z11.2.2.1, z11.2.2.2.1, z11.2.2.2.2.1, z11.2.2.2.2.2, ([] : List Int)))
  (cond (((decide ((0 : Int) ≤ x.1)) && (decide (x.1 ≤ ((z11.2.1 : Nat) : Int)))) && (decide (((z11.2.1 : Nat) : Int) ≤ ((z11.2.1 : Nat) : Int))))
  ((let v13 : Nat := (z11.2.1 - (Int.toNat x.1))
  (Option.bind (xdr_Reader_fixed_l0 N (x.1, x.2.1, z11.1, z11.2.1, ((Int.toNat x.1) + z11.1), v13, ((v13 : Nat) : Int), (0 : Int), z11.2.2.1, z11.2.2.2.1, z11.2.2.2.2.1, z11.2.2.2.2.2)) fun r15 =>
  (match r15 with
  | .inl y16 =>
  (some (y16.1, y16.2.1, y16.2.2.1, y16.2.2.2, ([] : List Int)))
  | .inr z17 =>
  (cond ((decide ((0 : Int) ≤ x.1)) && (decide (x.1 ≤ ((z11.2.1 : Nat) : Int))))
  ((let v18 : Nat := (0 + z11.1)
  (let v19 : Nat := (Int.toNat x.1)
  (cond (cond (decide ((v18 + v19) ≤ (List.length z17.2.2.2))) true false)
  (Option.bind (slices_Clone_byte_byte (List.take v19 (List.drop v18 z17.2.2.2))) fun r20 =>
  (some (z17.1, z17.2.1, z17.2.2.1, z17.2.2.2, r20)))
  none))))
  none)))))
  none))))))))
noncomputable def xdr_Reader_Opaque (N : Nat) (x : Int × Int × Int × Int × (List Int)) : Option (Int × Int × Int × (List Int) × (List Int)) :=
  (Option.bind (xdr_Reader_At (x.2.1, x.2.2.1, x.2.2.2.1, x.2.2.2.2)) fun r1 =>
  (Option.bind (xdr_Reader_length N (x.1, r1.2.1, r1.2.2.1, r1.2.2.2.1, r1.2.2.2.2)) fun r2 =>
  (Option.bind (xdr_Reader_fixed N (r2.1, r1.1, r2.2.1, r2.2.2.1, r2.2.2.2.1, r2.2.2.2.2)) fun r3 =>
  (some (r3.1, r3.2.1, r3.2.2.1, r3.2.2.2.1, r3.2.2.2.2)))))
noncomputable def rpc_getAuth (N : Nat) (x : Int × Int × Int × (List Int)) : Option (Int × Int × Int × Int × (List Int) × (List Int)) :=
  (Option.bind (xdr_Reader_Uint N (x.1, x.2.1, x.2.2.1, x.2.2.2)) fun r1 =>
  (Option.bind (xdr_Reader_Opaque N ((400 : Int), r1.2.1, r1.2.2.1, r1.2.2.2.1, r1.2.2.2.2)) fun r2 =>
  (some (r1.1, r2.1, r2.2.1, r2.2.2.1, r2.2.2.2.1, r2.2.2.2.2))))
noncomputable def xdr_Reader_Why (x : Int × Int × Int × (List Int)) : Option (Int × Int × Int × Int × Int × (List Int)) :=
  (some (x.2.1, x.2.2.1, x.1, x.2.1, x.2.2.1, x.2.2.2))
noncomputable def xdr_Reader_Text (N : Nat) (x : Int × Int × Int × Int × (List Int)) : Option ((List UInt8) × Int × Int × Int × (List Int)) :=
  (Option.bind (xdr_Reader_Opaque N (x.1, x.2.1, x.2.2.1, x.2.2.2.1, x.2.2.2.2)) fun r2 =>
  (some ((List.map (fun (n : Int) => UInt8.ofNat n.toNat) r2.2.2.2.2), r2.1, r2.2.1, r2.2.2.1, r2.2.2.2.1)))
noncomputable def rpc_getGid (N : Nat) (x : Int × Int × Int × (List Int)) : Option (Int × Int × Int × Int × (List Int)) :=
  (Option.bind (xdr_Reader_Uint N (x.1, x.2.1, x.2.2.1, x.2.2.2)) fun r1 =>
  (some (r1.1, r1.2.1, r1.2.2.1, r1.2.2.2.1, r1.2.2.2.2)))
noncomputable def xdr_List_uint32_b0 (N : Nat) (next : Int × Int × Int × Int × Int × (List Int) × (List Int) → Option ((Int × Int × Int × (List Int) × (List Int)))) (x : Int × Int × Int × Int × Int × (List Int) × (List Int)) : Option ((Int × Int × Int × (List Int) × (List Int))) :=
  (cond (decide (x.2.1 < x.1))
  (Option.bind (xdr_Reader_bad (x.2.2.1, x.2.2.2.1, x.2.2.2.2.1, x.2.2.2.2.2.1)) fun r2 =>
  (cond r2.1
  (some (r2.2.1, r2.2.2.1, r2.2.2.2.1, r2.2.2.2.2, x.2.2.2.2.2.2))
  (Option.bind (rpc_getGid N (r2.2.1, r2.2.2.1, r2.2.2.2.1, r2.2.2.2.2)) fun r3 =>
  (let v4 : List Int := ([r3.1] : List Int)
  (cond ((decide (1 ≤ (List.length v4))) && (fits 4 ((List.length x.2.2.2.2.2.2) + (List.length (List.take 1 (List.drop 0 v4))))))
  ((next (x.1, (wrapF .i64 (x.2.1 + (1 : Int))), r3.2.1, r3.2.2.1, r3.2.2.2.1, r3.2.2.2.2, (x.2.2.2.2.2.2 ++ (List.take 1 (List.drop 0 v4))))))
  none)))))
  (some (x.2.2.1, x.2.2.2.1, x.2.2.2.2.1, x.2.2.2.2.2.1, x.2.2.2.2.2.2)))
noncomputable def xdr_List_uint32_l0 (N : Nat) : Int × Int × Int × Int × Int × (List Int) × (List Int) → Option ((Int × Int × Int × (List Int) × (List Int))) := loopF (xdr_List_uint32_b0 N) N
noncomputable def xdr_List_uint32 (N : Nat) (x : Int × Int × Int × Int × (List Int)) : Option (Int × Int × Int × (List Int) × (List Int)) :=
  (Option.bind (xdr_Reader_length N (x.1, x.2.1, x.2.2.1, x.2.2.2.1, x.2.2.2.2)) fun r1 =>
  (Option.bind (xdr_List_uint32_l0 N (r1.1, (0 : Int), r1.2.1, r1.2.2.1, r1.2.2.2.1, r1.2.2.2.2, ([] : List Int))) fun r2 =>
  (Option.bind (xdr_Reader_bad (r2.1, r2.2.1, r2.2.2.1, r2.2.2.2.1)) fun r3 =>
  (cond r3.1
  (some (r3.2.1, r3.2.2.1, r3.2.2.2.1, r3.2.2.2.2, ([] : List Int)))
  (some (r3.2.1, r3.2.2.1, r3.2.2.2.1, r3.2.2.2.2, r2.2.2.2.2))))))
noncomputable def xdr_Reader_Done (x : Int × Int × Int × (List Int)) : Option (Int × Int × Int × Int × (List Int)) :=
  (Option.bind
  (cond (decide (x.2.1 = (0 : Int)))
  (some (decide (x.1 < (((List.length x.2.2.2) : Nat) : Int))))
  (some false))
  fun r4 =>
  (cond r4
  (some ((4 : Int), x.1, x.2.1, x.2.2.1, x.2.2.2))
  (some (x.2.1, x.1, x.2.1, x.2.2.1, x.2.2.2))))
noncomputable def rpc_GetCred (N : Nat) (x : Int × (List Int)) : Option (Int × Int × (List UInt8) × Int × Int × Int × (List Int)) :=
  (cond (decide (x.1 = (0 : Int)))
  (cond (decide ((0 : Int) < (((List.length x.2) : Nat) : Int)))
  (some ((0 : Int), (0 : Int), ([] : List UInt8), (0 : Int), (0 : Int), (1 : Int), ([] : List Int)))
  (some ((0 : Int), (0 : Int), ([] : List UInt8), (0 : Int), (0 : Int), (0 : Int), ([] : List Int))))
  (cond (decide (x.1 = (1 : Int)))
  (Option.bind (xdr_NewReader x.2) fun r8 =>
  (Option.bind (xdr_Reader_Uint N ((0 : Int), (0 : Int), (0 : Int), r8)) fun r9 =>
  (Option.bind (xdr_Reader_Text N ((64 : Int), r9.2.1, r9.2.2.1, r9.2.2.2.1, r9.2.2.2.2)) fun r10 =>
  (Option.bind (xdr_Reader_Uint N (r10.2.1, r10.2.2.1, r10.2.2.2.1, r10.2.2.2.2)) fun r11 =>
  (Option.bind (xdr_Reader_Uint N (r11.2.1, r11.2.2.1, r11.2.2.2.1, r11.2.2.2.2)) fun r12 =>
  (Option.bind (xdr_List_uint32 N ((16 : Int), r12.2.1, r12.2.2.1, r12.2.2.2.1, r12.2.2.2.2)) fun r13 =>
  (Option.bind (xdr_Reader_Done (r13.1, r13.2.1, r13.2.2.1, r13.2.2.2.1)) fun r15 =>
  (cond (!(decide (r15.1 = (0 : Int))))
  (some ((0 : Int), (0 : Int), ([] : List UInt8), (0 : Int), (0 : Int), (1 : Int), ([] : List Int)))
  (some ((1 : Int), r9.1, r10.1, r11.1, r12.1, (0 : Int), r13.2.2.2.2))))))))))
  (some ((0 : Int), (0 : Int), ([] : List UInt8), (0 : Int), (0 : Int), (2 : Int), ([] : List Int)))))
noncomputable def xdr_Reader_Left (x : Int × Int × Int × (List Int)) : Option (Int × Int × Int × Int × (List Int)) :=
  (some ((wrapF .i64 ((((List.length x.2.2.2) : Nat) : Int) - x.1)), x.1, x.2.1, x.2.2.1, x.2.2.2))
noncomputable def rpc_rest (x : (List Int) × Int × Int × Int × (List Int)) : Option (Int × Int × Int × (List Int) × (List Int)) :=
  (Option.bind (xdr_Reader_Left (x.2.1, x.2.2.1, x.2.2.2.1, x.2.2.2.2)) fun r1 =>
  (cond (decide (r1.1 = (0 : Int)))
  (some (r1.2.1, r1.2.2.1, r1.2.2.2.1, r1.2.2.2.2, ([] : List Int)))
  (Option.bind (xdr_Reader_At (r1.2.1, r1.2.2.1, r1.2.2.2.1, r1.2.2.2.2)) fun r3 =>
  (cond (((decide ((0 : Int) ≤ r3.1)) && (decide (r3.1 ≤ (((List.length x.1) : Nat) : Int)))) && (decide ((((List.length x.1) : Nat) : Int) ≤ (((List.length x.1) : Nat) : Int))))
  ((Option.bind (slices_Clone_byte_byte_v1 (List.take ((List.length x.1) - (Int.toNat r3.1)) (List.drop (Int.toNat r3.1) x.1))) fun r5 =>
  (some (r3.2.1, r3.2.2.1, r3.2.2.2.1, r3.2.2.2.2, r5))))
  none))))
noncomputable def rpc_Classify (N : Nat) (x : (List Int)) : Option (Int × Int × Int × Int × Int × Int × Int × Int × Int × Int × Int × Int × Int × Int × Int × (List UInt8) × Int × Int × (List Int) × (List Int) × (List Int) × (List Int)) :=
  (Option.bind (xdr_NewReader x) fun r2 =>
  (Option.bind (xdr_Reader_Uint N ((0 : Int), (0 : Int), (0 : Int), r2)) fun r3 =>
  (Option.bind (xdr_Reader_Uint N (r3.2.1, r3.2.2.1, r3.2.2.2.1, r3.2.2.2.2)) fun r4 =>
  (Option.bind (xdr_Reader_Uint N (r4.2.1, r4.2.2.1, r4.2.2.2.1, r4.2.2.2.2)) fun r5 =>
  (let v6 : Int := (((List.length x) : Nat) : Int)
  (Option.bind
  (cond (decide (v6 < (8 : Int)))
  (some true)
  (cond (!(decide (r4.1 = (0 : Int))))
  (some true)
  (cond (decide (v6 < (24 : Int)))
  (cond (decide (r5.1 = (2 : Int)))
  (some true)
  (some (decide (v6 < (12 : Int)))))
  (some false))))
  fun r12 =>
  (cond r12
  (some ((0 : Int), (0 : Int), (0 : Int), (0 : Int), (0 : Int), (0 : Int), (0 : Int), (0 : Int), (0 : Int), (0 : Int), (0 : Int), (0 : Int), (0 : Int), (0 : Int), (0 : Int), ([] : List UInt8), (0 : Int), (0 : Int), ([] : List Int), ([] : List Int), ([] : List Int), ([] : List Int)))
  (cond (!(decide (r5.1 = (2 : Int))))
  (some ((1 : Int), r3.1, (6 : Int), (2 : Int), (2 : Int), (0 : Int), (0 : Int), (0 : Int), (0 : Int), (0 : Int), (0 : Int), (0 : Int), (0 : Int), (0 : Int), (0 : Int), ([] : List UInt8), (0 : Int), (0 : Int), ([] : List Int), ([] : List Int), ([] : List Int), ([] : List Int)))
  (Option.bind (xdr_Reader_Uint N (r5.2.1, r5.2.2.1, r5.2.2.2.1, r5.2.2.2.2)) fun r16 =>
  (Option.bind (xdr_Reader_Uint N (r16.2.1, r16.2.2.1, r16.2.2.2.1, r16.2.2.2.2)) fun r17 =>
  (Option.bind (xdr_Reader_Uint N (r17.2.1, r17.2.2.1, r17.2.2.2.1, r17.2.2.2.2)) fun r18 =>
  (Option.bind (rpc_getAuth N (r18.2.1, r18.2.2.1, r18.2.2.2.1, r18.2.2.2.2)) fun r19 =>
  (Option.bind (xdr_Reader_Why (r19.2.1, r19.2.2.1, r19.2.2.2.1, r19.2.2.2.2.1)) fun r20 =>
  (cond (!(decide (r20.1 = (0 : Int))))
  (some ((1 : Int), r3.1, (7 : Int), (0 : Int), (0 : Int), (1 : Int), (0 : Int), (0 : Int), (0 : Int), (0 : Int), (0 : Int), (0 : Int), (0 : Int), (0 : Int), (0 : Int), ([] : List UInt8), (0 : Int), (0 : Int), ([] : List Int), ([] : List Int), ([] : List Int), ([] : List Int)))
  (Option.bind (rpc_GetCred N (r19.1, r19.2.2.2.2.2)) fun r23 =>
  (Option.bind
  (cond (decide (r23.2.2.2.2.2.1 = (0 : Int)))
  (Option.bind (rpc_getAuth N (r20.2.2.1, r20.2.2.2.1, r20.2.2.2.2.1, r20.2.2.2.2.2)) fun r26 =>
  (Option.bind (xdr_Reader_Why (r26.2.1, r26.2.2.1, r26.2.2.2.1, r26.2.2.2.2.1)) fun r27 =>
  (Option.bind
  (cond (!(decide (r27.1 = (0 : Int))))
  (some true)
  (cond (!(decide (r26.1 = (0 : Int))))
  (some true)
  (some (decide ((0 : Int) < (((List.length r26.2.2.2.2.2) : Nat) : Int))))))
  fun r32 =>
  (Option.bind
  (cond r32
  (some (3 : Int))
  (some r23.2.2.2.2.2.1))
  fun r33 =>
  (some (r33, r27.2.2.1, r27.2.2.2.1, r27.2.2.2.2.1, r27.2.2.2.2.2, r26.1, r26.2.2.2.2.2))))))
  (some (r23.2.2.2.2.2.1, r20.2.2.1, r20.2.2.2.1, r20.2.2.2.2.1, r20.2.2.2.2.2, (0 : Int), ([] : List Int))))
  fun r34 =>
  (cond (!(decide (r34.1 = (0 : Int))))
  (some ((1 : Int), r3.1, (7 : Int), (0 : Int), (0 : Int), r34.1, (0 : Int), (0 : Int), (0 : Int), (0 : Int), (0 : Int), (0 : Int), (0 : Int), (0 : Int), (0 : Int), ([] : List UInt8), (0 : Int), (0 : Int), ([] : List Int), ([] : List Int), ([] : List Int), ([] : List Int)))
  (Option.bind
  (cond (decide (r16.1 = (100003 : Int)))
  (some (22 : Int))
  (Option.bind
  (cond (decide (r16.1 = (100005 : Int)))
  (some (4 : Int))
  (some (0 : Int)))
  fun r39 =>
  (some r39)))
  fun r40 =>
  (Option.bind
  (cond (decide (r40 = (0 : Int)))
  (some ((1 : Int), (0 : Int), (0 : Int)))
  (Option.bind
  (cond (!(decide (r17.1 = (3 : Int))))
  (some ((2 : Int), (3 : Int), (3 : Int)))
  (Option.bind
  (cond (decide (r40 ≤ r18.1))
  (some (3 : Int))
  (some (0 : Int)))
  fun r44 =>
  (some (r44, (0 : Int), (0 : Int)))))
  fun r45 =>
  (some (r45.1, r45.2.1, r45.2.2))))
  fun r46 =>
  (cond (!(decide (r46.1 = (0 : Int))))
  (some ((1 : Int), r3.1, r46.1, r46.2.1, r46.2.2, (0 : Int), (0 : Int), (0 : Int), (0 : Int), (0 : Int), (0 : Int), (0 : Int), (0 : Int), (0 : Int), (0 : Int), ([] : List UInt8), (0 : Int), (0 : Int), ([] : List Int), ([] : List Int), ([] : List Int), ([] : List Int)))
  (Option.bind (rpc_rest (x, r34.2.1, r34.2.2.1, r34.2.2.2.1, r34.2.2.2.2.1)) fun r49 =>
  (some ((2 : Int), (0 : Int), (0 : Int), (0 : Int), (0 : Int), (0 : Int), r3.1, r5.1, r16.1, r17.1, r18.1, r19.1, r34.2.2.2.2.2.1, r23.1, r23.2.1, r23.2.2.1, r23.2.2.2.1, r23.2.2.2.2.1, r19.2.2.2.2.2, r34.2.2.2.2.2.2, r49.2.2.2.2, r23.2.2.2.2.2.2)))))))))))))))))))))))
noncomputable def granarylaw21_num (x : Int) : Option (Int) :=
  (some x)
noncomputable def rpc_Classify_v1 (N : Nat) (x : (List Int)) : Option (Int × Int × Int × Int × Int × Int × Int × Int × Int × Int × Int × Int × Int × Int × Int × (List UInt8) × Int × Int × (List Int) × (List Int) × (List Int) × (List Int)) :=
  (Option.bind (xdr_NewReader x) fun r2 =>
  (Option.bind (xdr_Reader_Uint N ((0 : Int), (0 : Int), (0 : Int), r2)) fun r3 =>
  (Option.bind (xdr_Reader_Uint N (r3.2.1, r3.2.2.1, r3.2.2.2.1, r3.2.2.2.2)) fun r4 =>
  (Option.bind (xdr_Reader_Uint N (r4.2.1, r4.2.2.1, r4.2.2.2.1, r4.2.2.2.2)) fun r5 =>
  (let v6 : Int := (((List.length x) : Nat) : Int)
  (Option.bind
  (cond (decide (v6 < (8 : Int)))
  (some true)
  (cond (!(decide (r4.1 = (0 : Int))))
  (some true)
  (cond (decide (v6 < (24 : Int)))
  (cond (decide (r5.1 = (2 : Int)))
  (some true)
  (some (decide (v6 < (12 : Int)))))
  (some false))))
  fun r12 =>
  (cond r12
  (some ((0 : Int), (0 : Int), (0 : Int), (0 : Int), (0 : Int), (0 : Int), (0 : Int), (0 : Int), (0 : Int), (0 : Int), (0 : Int), (0 : Int), (0 : Int), (0 : Int), (0 : Int), ([] : List UInt8), (0 : Int), (0 : Int), ([] : List Int), ([] : List Int), ([] : List Int), ([] : List Int)))
  (cond (!(decide (r5.1 = (2 : Int))))
  (some ((1 : Int), r3.1, (6 : Int), (2 : Int), (2 : Int), (0 : Int), (0 : Int), (0 : Int), (0 : Int), (0 : Int), (0 : Int), (0 : Int), (0 : Int), (0 : Int), (0 : Int), ([] : List UInt8), (0 : Int), (0 : Int), ([] : List Int), ([] : List Int), ([] : List Int), ([] : List Int)))
  (Option.bind (xdr_Reader_Uint N (r5.2.1, r5.2.2.1, r5.2.2.2.1, r5.2.2.2.2)) fun r16 =>
  (Option.bind (xdr_Reader_Uint N (r16.2.1, r16.2.2.1, r16.2.2.2.1, r16.2.2.2.2)) fun r17 =>
  (Option.bind (xdr_Reader_Uint N (r17.2.1, r17.2.2.1, r17.2.2.2.1, r17.2.2.2.2)) fun r18 =>
  (Option.bind (rpc_getAuth N (r18.2.1, r18.2.2.1, r18.2.2.2.1, r18.2.2.2.2)) fun r19 =>
  (Option.bind (xdr_Reader_Why (r19.2.1, r19.2.2.1, r19.2.2.2.1, r19.2.2.2.2.1)) fun r20 =>
  (cond (!(decide (r20.1 = (0 : Int))))
  (some ((1 : Int), r3.1, (7 : Int), (0 : Int), (0 : Int), (1 : Int), (0 : Int), (0 : Int), (0 : Int), (0 : Int), (0 : Int), (0 : Int), (0 : Int), (0 : Int), (0 : Int), ([] : List UInt8), (0 : Int), (0 : Int), ([] : List Int), ([] : List Int), ([] : List Int), ([] : List Int)))
  (Option.bind (rpc_GetCred N (r19.1, r19.2.2.2.2.2)) fun r23 =>
  (Option.bind
  (cond (decide (r23.2.2.2.2.2.1 = (0 : Int)))
  (Option.bind (rpc_getAuth N (r20.2.2.1, r20.2.2.2.1, r20.2.2.2.2.1, r20.2.2.2.2.2)) fun r26 =>
  (Option.bind (xdr_Reader_Why (r26.2.1, r26.2.2.1, r26.2.2.2.1, r26.2.2.2.2.1)) fun r27 =>
  (Option.bind
  (cond (!(decide (r27.1 = (0 : Int))))
  (some true)
  (cond (!(decide (r26.1 = (0 : Int))))
  (some true)
  (some (decide ((0 : Int) < (((List.length r26.2.2.2.2.2) : Nat) : Int))))))
  fun r32 =>
  (Option.bind
  (cond r32
  (some (3 : Int))
  (some r23.2.2.2.2.2.1))
  fun r33 =>
  (some (r33, r27.2.2.1, r27.2.2.2.1, r27.2.2.2.2.1, r27.2.2.2.2.2, r26.1, r26.2.2.2.2.2))))))
  (some (r23.2.2.2.2.2.1, r20.2.2.1, r20.2.2.2.1, r20.2.2.2.2.1, r20.2.2.2.2.2, (0 : Int), ([] : List Int))))
  fun r34 =>
  (cond (!(decide (r34.1 = (0 : Int))))
  (some ((1 : Int), r3.1, (7 : Int), (0 : Int), (0 : Int), r34.1, (0 : Int), (0 : Int), (0 : Int), (0 : Int), (0 : Int), (0 : Int), (0 : Int), (0 : Int), (0 : Int), ([] : List UInt8), (0 : Int), (0 : Int), ([] : List Int), ([] : List Int), ([] : List Int), ([] : List Int)))
  (Option.bind
  (cond (decide (r16.1 = (100003 : Int)))
  (some (22 : Int))
  (Option.bind
  (cond (decide (r16.1 = (100005 : Int)))
  (some (4 : Int))
  (some (0 : Int)))
  fun r39 =>
  (some r39)))
  fun r40 =>
  (Option.bind
  (cond (decide (r40 = (0 : Int)))
  (some ((1 : Int), (0 : Int), (0 : Int)))
  (Option.bind
  (cond (!(decide (r17.1 = (3 : Int))))
  (some ((2 : Int), (3 : Int), (3 : Int)))
  (Option.bind
  (cond (decide (r40 ≤ r18.1))
  (some (3 : Int))
  (some (0 : Int)))
  fun r44 =>
  (some (r44, (0 : Int), (0 : Int)))))
  fun r45 =>
  (some (r45.1, r45.2.1, r45.2.2))))
  fun r46 =>
  (cond (!(decide (r46.1 = (0 : Int))))
  (some ((1 : Int), r3.1, r46.1, r46.2.1, r46.2.2, (0 : Int), (0 : Int), (0 : Int), (0 : Int), (0 : Int), (0 : Int), (0 : Int), (0 : Int), (0 : Int), (0 : Int), ([] : List UInt8), (0 : Int), (0 : Int), ([] : List Int), ([] : List Int), ([] : List Int), ([] : List Int)))
  (Option.bind (rpc_rest (x, r34.2.1, r34.2.2.1, r34.2.2.2.1, r34.2.2.2.2.1)) fun r49 =>
  (some ((2 : Int), (0 : Int), (0 : Int), (0 : Int), (0 : Int), (0 : Int), r3.1, r5.1, r16.1, r17.1, r18.1, r19.1, r34.2.2.2.2.2.1, r23.1, r23.2.1, r23.2.2.1, r23.2.2.2.1, r23.2.2.2.2.1, r19.2.2.2.2.2, r34.2.2.2.2.2.2, r49.2.2.2.2, r23.2.2.2.2.2.2)))))))))))))))))))))))
noncomputable def rpc_Frame_b0 (N : Nat) (next : (List Int) × Int × (List Int) × Int × Int × (List Int) → Option (((List Int) × (List Int)))) (x : (List Int) × Int × (List Int) × Int × Int × (List Int)) : Option (((List Int) × (List Int))) :=
  (cond (decide (x.2.2.2.2.1 < x.2.2.2.1))
  (Option.bind
  (cond ((decide ((0 : Int) ≤ x.2.2.2.2.1)) && (decide (x.2.2.2.2.1 < (((List.length x.2.2.1) : Nat) : Int))))
  ((let v2 : Int := (List.getD x.2.2.1 (Int.toNat x.2.2.2.2.1) (EK.dflt (.int .i64)))
  (Option.bind
  (cond (decide (v2 ≤ (0 : Int)))
  (some true)
  (cond (decide ((((List.length x.1) : Nat) : Int) ≤ v2))
  (some true)
  (some (decide ((32 : Int) ≤ x.2.1)))))
  fun r7 =>
  (cond r7
  (some (x.1, x.2.1, x.2.2.2.2.2))
  (Option.bind (octet_Put_v1 N ((wrapF .u64 v2), (4 : Int), x.2.2.2.2.2)) fun r9 =>
  (cond ((decide ((0 : Int) ≤ v2)) && (decide (v2 ≤ (((List.length x.1) : Nat) : Int))))
  ((let v10 : List Int := (List.take (Int.toNat v2) (List.drop 0 x.1))
  (cond (fits 1 ((List.length r9) + (List.length v10)))
  ((cond (((decide ((0 : Int) ≤ v2)) && (decide (v2 ≤ (((List.length x.1) : Nat) : Int)))) && (decide ((((List.length x.1) : Nat) : Int) ≤ (((List.length x.1) : Nat) : Int))))
  ((some ((List.take ((List.length x.1) - (Int.toNat v2)) (List.drop (Int.toNat v2) x.1)), (wrapF .i64 (x.2.1 + (1 : Int))), (r9 ++ v10))))
  none))
  none)))
  none))))))
  none)
  fun r14 =>
  (next (r14.1, r14.2.1, x.2.2.1, x.2.2.2.1, (wrapF .i64 (x.2.2.2.2.1 + (1 : Int))), r14.2.2)))
  (some (x.1, x.2.2.2.2.2)))
noncomputable def rpc_Frame_l0 (N : Nat) : (List Int) × Int × (List Int) × Int × Int × (List Int) → Option (((List Int) × (List Int))) := loopF (rpc_Frame_b0 N) N
noncomputable def rpc_Frame (N : Nat) (x : (List Int) × (List Int)) : Option ((List Int)) :=
  (Option.bind (rpc_Frame_l0 N (x.1, (1 : Int), x.2, (((List.length x.2) : Nat) : Int), (0 : Int), ([] : List Int))) fun r2 =>
  (Option.bind (octet_Put_v1 N ((wrapF .u64 (orF .u32 (2147483648 : Int) (wrapF .u32 (((List.length r2.1) : Nat) : Int)))), (4 : Int), r2.2)) fun r7 =>
  (cond (fits 1 ((List.length r7) + (List.length r2.1)))
  ((some (r7 ++ r2.1)))
  none)))
noncomputable def granarylaw21_live (N : Nat) (x : Unit) : Option (Bool) :=
  (Option.bind (rpc_NewFramer ()) fun r1 =>
  (let v2 : List Int := ([(0 : Int), (0 : Int), (0 : Int), (1 : Int), (97 : Int)] : List Int)
  (cond (((decide (5 ≤ (List.length v2))) && true) && true)
  (Option.bind (rpc_Framer_Feed N ((List.take 5 (List.drop 0 v2)), (0 : Int), false, (0 : Int), (0 : Int), false)) fun r3 =>
  (let v4 : List Int := ([(128 : Int), (0 : Int), (0 : Int), (1 : Int), (98 : Int)] : List Int)
  (cond (((decide (5 ≤ (List.length v4))) && true) && true)
  (Option.bind (rpc_Framer_Feed_v1 N ((List.take 5 (List.drop 0 v4)), r3.2.1, r3.2.2.1, r3.2.2.2.1, r3.2.2.2.2.1, r3.2.2.2.2.2.1, r3.2.2.2.2.2.2.2.1, r3.2.2.2.2.2.2.2.2)) fun r5 =>
  (Option.bind (rpc_PutCall N ((9 : Int), (2 : Int), (100003 : Int), (3 : Int), (1 : Int), (0 : Int), ([] : List Int), (0 : Int), ([] : List Int), ([] : List Int))) fun r6 =>
  (Option.bind (rpc_Classify N r6.2) fun r7 =>
  (Option.bind
  (Option.bind (granarylaw21_num r3.1) fun r9 =>
  (cond (decide (r9 = (0 : Int)))
  (cond (decide ((((List.length r3.2.2.2.2.2.2.1) : Nat) : Int) = (0 : Int)))
  (Option.bind (granarylaw21_num r5.1) fun r13 =>
  (cond (decide (r13 = (0 : Int)))
  (cond (decide ((((List.length r5.2.2.2.2.2.2.1) : Nat) : Int) = (1 : Int)))
  (cond (decide ((0 : Int) < (((List.length r5.2.2.2.2.2.2.1) : Nat) : Int)))
  ((cond (decide (0 < (List.length r5.2.2.2.2.2.2.1)))
  ((cond (decide ((List.map (fun (n : Int) => UInt8.ofNat n.toNat) (List.getD r5.2.2.2.2.2.2.1 0 (EK.dflt (.sl (.int .u8))))) = ([97, 98] : List UInt8)))
  (Option.bind (granarylaw21_num r6.1) fun r20 =>
  (cond (decide (r20 = (0 : Int)))
  (cond (decide (r7.1 = (2 : Int)))
  (cond (decide (r7.2.2.2.2.2.2.1 = (9 : Int)))
  (Option.bind (rpc_Classify_v1 N ([] : List Int)) fun r24 =>
  (cond (decide (r24.1 = (0 : Int)))
  (let v26 : List Int := ([(97 : Int), (98 : Int), (99 : Int)] : List Int)
  (let v27 : List Int := ([(1 : Int)] : List Int)
  (cond (cond (decide (3 ≤ (List.length v26))) (cond (decide (1 ≤ (List.length v27))) true false) false)
  (Option.bind (rpc_Frame N ((List.take 3 (List.drop 0 v26)), (List.take 1 (List.drop 0 v27)))) fun r28 =>
  (some (decide ((List.map (fun (n : Int) => UInt8.ofNat n.toNat) r28) = ([0, 0, 0, 1, 97, 128, 0, 0, 2, 98, 99] : List UInt8)))))
  none)))
  (some false)))
  (some false))
  (some false))
  (some false)))
  (some false)))
  none))
  none)
  (some false))
  (some false)))
  (some false))
  (some false)))
  fun r31 =>
  (some r31)))))
  none)))
  none)))
noncomputable def granaryref21_Same_b0 (N : Nat) (next : (List (List Int)) × (List (List Int)) × Int → Option (Unit ⊕ Unit)) (x : (List (List Int)) × (List (List Int)) × Int) : Option (Unit ⊕ Unit) :=
  (cond (decide (x.2.2 < (((List.length x.1) : Nat) : Int)))
  (cond ((decide ((0 : Int) ≤ x.2.2)) && (decide (x.2.2 < (((List.length x.1) : Nat) : Int))))
  ((cond ((decide ((0 : Int) ≤ x.2.2)) && (decide (x.2.2 < (((List.length x.2.1) : Nat) : Int))))
  ((cond (!(decide ((List.map (fun (n : Int) => UInt8.ofNat n.toNat) (List.getD x.1 (Int.toNat x.2.2) (EK.dflt (.sl (.int .u8))))) = (List.map (fun (n : Int) => UInt8.ofNat n.toNat) (List.getD x.2.1 (Int.toNat x.2.2) (EK.dflt (.sl (.int .u8))))))))
  (some (.inl ()))
  (next (x.1, x.2.1, (wrapF .i64 (x.2.2 + (1 : Int)))))))
  none))
  none)
  (some (.inr (()))))
noncomputable def granaryref21_Same_l0 (N : Nat) : (List (List Int)) × (List (List Int)) × Int → Option (Unit ⊕ Unit) := loopF (granaryref21_Same_b0 N) N
noncomputable def granaryref21_Same (N : Nat) (x : (List (List Int)) × (List (List Int))) : Option (Bool) :=
  (cond (!(decide ((((List.length x.1) : Nat) : Int) = (((List.length x.2) : Nat) : Int))))
  (some false)
  (Option.bind (granaryref21_Same_l0 N (x.1, x.2, (0 : Int))) fun r4 =>
  (match r4 with
  | .inl y5 =>
  (some false)
  | .inr z6 =>
  (some true))))
noncomputable def rpc_Framer_Closed_v1 (x : Int × Bool × Int × Int × Bool × (List Int) × (List Int)) : Option (Bool × Int × Bool × Int × Int × Bool × (List Int) × (List Int)) :=
  (some (x.2.2.2.2.1, x.1, x.2.1, x.2.2.1, x.2.2.2.1, x.2.2.2.2.1, x.2.2.2.2.2.1, x.2.2.2.2.2.2))
noncomputable def rpc_Framer_Left_v1 (x : Int × Bool × Int × Int × Bool × (List Int) × (List Int)) : Option (Int × Int × Bool × Int × Int × Bool × (List Int) × (List Int)) :=
  (some (x.2.2.2.1, x.1, x.2.1, x.2.2.1, x.2.2.2.1, x.2.2.2.2.1, x.2.2.2.2.2.1, x.2.2.2.2.2.2))
noncomputable def granarylaw21_huge_b0 (N : Nat) (next : (List (List Int)) × Int × Int → Option (Int)) (x : (List (List Int)) × Int × Int) : Option (Int) :=
  (Option.bind
  (cond (decide (x.2.2 < (((List.length x.1) : Nat) : Int)))
  (some (decide (x.2.2 ≤ (60 : Int))))
  (some false))
  fun r4 =>
  (cond r4
  (cond ((decide ((0 : Int) ≤ x.2.2)) && (decide (x.2.2 < (((List.length x.1) : Nat) : Int))))
  ((next (x.1, (wrapF .i64 (x.2.1 + (((List.length (List.getD x.1 (Int.toNat x.2.2) (EK.dflt (.sl (.int .u8))))) : Nat) : Int))), (wrapF .i64 (x.2.2 + (1 : Int))))))
  none)
  (some x.2.1)))
noncomputable def granarylaw21_huge_l0 (N : Nat) : (List (List Int)) × Int × Int → Option (Int) := loopF (granarylaw21_huge_b0 N) N
noncomputable def granarylaw21_huge (N : Nat) (x : (List (List Int))) : Option (Bool) :=
  (Option.bind (granarylaw21_huge_l0 N (x, (0 : Int), (0 : Int))) fun r1 =>
  (Option.bind
  (cond (decide ((60 : Int) < (((List.length x) : Nat) : Int)))
  (some true)
  (some (decide ((20000 : Int) < r1))))
  fun r5 =>
  (some r5)))
noncomputable def rpc_Framer_Feed_v3_b1 (N : Nat) (next : (List Int) × Bool × Int × Bool × Int × Int × Bool × (List (List Int)) × (List Int) → Option ((Int × Bool × Int × Int × Bool × (List (List Int)) × (List Int) × (List Int)) ⊕ ((List (List Int))))) (x : (List Int) × Bool × Int × Bool × Int × Int × Bool × (List (List Int)) × (List Int)) : Option ((Int × Bool × Int × Int × Bool × (List (List Int)) × (List Int) × (List Int)) ⊕ ((List (List Int)))) :=
  (cond (decide ((0 : Int) < (((List.length x.1) : Nat) : Int)))
  (Option.bind
  ((Option.bind
  ((cond (!x.2.1)
  (let v4 : Int := (((List.length x.1) : Nat) : Int)
  (let v5 : Int := (if v4 < (4 : Int) then v4 else (4 : Int))
  (cond ((decide ((0 : Int) ≤ v5)) && (decide (v5 ≤ (((List.length x.1) : Nat) : Int))))
  ((let v6 : List Int := (List.take (Int.toNat v5) (List.drop 0 x.1))
  (cond (fits 1 (List.length v6))
  ((cond (((decide ((0 : Int) ≤ v5)) && (decide (v5 ≤ (((List.length x.1) : Nat) : Int)))) && (decide ((((List.length x.1) : Nat) : Int) ≤ (((List.length x.1) : Nat) : Int))))
  ((let v8 : Int := (wrapF .i64 (x.2.2.2.2.2.1 + v5))
  (cond (decide ((((List.length v6) : Nat) : Int) < (4 : Int)))
  (some (.inr (.inl (x.2.2.1, x.2.2.2.1, x.2.2.2.2.1, v8, x.2.2.2.2.2.2.1, x.2.2.2.2.2.2.2.2, v6))))
  (Option.bind (rpc_Framer_begins_v1 N (x.2.2.1, x.2.2.2.1, x.2.2.2.2.1, v8, x.2.2.2.2.2.2.1, v6, x.2.2.2.2.2.2.2.2)) fun r11 =>
  (cond (!r11.1)
  (some (.inr (.inr (r11.2.2.2.2.2.2.2))))
  (some (.inl ((List.take ((List.length x.1) - (Int.toNat v5)) (List.drop (Int.toNat v5) x.1)), r11.2.1, r11.2.2.1, r11.2.2.2.1, r11.2.2.2.2.1, r11.2.2.2.2.2.1, r11.2.2.2.2.2.2.2))))))))
  none))
  none)))
  none)))
  (some (.inl (x.1, x.2.2.1, x.2.2.2.1, x.2.2.2.2.1, x.2.2.2.2.2.1, x.2.2.2.2.2.2.1, x.2.2.2.2.2.2.2.2)))) : Option (((List Int) × Int × Bool × Int × Int × Bool × (List Int)) ⊕ (Int × Bool × Int × Int × Bool × (List Int) × (List Int)) ⊕ ((List Int))))
  fun r13 =>
  (match r13 with
  | .inl y14 =>
  (let v16 : Int := (((List.length y14.1) : Nat) : Int)
  (let v17 : Int := (if v16 < y14.2.1 then v16 else y14.2.1)
  (cond ((decide ((0 : Int) ≤ v17)) && (decide (v17 ≤ (((List.length y14.1) : Nat) : Int))))
  ((let v18 : List Int := (List.take (Int.toNat v17) (List.drop 0 y14.1))
  (cond (fits 1 ((List.length y14.2.2.2.2.2.2) + (List.length v18)))
  ((let v19 : List Int := (y14.2.2.2.2.2.2 ++ v18)
  (cond (((decide ((0 : Int) ≤ v17)) && (decide (v17 ≤ (((List.length y14.1) : Nat) : Int)))) && (decide ((((List.length y14.1) : Nat) : Int) ≤ (((List.length y14.1) : Nat) : Int))))
  ((let v20 : List Int := (List.take ((List.length y14.1) - (Int.toNat v17)) (List.drop (Int.toNat v17) y14.1))
  (let v21 : Int := (wrapF .i64 (y14.2.1 - v17))
  (let v23 : Bool := (decide ((0 : Int) < v21))
  (Option.bind
  (cond v23
  (some true)
  (some (!y14.2.2.1)))
  fun r25 =>
  (cond r25
  (some (.inl (v20, v23, v21, y14.2.2.1, y14.2.2.2.1, (wrapF .i64 (y14.2.2.2.2.1 + v17)), y14.2.2.2.2.2.1, x.2.2.2.2.2.2.2.1, v19)))
  (cond (fits 1 (List.length v19))
  ((let v27 : List (List Int) := ([v19] : List (List Int))
  (cond (fits 24 ((List.length x.2.2.2.2.2.2.2.1) + (List.length v27)))
  ((some (.inl (v20, v23, (0 : Int), false, (0 : Int), (0 : Int), false, (x.2.2.2.2.2.2.2.1 ++ v27), ([] : List Int)))))
  none)))
  none)))))))
  none)))
  none)))
  none)))
  | .inr z15 =>
  (match z15 with
  | .inl y29 =>
  (some (.inr (.inl (y29.1, y29.2.1, y29.2.2.1, y29.2.2.2.1, y29.2.2.2.2.1, y29.2.2.2.2.2.1, x.2.2.2.2.2.2.2.1, y29.2.2.2.2.2.2))))
  | .inr z30 =>
  (some (.inr (.inr ((z30, x.2.2.2.2.2.2.2.1)))))))) : Option (((List Int) × Bool × Int × Bool × Int × Int × Bool × (List (List Int)) × (List Int)) ⊕ (Int × Bool × Int × Int × Bool × (List Int) × (List (List Int)) × (List Int)) ⊕ ((List Int) × (List (List Int)))))
  fun r31 =>
  (match r31 with
  | .inl y32 =>
  (next (y32.1, y32.2.1, y32.2.2.1, y32.2.2.2.1, y32.2.2.2.2.1, y32.2.2.2.2.2.1, y32.2.2.2.2.2.2.1, y32.2.2.2.2.2.2.2.1, y32.2.2.2.2.2.2.2.2))
  | .inr z33 =>
  (match z33 with
  | .inl y34 =>
  (some (.inl (y34.1, y34.2.1, y34.2.2.1, y34.2.2.2.1, y34.2.2.2.2.1, y34.2.2.2.2.2.2.1, y34.2.2.2.2.2.2.2, y34.2.2.2.2.2.1)))
  | .inr z35 =>
  (some (.inr (z35.2))))))
  (some (.inl (x.2.2.1, x.2.2.2.1, x.2.2.2.2.1, x.2.2.2.2.2.1, x.2.2.2.2.2.2.1, x.2.2.2.2.2.2.2.1, ([] : List Int), x.2.2.2.2.2.2.2.2))))
noncomputable def rpc_Framer_Feed_v3_l1 (N : Nat) : (List Int) × Bool × Int × Bool × Int × Int × Bool × (List (List Int)) × (List Int) → Option ((Int × Bool × Int × Int × Bool × (List (List Int)) × (List Int) × (List Int)) ⊕ ((List (List Int)))) := loopF (rpc_Framer_Feed_v3_b1 N) N
noncomputable def rpc_Framer_Feed_v3 (N : Nat) (x : (List Int) × Int × Bool × Int × Int × Bool) : Option (Int × Int × Bool × Int × Int × Bool × (List (List Int)) × (List Int) × (List Int)) :=
  (cond x.2.2.2.2.2
  (some ((210 : Int), x.2.1, x.2.2.1, x.2.2.2.1, x.2.2.2.2.1, x.2.2.2.2.2, ([] : List (List Int)), ([] : List Int), ([] : List Int)))
  (Option.bind (rpc_Framer_Feed_v3_l1 N (x.1, (decide ((0 : Int) < x.2.1)), x.2.1, x.2.2.1, x.2.2.2.1, x.2.2.2.2.1, x.2.2.2.2.2, ([] : List (List Int)), ([] : List Int))) fun r3 =>
  (match r3 with
  | .inl y4 =>
  (some ((0 : Int), y4.1, y4.2.1, y4.2.2.1, y4.2.2.2.1, y4.2.2.2.2.1, y4.2.2.2.2.2.1, y4.2.2.2.2.2.2.1, y4.2.2.2.2.2.2.2))
  | .inr z5 =>
  (some ((210 : Int), (0 : Int), false, (0 : Int), (0 : Int), true, z5, ([] : List Int), ([] : List Int))))))
noncomputable def granaryref21_record_b0 (N : Nat) (next : (List Int) × Int × Int × (List Int) → Option ((Int × Bool × Bool × (List Int)))) (x : (List Int) × Int × Int × (List Int)) : Option ((Int × Bool × Bool × (List Int))) :=
  (cond (decide ((wrapF .i64 ((((List.length x.1) : Nat) : Int) - x.2.1)) < (4 : Int)))
  (some ((0 : Int), false, false, ([] : List Int)))
  (cond ((decide ((0 : Int) ≤ x.2.1)) && (decide (x.2.1 < (((List.length x.1) : Nat) : Int))))
  ((cond ((decide ((0 : Int) ≤ x.2.1)) && (decide (x.2.1 < (((List.length x.1) : Nat) : Int))))
  ((let v10 : Int := (wrapF .i64 (x.2.1 + (1 : Int)))
  (cond ((decide ((0 : Int) ≤ v10)) && (decide (v10 < (((List.length x.1) : Nat) : Int))))
  ((let v15 : Int := (wrapF .i64 (x.2.1 + (2 : Int)))
  (cond ((decide ((0 : Int) ≤ v15)) && (decide (v15 < (((List.length x.1) : Nat) : Int))))
  ((let v20 : Int := (wrapF .i64 (x.2.1 + (3 : Int)))
  (cond ((decide ((0 : Int) ≤ v20)) && (decide (v20 < (((List.length x.1) : Nat) : Int))))
  ((let v23 : Int := (orF .i64 (orF .i64 (orF .i64 (shlF .i64 (wrapF .i64 (Int.tmod (List.getD x.1 (Int.toNat x.2.1) (EK.dflt (.int .u8))) (128 : Int))) (24 : Int)) (shlF .i64 (wrapF .i64 (List.getD x.1 (Int.toNat v10) (EK.dflt (.int .u8)))) (16 : Int))) (shlF .i64 (wrapF .i64 (List.getD x.1 (Int.toNat v15) (EK.dflt (.int .u8)))) (8 : Int))) (wrapF .i64 (List.getD x.1 (Int.toNat v20) (EK.dflt (.int .u8)))))
  (Option.bind
  (cond (decide ((4096 : Int) < (wrapF .i64 ((((List.length x.2.2.2) : Nat) : Int) + v23))))
  (some true)
  (some (decide ((32 : Int) < x.2.2.1))))
  fun r28 =>
  (cond r28
  (some ((0 : Int), false, true, ([] : List Int)))
  (let v29 : Int := (wrapF .i64 (x.2.1 + (4 : Int)))
  (cond (decide ((wrapF .i64 ((((List.length x.1) : Nat) : Int) - v29)) < v23))
  (some ((0 : Int), false, false, ([] : List Int)))
  (let v33 : Int := (wrapF .i64 (v29 + v23))
  (cond (((decide ((0 : Int) ≤ v29)) && (decide (v29 ≤ v33))) && (decide (v33 ≤ (((List.length x.1) : Nat) : Int))))
  ((let v34 : List Int := (List.take ((Int.toNat v33) - (Int.toNat v29)) (List.drop (Int.toNat v29) x.1))
  (cond (fits 1 ((List.length x.2.2.2) + (List.length v34)))
  ((let v35 : List Int := (x.2.2.2 ++ v34)
  (let v36 : Int := (wrapF .i64 (v29 + v23))
  (cond (decide ((128 : Int) ≤ (List.getD x.1 (Int.toNat x.2.1) (EK.dflt (.int .u8)))))
  (some (v36, true, false, v35))
  (next (x.1, v36, (wrapF .i64 (x.2.2.1 + (1 : Int))), v35))))))
  none)))
  none))))))))
  none)))
  none)))
  none)))
  none))
  none))
noncomputable def granaryref21_record_l0 (N : Nat) : (List Int) × Int × Int × (List Int) → Option ((Int × Bool × Bool × (List Int))) := loopF (granaryref21_record_b0 N) N
noncomputable def granaryref21_record (N : Nat) (x : (List Int) × Int) : Option (Int × Bool × Bool × (List Int)) :=
  (Option.bind (granaryref21_record_l0 N (x.1, x.2, (1 : Int), ([] : List Int))) fun r1 =>
  (some (r1.1, r1.2.1, r1.2.2.1, r1.2.2.2)))
noncomputable def granaryref21_Framer_Feed_b0 (N : Nat) (next : Int × Bool × (List Int) × (List (List Int)) → Option ((Int × Int × Bool × (List Int) × (List (List Int))))) (x : Int × Bool × (List Int) × (List (List Int))) : Option ((Int × Int × Bool × (List Int) × (List (List Int)))) :=
  (Option.bind (granaryref21_record N (x.2.2.1, x.1)) fun r1 =>
  (cond r1.2.2.1
  (some ((210 : Int), x.1, true, x.2.2.1, x.2.2.2))
  (cond (!r1.2.1)
  (some ((0 : Int), x.1, x.2.1, x.2.2.1, x.2.2.2))
  (cond (fits 1 (List.length r1.2.2.2))
  ((let v4 : List (List Int) := ([r1.2.2.2] : List (List Int))
  (cond (fits 24 ((List.length x.2.2.2) + (List.length v4)))
  ((next (r1.1, x.2.1, x.2.2.1, (x.2.2.2 ++ v4))))
  none)))
  none))))
noncomputable def granaryref21_Framer_Feed_l0 (N : Nat) : Int × Bool × (List Int) × (List (List Int)) → Option ((Int × Int × Bool × (List Int) × (List (List Int)))) := loopF (granaryref21_Framer_Feed_b0 N) N
noncomputable def granaryref21_Framer_Feed (N : Nat) (x : (List Int) × Int × Bool) : Option (Int × Int × Bool × (List (List Int)) × (List Int)) :=
  (cond x.2.2
  (some ((210 : Int), x.2.1, x.2.2, ([] : List (List Int)), ([] : List Int)))
  (cond (fits 1 (List.length x.1))
  ((Option.bind (granaryref21_Framer_Feed_l0 N (x.2.1, x.2.2, x.1, ([] : List (List Int)))) fun r1 =>
  (some (r1.1, r1.2.1, r1.2.2.1, r1.2.2.2.2, r1.2.2.2.1))))
  none))
noncomputable def granaryref21_Framer_Left (x : Int × Bool × (List Int)) : Option (Int × Int × Bool × (List Int)) :=
  (cond x.2.1
  (some ((0 : Int), x.1, x.2.1, x.2.2))
  (some ((wrapF .i64 ((((List.length x.2.2) : Nat) : Int) - x.1)), x.1, x.2.1, x.2.2)))
noncomputable def rpc_Framer_Feed_v4_b1 (N : Nat) (next : (List Int) × Bool × Int × Bool × Int × Int × Bool × (List Int) × (List Int) × (List (List Int)) → Option ((Int × Bool × Int × Int × Bool × (List (List Int)) × (List Int) × (List Int)) ⊕ ((List (List Int))))) (x : (List Int) × Bool × Int × Bool × Int × Int × Bool × (List Int) × (List Int) × (List (List Int))) : Option ((Int × Bool × Int × Int × Bool × (List (List Int)) × (List Int) × (List Int)) ⊕ ((List (List Int)))) :=
  (cond (decide ((0 : Int) < (((List.length x.1) : Nat) : Int)))
  (Option.bind
  ((Option.bind
  ((cond (!x.2.1)
  (let v5 : Int := (wrapF .i64 ((4 : Int) - (((List.length x.2.2.2.2.2.2.2.1) : Nat) : Int)))
  (let v6 : Int := (((List.length x.1) : Nat) : Int)
  (let v7 : Int := (if v6 < v5 then v6 else v5)
  (cond ((decide ((0 : Int) ≤ v7)) && (decide (v7 ≤ (((List.length x.1) : Nat) : Int))))
  ((let v8 : List Int := (List.take (Int.toNat v7) (List.drop 0 x.1))
  (cond (fits 1 ((List.length x.2.2.2.2.2.2.2.1) + (List.length v8)))
  ((let v9 : List Int := (x.2.2.2.2.2.2.2.1 ++ v8)
  (cond (((decide ((0 : Int) ≤ v7)) && (decide (v7 ≤ (((List.length x.1) : Nat) : Int)))) && (decide ((((List.length x.1) : Nat) : Int) ≤ (((List.length x.1) : Nat) : Int))))
  ((let v11 : Int := (wrapF .i64 (x.2.2.2.2.2.1 + v7))
  (cond (decide ((((List.length v9) : Nat) : Int) < (4 : Int)))
  (some (.inr (.inl (x.2.2.1, x.2.2.2.1, x.2.2.2.2.1, v11, x.2.2.2.2.2.2.1, x.2.2.2.2.2.2.2.2.1, v9))))
  (Option.bind (rpc_Framer_begins_v1 N (x.2.2.1, x.2.2.2.1, x.2.2.2.2.1, v11, x.2.2.2.2.2.2.1, v9, x.2.2.2.2.2.2.2.2.1)) fun r14 =>
  (cond (!r14.1)
  (some (.inr (.inr (r14.2.2.2.2.2.2.2))))
  (some (.inl ((List.take ((List.length x.1) - (Int.toNat v7)) (List.drop (Int.toNat v7) x.1)), r14.2.1, r14.2.2.1, r14.2.2.2.1, r14.2.2.2.2.1, r14.2.2.2.2.2.1, r14.2.2.2.2.2.2.2, ([] : List Int)))))))))
  none)))
  none)))
  none))))
  (some (.inl (x.1, x.2.2.1, x.2.2.2.1, x.2.2.2.2.1, x.2.2.2.2.2.1, x.2.2.2.2.2.2.1, x.2.2.2.2.2.2.2.2.1, x.2.2.2.2.2.2.2.1)))) : Option (((List Int) × Int × Bool × Int × Int × Bool × (List Int) × (List Int)) ⊕ (Int × Bool × Int × Int × Bool × (List Int) × (List Int)) ⊕ ((List Int))))
  fun r16 =>
  (match r16 with
  | .inl y17 =>
  (let v19 : Int := (((List.length y17.1) : Nat) : Int)
  (let v20 : Int := (if v19 < y17.2.1 then v19 else y17.2.1)
  (cond ((decide ((0 : Int) ≤ v20)) && (decide (v20 ≤ (((List.length y17.1) : Nat) : Int))))
  ((let v21 : List Int := (List.take (Int.toNat v20) (List.drop 0 y17.1))
  (cond (fits 1 ((List.length y17.2.2.2.2.2.2.1) + (List.length v21)))
  ((let v22 : List Int := (y17.2.2.2.2.2.2.1 ++ v21)
  (cond (((decide ((0 : Int) ≤ v20)) && (decide (v20 ≤ (((List.length y17.1) : Nat) : Int)))) && (decide ((((List.length y17.1) : Nat) : Int) ≤ (((List.length y17.1) : Nat) : Int))))
  ((let v23 : List Int := (List.take ((List.length y17.1) - (Int.toNat v20)) (List.drop (Int.toNat v20) y17.1))
  (let v24 : Int := (wrapF .i64 (y17.2.1 - v20))
  (let v26 : Bool := (decide ((0 : Int) < v24))
  (Option.bind
  (cond v26
  (some true)
  (some (!y17.2.2.1)))
  fun r28 =>
  (cond r28
  (some (.inl (v23, v26, v24, y17.2.2.1, y17.2.2.2.1, (wrapF .i64 (y17.2.2.2.2.1 + v20)), y17.2.2.2.2.2.1, x.2.2.2.2.2.2.2.2.2, y17.2.2.2.2.2.2.2, v22)))
  (cond (fits 1 (List.length v22))
  ((let v30 : List (List Int) := ([v22] : List (List Int))
  (cond (fits 24 ((List.length x.2.2.2.2.2.2.2.2.2) + (List.length v30)))
  ((some (.inl (v23, v26, (0 : Int), false, (0 : Int), (0 : Int), false, (x.2.2.2.2.2.2.2.2.2 ++ v30), ([] : List Int), ([] : List Int)))))
  none)))
  none)))))))
  none)))
  none)))
  none)))
  | .inr z18 =>
  (match z18 with
  | .inl y32 =>
  (some (.inr (.inl (y32.1, y32.2.1, y32.2.2.1, y32.2.2.2.1, y32.2.2.2.2.1, y32.2.2.2.2.2.1, x.2.2.2.2.2.2.2.2.2, y32.2.2.2.2.2.2))))
  | .inr z33 =>
  (some (.inr (.inr ((z33, x.2.2.2.2.2.2.2.2.2)))))))) : Option (((List Int) × Bool × Int × Bool × Int × Int × Bool × (List (List Int)) × (List Int) × (List Int)) ⊕ (Int × Bool × Int × Int × Bool × (List Int) × (List (List Int)) × (List Int)) ⊕ ((List Int) × (List (List Int)))))
  fun r34 =>
  (match r34 with
  | .inl y35 =>
  (next (y35.1, y35.2.1, y35.2.2.1, y35.2.2.2.1, y35.2.2.2.2.1, y35.2.2.2.2.2.1, y35.2.2.2.2.2.2.1, y35.2.2.2.2.2.2.2.2.1, y35.2.2.2.2.2.2.2.2.2, y35.2.2.2.2.2.2.2.1))
  | .inr z36 =>
  (match z36 with
  | .inl y37 =>
  (some (.inl (y37.1, y37.2.1, y37.2.2.1, y37.2.2.2.1, y37.2.2.2.2.1, y37.2.2.2.2.2.2.1, y37.2.2.2.2.2.2.2, y37.2.2.2.2.2.1)))
  | .inr z38 =>
  (some (.inr (z38.2))))))
  (some (.inl (x.2.2.1, x.2.2.2.1, x.2.2.2.2.1, x.2.2.2.2.2.1, x.2.2.2.2.2.2.1, x.2.2.2.2.2.2.2.2.2, x.2.2.2.2.2.2.2.1, x.2.2.2.2.2.2.2.2.1))))
noncomputable def rpc_Framer_Feed_v4_l1 (N : Nat) : (List Int) × Bool × Int × Bool × Int × Int × Bool × (List Int) × (List Int) × (List (List Int)) → Option ((Int × Bool × Int × Int × Bool × (List (List Int)) × (List Int) × (List Int)) ⊕ ((List (List Int)))) := loopF (rpc_Framer_Feed_v4_b1 N) N
noncomputable def rpc_Framer_Feed_v4 (N : Nat) (x : (List Int) × Int × Bool × Int × Int × Bool × (List Int) × (List Int)) : Option (Int × Int × Bool × Int × Int × Bool × (List (List Int)) × (List Int) × (List Int)) :=
  (cond x.2.2.2.2.2.1
  (some ((210 : Int), x.2.1, x.2.2.1, x.2.2.2.1, x.2.2.2.2.1, x.2.2.2.2.2.1, ([] : List (List Int)), x.2.2.2.2.2.2.1, x.2.2.2.2.2.2.2))
  (Option.bind (rpc_Framer_Feed_v4_l1 N (x.1, (decide ((0 : Int) < x.2.1)), x.2.1, x.2.2.1, x.2.2.2.1, x.2.2.2.2.1, x.2.2.2.2.2.1, x.2.2.2.2.2.2.1, x.2.2.2.2.2.2.2, ([] : List (List Int)))) fun r3 =>
  (match r3 with
  | .inl y4 =>
  (some ((0 : Int), y4.1, y4.2.1, y4.2.2.1, y4.2.2.2.1, y4.2.2.2.2.1, y4.2.2.2.2.2.1, y4.2.2.2.2.2.2.1, y4.2.2.2.2.2.2.2))
  | .inr z5 =>
  (some ((210 : Int), (0 : Int), false, (0 : Int), (0 : Int), true, z5, ([] : List Int), ([] : List Int))))))
noncomputable def granaryref21_Framer_Feed_v1_b0 (N : Nat) (next : Int × Bool × (List Int) × (List (List Int)) → Option ((Int × Int × Bool × (List Int) × (List (List Int))))) (x : Int × Bool × (List Int) × (List (List Int))) : Option ((Int × Int × Bool × (List Int) × (List (List Int)))) :=
  (Option.bind (granaryref21_record N (x.2.2.1, x.1)) fun r1 =>
  (cond r1.2.2.1
  (some ((210 : Int), x.1, true, x.2.2.1, x.2.2.2))
  (cond (!r1.2.1)
  (some ((0 : Int), x.1, x.2.1, x.2.2.1, x.2.2.2))
  (cond (fits 1 (List.length r1.2.2.2))
  ((let v4 : List (List Int) := ([r1.2.2.2] : List (List Int))
  (cond (fits 24 ((List.length x.2.2.2) + (List.length v4)))
  ((next (r1.1, x.2.1, x.2.2.1, (x.2.2.2 ++ v4))))
  none)))
  none))))
noncomputable def granaryref21_Framer_Feed_v1_l0 (N : Nat) : Int × Bool × (List Int) × (List (List Int)) → Option ((Int × Int × Bool × (List Int) × (List (List Int)))) := loopF (granaryref21_Framer_Feed_v1_b0 N) N
noncomputable def granaryref21_Framer_Feed_v1 (N : Nat) (x : (List Int) × Int × Bool × (List Int)) : Option (Int × Int × Bool × (List (List Int)) × (List Int)) :=
  (cond x.2.2.1
  (some ((210 : Int), x.2.1, x.2.2.1, ([] : List (List Int)), x.2.2.2))
  (cond (fits 1 ((List.length x.2.2.2) + (List.length x.1)))
  ((Option.bind (granaryref21_Framer_Feed_v1_l0 N (x.2.1, x.2.2.1, (x.2.2.2 ++ x.1), ([] : List (List Int)))) fun r2 =>
  (some (r2.1, r2.2.1, r2.2.2.1, r2.2.2.2.2, r2.2.2.2.1))))
  none))
end Go.Rf.W
