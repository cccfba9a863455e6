/-
  The law's function, printed.
-/
import Derived.Test.YtngehbaakpkoiaaRpcF0
set_option linter.unusedVariables false
set_option maxRecDepth 100000
namespace Go.Rf.W
open Go Go.Rf
noncomputable def granarylaw21_RpcSegments_b0 (N : Nat) (next : (List Int) × (List Int) × Int × Int × Int × Int × Int × Bool × Int × Int × Bool × (List (List Int)) × (List Int) × (List Int) → Option ((Int × Int × Bool × Int × Int × Bool × (List (List Int)) × (List Int) × (List Int)))) (x : (List Int) × (List Int) × Int × Int × Int × Int × Int × Bool × Int × Int × Bool × (List (List Int)) × (List Int) × (List Int)) : Option ((Int × Int × Bool × Int × Int × Bool × (List (List Int)) × (List Int) × (List Int))) :=
  (cond (decide (x.2.2.2.2.2.1 ≤ (((List.length x.2.1) : Nat) : Int)))
  (Option.bind
  (let v4 : Int := (wrapF .i64 ((((List.length x.1) : Nat) : Int) - x.2.2.2.1))
  (Option.bind
  ((cond (decide (x.2.2.2.2.2.1 < (((List.length x.2.1) : Nat) : Int)))
  (Option.bind
  (cond ((decide ((0 : Int) ≤ x.2.2.2.2.2.1)) && (decide (x.2.2.2.2.2.1 < (((List.length x.2.1) : Nat) : Int))))
  ((cond (decide ((List.getD x.2.1 (Int.toNat x.2.2.2.2.2.1) (EK.dflt (.int .i64))) < (0 : Int)))
  (some true)
  (cond ((decide ((0 : Int) ≤ x.2.2.2.2.2.1)) && (decide (x.2.2.2.2.2.1 < (((List.length x.2.1) : Nat) : Int))))
  ((some (decide (v4 < (List.getD x.2.1 (Int.toNat x.2.2.2.2.2.1) (EK.dflt (.int .i64)))))))
  none)))
  none)
  fun r11 =>
  (cond r11
  (some (.inr (())))
  (cond ((decide ((0 : Int) ≤ x.2.2.2.2.2.1)) && (decide (x.2.2.2.2.2.1 < (((List.length x.2.1) : Nat) : Int))))
  ((some (.inl (List.getD x.2.1 (Int.toNat x.2.2.2.2.2.1) (EK.dflt (.int .i64))))))
  none)))
  (some (.inl v4))) : Option ((Int) ⊕ (Unit)))
  fun r13 =>
  (match r13 with
  | .inl y14 =>
  (let v16 : Int := (wrapF .i64 (x.2.2.2.1 + y14))
  (cond (((decide ((0 : Int) ≤ x.2.2.2.1)) && (decide (x.2.2.2.1 ≤ v16))) && (decide (v16 ≤ (((List.length x.1) : Nat) : Int))))
  ((Option.bind (rpc_Framer_Feed_v1 N ((List.take ((Int.toNat v16) - (Int.toNat x.2.2.2.1)) (List.drop (Int.toNat x.2.2.2.1) x.1)), x.2.2.2.2.2.2.1, x.2.2.2.2.2.2.2.1, x.2.2.2.2.2.2.2.2.1, x.2.2.2.2.2.2.2.2.2.1, x.2.2.2.2.2.2.2.2.2.2.1, x.2.2.2.2.2.2.2.2.2.2.2.2.1, x.2.2.2.2.2.2.2.2.2.2.2.2.2)) fun r18 =>
  (cond (fits 24 ((List.length x.2.2.2.2.2.2.2.2.2.2.2.1) + (List.length r18.2.2.2.2.2.2.1)))
  ((Option.bind (granarylaw21_num r18.1) fun r21 =>
  (some ((wrapF .i64 (x.2.2.2.1 + y14)), r21, r18.2.1, r18.2.2.1, r18.2.2.2.1, r18.2.2.2.2.1, r18.2.2.2.2.2.1, (x.2.2.2.2.2.2.2.2.2.2.2.1 ++ r18.2.2.2.2.2.2.1), r18.2.2.2.2.2.2.2.1, r18.2.2.2.2.2.2.2.2))))
  none)))
  none))
  | .inr z15 =>
  (some (x.2.2.2.1, x.2.2.2.2.1, x.2.2.2.2.2.2.1, x.2.2.2.2.2.2.2.1, x.2.2.2.2.2.2.2.2.1, x.2.2.2.2.2.2.2.2.2.1, x.2.2.2.2.2.2.2.2.2.2.1, x.2.2.2.2.2.2.2.2.2.2.2.1, x.2.2.2.2.2.2.2.2.2.2.2.2.1, x.2.2.2.2.2.2.2.2.2.2.2.2.2)))))
  fun r22 =>
  (next (x.1, x.2.1, x.2.2.1, r22.1, r22.2.1, (wrapF .i64 (x.2.2.2.2.2.1 + (1 : Int))), r22.2.2.1, r22.2.2.2.1, r22.2.2.2.2.1, r22.2.2.2.2.2.1, r22.2.2.2.2.2.2.1, r22.2.2.2.2.2.2.2.1, r22.2.2.2.2.2.2.2.2.1, r22.2.2.2.2.2.2.2.2.2)))
  (some (x.2.2.2.2.1, x.2.2.2.2.2.2.1, x.2.2.2.2.2.2.2.1, x.2.2.2.2.2.2.2.2.1, x.2.2.2.2.2.2.2.2.2.1, x.2.2.2.2.2.2.2.2.2.2.1, x.2.2.2.2.2.2.2.2.2.2.2.1, x.2.2.2.2.2.2.2.2.2.2.2.2.1, x.2.2.2.2.2.2.2.2.2.2.2.2.2)))
noncomputable def granarylaw21_RpcSegments_l0 (N : Nat) : (List Int) × (List Int) × Int × Int × Int × Int × Int × Bool × Int × Int × Bool × (List (List Int)) × (List Int) × (List Int) → Option ((Int × Int × Bool × Int × Int × Bool × (List (List Int)) × (List Int) × (List Int))) := loopF (granarylaw21_RpcSegments_b0 N) N
noncomputable def granarylaw21_RpcSegments (N : Nat) (x : (List Int) × (List Int)) : Option (Bool) :=
  (Option.bind
  (cond (decide ((20000 : Int) < (((List.length x.1) : Nat) : Int)))
  (some true)
  (some (decide ((60 : Int) < (((List.length x.2) : Nat) : Int)))))
  fun r5 =>
  (cond r5
  (Option.bind (granarylaw21_live N ()) fun r6 =>
  (some r6))
  (Option.bind (rpc_NewFramer ()) fun r7 =>
  (Option.bind (rpc_NewFramer ()) fun r8 =>
  (Option.bind (rpc_Framer_Feed N (x.1, (0 : Int), false, (0 : Int), (0 : Int), false)) fun r9 =>
  (Option.bind (granarylaw21_RpcSegments_l0 N (x.1, x.2, r9.1, (0 : Int), (0 : Int), (0 : Int), (0 : Int), false, (0 : Int), (0 : Int), false, ([] : List (List Int)), ([] : List Int), ([] : List Int))) fun r10 =>
  (Option.bind
  (Option.bind (granaryref21_Same N (r9.2.2.2.2.2.2.1, r10.2.2.2.2.2.2.1)) fun r11 =>
  (cond r11
  (Option.bind (granarylaw21_num r9.1) fun r12 =>
  (cond (decide (r12 = r10.1))
  (Option.bind (rpc_Framer_Closed_v1 (r9.2.1, r9.2.2.1, r9.2.2.2.1, r9.2.2.2.2.1, r9.2.2.2.2.2.1, r9.2.2.2.2.2.2.2.1, r9.2.2.2.2.2.2.2.2)) fun r14 =>
  (Option.bind (rpc_Framer_Closed_v1 (r10.2.1, r10.2.2.1, r10.2.2.2.1, r10.2.2.2.2.1, r10.2.2.2.2.2.1, r10.2.2.2.2.2.2.2.1, r10.2.2.2.2.2.2.2.2)) fun r15 =>
  (cond (r14.1 == r15.1)
  (Option.bind (rpc_Framer_Left_v1 (r14.2.1, r14.2.2.1, r14.2.2.2.1, r14.2.2.2.2.1, r14.2.2.2.2.2.1, r14.2.2.2.2.2.2.1, r14.2.2.2.2.2.2.2)) fun r17 =>
  (Option.bind (rpc_Framer_Left_v1 (r15.2.1, r15.2.2.1, r15.2.2.2.1, r15.2.2.2.2.1, r15.2.2.2.2.2.1, r15.2.2.2.2.2.2.1, r15.2.2.2.2.2.2.2)) fun r18 =>
  (cond (decide (r17.1 = r18.1))
  (Option.bind (granarylaw21_live N ()) fun r20 =>
  (some (r20, r17.2.1, r17.2.2.1, r17.2.2.2.1, r17.2.2.2.2.1, r17.2.2.2.2.2.1, r18.2.1, r18.2.2.1, r18.2.2.2.1, r18.2.2.2.2.1, r18.2.2.2.2.2.1, r17.2.2.2.2.2.2.1, r17.2.2.2.2.2.2.2, r18.2.2.2.2.2.2.1, r18.2.2.2.2.2.2.2)))
  (some (false, r17.2.1, r17.2.2.1, r17.2.2.2.1, r17.2.2.2.2.1, r17.2.2.2.2.2.1, r18.2.1, r18.2.2.1, r18.2.2.2.1, r18.2.2.2.2.1, r18.2.2.2.2.2.1, r17.2.2.2.2.2.2.1, r17.2.2.2.2.2.2.2, r18.2.2.2.2.2.2.1, r18.2.2.2.2.2.2.2)))))
  (some (false, r14.2.1, r14.2.2.1, r14.2.2.2.1, r14.2.2.2.2.1, r14.2.2.2.2.2.1, r15.2.1, r15.2.2.1, r15.2.2.2.1, r15.2.2.2.2.1, r15.2.2.2.2.2.1, r14.2.2.2.2.2.2.1, r14.2.2.2.2.2.2.2, r15.2.2.2.2.2.2.1, r15.2.2.2.2.2.2.2)))))
  (some (false, r9.2.1, r9.2.2.1, r9.2.2.2.1, r9.2.2.2.2.1, r9.2.2.2.2.2.1, r10.2.1, r10.2.2.1, r10.2.2.2.1, r10.2.2.2.2.1, r10.2.2.2.2.2.1, r9.2.2.2.2.2.2.2.1, r9.2.2.2.2.2.2.2.2, r10.2.2.2.2.2.2.2.1, r10.2.2.2.2.2.2.2.2))))
  (some (false, r9.2.1, r9.2.2.1, r9.2.2.2.1, r9.2.2.2.2.1, r9.2.2.2.2.2.1, r10.2.1, r10.2.2.1, r10.2.2.2.1, r10.2.2.2.2.1, r10.2.2.2.2.2.1, r9.2.2.2.2.2.2.2.1, r9.2.2.2.2.2.2.2.2, r10.2.2.2.2.2.2.2.1, r10.2.2.2.2.2.2.2.2))))
  fun r21 =>
  (some r21.1))))))))
end Go.Rf.W
