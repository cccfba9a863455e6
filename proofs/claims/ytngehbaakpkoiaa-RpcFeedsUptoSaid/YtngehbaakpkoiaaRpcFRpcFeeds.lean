/-
  The law's function, printed.
-/
import Derived.Test.YtngehbaakpkoiaaRpcF0
set_option linter.unusedVariables false
set_option maxRecDepth 100000
namespace Go.Rf.W
open Go Go.Rf
noncomputable def granarylaw21_RpcFeeds_b6 (N : Nat) (next : (List (List Int)) × Int × Int × Int × (List (List Int)) → Option (((List (List Int))))) (x : (List (List Int)) × Int × Int × Int × (List (List Int))) : Option (((List (List Int)))) :=
  (cond ((decide ((0 : Int) ≤ x.2.2.1)) && (decide (x.2.2.1 < (((List.length x.2.2.2.2) : Nat) : Int))))
  ((let v1 : Nat := (Int.toNat x.2.2.1)
  (cond (decide (v1 < (List.length x.2.2.2.2)))
  ((cond (decide (x.2.2.2.1 < (((List.length (List.getD x.2.2.2.2 v1 [])) : Nat) : Int)))
  (cond ((decide ((0 : Int) ≤ x.2.2.1)) && (decide (x.2.2.1 < (((List.length x.2.2.2.2) : Nat) : Int))))
  ((let v4 : Nat := (Int.toNat x.2.2.1)
  (cond (decide (v4 < (List.length x.2.2.2.2)))
  ((cond ((decide ((0 : Int) ≤ x.2.2.1)) && (decide (x.2.2.1 < (((List.length x.2.2.2.2) : Nat) : Int))))
  ((let v5 : Nat := (Int.toNat x.2.2.1)
  (cond (decide (v5 < (List.length x.2.2.2.2)))
  ((cond ((decide ((0 : Int) ≤ x.2.2.2.1)) && (decide (x.2.2.2.1 < (((List.length (List.getD x.2.2.2.2 v5 [])) : Nat) : Int))))
  ((let v6 : Nat := (Int.toNat x.2.2.2.1)
  (cond (decide (v6 < (List.length (List.getD x.2.2.2.2 v5 []))))
  ((cond ((decide ((0 : Int) ≤ x.2.2.2.1)) && (decide (x.2.2.2.1 < (((List.length (List.getD x.2.2.2.2 v4 [])) : Nat) : Int))))
  ((let v9 : Nat := (Int.toNat x.2.2.2.1)
  (cond (decide (v9 < (List.length (List.getD x.2.2.2.2 v4 []))))
  ((next (x.1, x.2.1, x.2.2.1, (wrapF .i64 (x.2.2.2.1 + (1 : Int))), (List.set x.2.2.2.2 v4 (List.set (List.getD x.2.2.2.2 v4 []) v9 (xorF .u8 (List.getD (List.getD x.2.2.2.2 v5 []) v6 0) (85 : Int)))))))
  none)))
  none))
  none)))
  none))
  none)))
  none))
  none)))
  none)
  (some x.2.2.2.2)))
  none)))
  none)
noncomputable def granarylaw21_RpcFeeds_l6 (N : Nat) : (List (List Int)) × Int × Int × Int × (List (List Int)) → Option (((List (List Int)))) := loopF (granarylaw21_RpcFeeds_b6 N) N
noncomputable def granarylaw21_RpcFeeds_b2 (N : Nat) (next : (List (List Int)) × Int × Int × (List Int) → Option (((List Int)))) (x : (List (List Int)) × Int × Int × (List Int)) : Option (((List Int))) :=
  (cond (decide (x.2.2.1 < (((List.length x.2.2.2) : Nat) : Int)))
  (cond ((decide ((0 : Int) ≤ x.2.2.1)) && (decide (x.2.2.1 < (((List.length x.2.2.2) : Nat) : Int))))
  ((let v3 : Nat := (Int.toNat x.2.2.1)
  (cond (decide (v3 < (List.length x.2.2.2)))
  ((cond ((decide ((0 : Int) ≤ x.2.2.1)) && (decide (x.2.2.1 < (((List.length x.2.2.2) : Nat) : Int))))
  ((let v6 : Nat := (Int.toNat x.2.2.1)
  (cond (decide (v6 < (List.length x.2.2.2)))
  ((next (x.1, x.2.1, (wrapF .i64 (x.2.2.1 + (1 : Int))), (List.set x.2.2.2 v6 (xorF .u8 (List.getD x.2.2.2 v3 (EK.dflt (.int .u8))) (85 : Int))))))
  none)))
  none))
  none)))
  none)
  (some x.2.2.2))
noncomputable def granarylaw21_RpcFeeds_l2 (N : Nat) : (List (List Int)) × Int × Int × (List Int) → Option (((List Int))) := loopF (granarylaw21_RpcFeeds_b2 N) N
noncomputable def granarylaw21_RpcFeeds_b4 (N : Nat) (next : (List (List Int)) × Int × Int × (List (List Int)) → Option (((List (List Int))))) (x : (List (List Int)) × Int × Int × (List (List Int))) : Option (((List (List Int)))) :=
  (cond (decide (x.2.2.1 < (((List.length x.2.2.2) : Nat) : Int)))
  (Option.bind (granarylaw21_RpcFeeds_l6 N (x.1, x.2.1, x.2.2.1, (0 : Int), x.2.2.2)) fun r3 =>
  (next (x.1, x.2.1, (wrapF .i64 (x.2.2.1 + (1 : Int))), r3)))
  (some x.2.2.2))
noncomputable def granarylaw21_RpcFeeds_l4 (N : Nat) : (List (List Int)) × Int × Int × (List (List Int)) → Option (((List (List Int)))) := loopF (granarylaw21_RpcFeeds_b4 N) N
noncomputable def granarylaw21_RpcFeeds_b0 (N : Nat) (next : (List (List Int)) × Int × Int × Bool × Int × Int × Bool × Int × Bool × (List Int) × (List Int) × (List Int) → Option ((Int × Bool × Int × Int × Bool × Int × Bool × (List Int) × (List Int) × (List Int)) ⊕ (Int × Bool × Int × Int × Bool × Int × Bool × (List Int) × (List Int) × (List Int)))) (x : (List (List Int)) × Int × Int × Bool × Int × Int × Bool × Int × Bool × (List Int) × (List Int) × (List Int)) : Option ((Int × Bool × Int × Int × Bool × Int × Bool × (List Int) × (List Int) × (List Int)) ⊕ (Int × Bool × Int × Int × Bool × Int × Bool × (List Int) × (List Int) × (List Int))) :=
  (cond (decide (x.2.1 < (((List.length x.1) : Nat) : Int)))
  (cond ((decide ((0 : Int) ≤ x.2.1)) && (decide (x.2.1 < (((List.length x.1) : Nat) : Int))))
  ((let v4 : (List Int) := (List.getD x.1 (Int.toNat x.2.1) (EK.dflt (.sl (.int .u8))))
  (cond (fits 1 (List.length v4))
  ((Option.bind (rpc_Framer_Feed_v4 N (v4, x.2.2.1, x.2.2.2.1, x.2.2.2.2.1, x.2.2.2.2.2.1, x.2.2.2.2.2.2.1, x.2.2.2.2.2.2.2.2.2.1, x.2.2.2.2.2.2.2.2.2.2.1)) fun r5 =>
  (cond ((decide ((0 : Int) ≤ x.2.1)) && (decide (x.2.1 < (((List.length x.1) : Nat) : Int))))
  ((Option.bind (granaryref21_Framer_Feed_v1 N ((List.getD x.1 (Int.toNat x.2.1) (EK.dflt (.sl (.int .u8)))), x.2.2.2.2.2.2.2.1, x.2.2.2.2.2.2.2.2.1, x.2.2.2.2.2.2.2.2.2.2.2)) fun r7 =>
  (Option.bind
  (Option.bind (granaryref21_Same N (r5.2.2.2.2.2.2.1, r7.2.2.2.1)) fun r8 =>
  (cond (!r8)
  (some (true, r5.2.1, r5.2.2.1, r5.2.2.2.1, r5.2.2.2.2.1, r5.2.2.2.2.2.1, r7.2.1, r7.2.2.1, r5.2.2.2.2.2.2.2.1, r5.2.2.2.2.2.2.2.2, r7.2.2.2.2))
  (Option.bind (granarylaw21_num r5.1) fun r10 =>
  (cond (!(decide (r10 = r7.1)))
  (some (true, r5.2.1, r5.2.2.1, r5.2.2.2.1, r5.2.2.2.2.1, r5.2.2.2.2.2.1, r7.2.1, r7.2.2.1, r5.2.2.2.2.2.2.2.1, r5.2.2.2.2.2.2.2.2, r7.2.2.2.2))
  (Option.bind (rpc_Framer_Left_v1 (r5.2.1, r5.2.2.1, r5.2.2.2.1, r5.2.2.2.2.1, r5.2.2.2.2.2.1, r5.2.2.2.2.2.2.2.1, r5.2.2.2.2.2.2.2.2)) fun r12 =>
  (Option.bind (granaryref21_Framer_Left (r7.2.1, r7.2.2.1, r7.2.2.2.2)) fun r13 =>
  (cond (!(decide (r12.1 = r13.1)))
  (some (true, r12.2.1, r12.2.2.1, r12.2.2.2.1, r12.2.2.2.2.1, r12.2.2.2.2.2.1, r13.2.1, r13.2.2.1, r12.2.2.2.2.2.2.1, r12.2.2.2.2.2.2.2, r13.2.2.2))
  (Option.bind (rpc_Framer_Closed_v1 (r12.2.1, r12.2.2.1, r12.2.2.2.1, r12.2.2.2.2.1, r12.2.2.2.2.2.1, r12.2.2.2.2.2.2.1, r12.2.2.2.2.2.2.2)) fun r15 =>
  (cond (!(r15.1 == r13.2.2.1))
  (some (true, r15.2.1, r15.2.2.1, r15.2.2.2.1, r15.2.2.2.2.1, r15.2.2.2.2.2.1, r13.2.1, r13.2.2.1, r15.2.2.2.2.2.2.1, r15.2.2.2.2.2.2.2, r13.2.2.2))
  (cond ((decide ((0 : Int) ≤ x.2.1)) && (decide (x.2.1 < (((List.length x.1) : Nat) : Int))))
  ((some ((!(decide ((List.map (fun (n : Int) => UInt8.ofNat n.toNat) v4) = (List.map (fun (n : Int) => UInt8.ofNat n.toNat) (List.getD x.1 (Int.toNat x.2.1) (EK.dflt (.sl (.int .u8)))))))), r15.2.1, r15.2.2.1, r15.2.2.2.1, r15.2.2.2.2.1, r15.2.2.2.2.2.1, r13.2.1, r13.2.2.1, r15.2.2.2.2.2.2.1, r15.2.2.2.2.2.2.2, r13.2.2.2)))
  none))))))))))
  fun r21 =>
  (cond r21.1
  (some (.inl (r21.2.1, r21.2.2.1, r21.2.2.2.1, r21.2.2.2.2.1, r21.2.2.2.2.2.1, r21.2.2.2.2.2.2.1, r21.2.2.2.2.2.2.2.1, r21.2.2.2.2.2.2.2.2.1, r21.2.2.2.2.2.2.2.2.2.1, r21.2.2.2.2.2.2.2.2.2.2)))
  (Option.bind (granarylaw21_RpcFeeds_l2 N (x.1, x.2.1, (0 : Int), v4)) fun r22 =>
  (Option.bind (granarylaw21_RpcFeeds_l4 N (x.1, x.2.1, (0 : Int), r5.2.2.2.2.2.2.1)) fun r23 =>
  (next (x.1, (wrapF .i64 (x.2.1 + (1 : Int))), r21.2.1, r21.2.2.1, r21.2.2.2.1, r21.2.2.2.2.1, r21.2.2.2.2.2.1, r21.2.2.2.2.2.2.1, r21.2.2.2.2.2.2.2.1, r21.2.2.2.2.2.2.2.2.1, r21.2.2.2.2.2.2.2.2.2.1, r21.2.2.2.2.2.2.2.2.2.2))))))))
  none)))
  none)))
  none)
  (some (.inr ((x.2.2.1, x.2.2.2.1, x.2.2.2.2.1, x.2.2.2.2.2.1, x.2.2.2.2.2.2.1, x.2.2.2.2.2.2.2.1, x.2.2.2.2.2.2.2.2.1, x.2.2.2.2.2.2.2.2.2.1, x.2.2.2.2.2.2.2.2.2.2.1, x.2.2.2.2.2.2.2.2.2.2.2)))))
noncomputable def granarylaw21_RpcFeeds_l0 (N : Nat) : (List (List Int)) × Int × Int × Bool × Int × Int × Bool × Int × Bool × (List Int) × (List Int) × (List Int) → Option ((Int × Bool × Int × Int × Bool × Int × Bool × (List Int) × (List Int) × (List Int)) ⊕ (Int × Bool × Int × Int × Bool × Int × Bool × (List Int) × (List Int) × (List Int))) := loopF (granarylaw21_RpcFeeds_b0 N) N
noncomputable def granarylaw21_RpcFeeds (N : Nat) (x : (List (List Int))) : Option (Bool) :=
  (Option.bind (granarylaw21_huge N x) fun r1 =>
  (cond r1
  (Option.bind (granarylaw21_live N ()) fun r2 =>
  (some r2))
  (Option.bind (rpc_NewFramer ()) fun r3 =>
  (Option.bind (granarylaw21_RpcFeeds_l0 N (x, (0 : Int), (0 : Int), false, (0 : Int), (0 : Int), false, (0 : Int), false, ([] : List Int), ([] : List Int), ([] : List Int))) fun r4 =>
  (match r4 with
  | .inl y5 =>
  (some false)
  | .inr z6 =>
  (Option.bind (granarylaw21_live N ()) fun r7 =>
  (some r7)))))))
end Go.Rf.W
