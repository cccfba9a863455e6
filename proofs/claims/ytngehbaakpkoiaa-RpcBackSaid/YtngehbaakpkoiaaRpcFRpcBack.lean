/-
  The law's function, printed.
-/
import Derived.Test.YtngehbaakpkoiaaRpcF0
set_option linter.unusedVariables false
set_option maxRecDepth 100000
namespace Go.Rf.W
open Go Go.Rf
noncomputable def granarylaw21_RpcBack (N : Nat) (x : (List Int) × (List Int) × Int × Int × Int × Int × Int × Int × (List Int) × Int × (List Int) × (List Int) × Int × Int × Int × Int × Int × (List Int) × Int × Int × (List UInt8) × Int × Int × (List Int)) : Option (Bool) :=
  (Option.bind
  (cond (decide ((20000 : Int) < (((List.length x.1) : Nat) : Int)))
  (some true)
  (cond (decide ((60 : Int) < (((List.length x.2.1) : Nat) : Int)))
  (some true)
  (some (decide ((20000 : Int) < (wrapF .i64 ((wrapF .i64 ((wrapF .i64 ((wrapF .i64 ((wrapF .i64 ((((List.length x.2.2.2.2.2.2.2.2.2.2.2.1) : Nat) : Int) + (((List.length x.2.2.2.2.2.2.2.2.1) : Nat) : Int))) + (((List.length x.2.2.2.2.2.2.2.2.2.2.1) : Nat) : Int))) + (((List.length x.2.2.2.2.2.2.2.2.2.2.2.2.2.2.2.2.2.1) : Nat) : Int))) + (((List.length x.2.2.2.2.2.2.2.2.2.2.2.2.2.2.2.2.2.2.2.2.1) : Nat) : Int))) + (wrapF .i64 ((8 : Int) * (((List.length x.2.2.2.2.2.2.2.2.2.2.2.2.2.2.2.2.2.2.2.2.2.2.2) : Nat) : Int))))))))))
  fun r18 =>
  (cond r18
  (Option.bind (granarylaw21_live N ()) fun r19 =>
  (some r19))
  (Option.bind (rpc_NewFramer ()) fun r20 =>
  (Option.bind (rpc_Frame_v1 N (x.1, x.2.1)) fun r21 =>
  (Option.bind (rpc_Framer_Feed N (r21, (0 : Int), false, (0 : Int), (0 : Int), false)) fun r22 =>
  (Option.bind
  (cond (decide ((((List.length x.1) : Nat) : Int) ≤ (4096 : Int)))
  (Option.bind (granarylaw21_num r22.1) fun r25 =>
  (cond (!(decide (r25 = (0 : Int))))
  (some (true, r22.2.1, r22.2.2.1, r22.2.2.2.1, r22.2.2.2.2.1, r22.2.2.2.2.2.1, r22.2.2.2.2.2.2.2.1, r22.2.2.2.2.2.2.2.2))
  (let v27 : List (List Int) := ([x.1] : List (List Int))
  (cond (cond (decide (1 ≤ (List.length v27))) true false)
  (Option.bind (granaryref21_Same N (r22.2.2.2.2.2.2.1, (List.take 1 (List.drop 0 v27)))) fun r28 =>
  (cond (!r28)
  (some (true, r22.2.1, r22.2.2.1, r22.2.2.2.1, r22.2.2.2.2.1, r22.2.2.2.2.2.1, r22.2.2.2.2.2.2.2.1, r22.2.2.2.2.2.2.2.2))
  (Option.bind (rpc_Framer_Left_v1 (r22.2.1, r22.2.2.1, r22.2.2.2.1, r22.2.2.2.2.1, r22.2.2.2.2.2.1, r22.2.2.2.2.2.2.2.1, r22.2.2.2.2.2.2.2.2)) fun r30 =>
  (some ((!(decide (r30.1 = (0 : Int)))), r30.2.1, r30.2.2.1, r30.2.2.2.1, r30.2.2.2.2.1, r30.2.2.2.2.2.1, r30.2.2.2.2.2.2.1, r30.2.2.2.2.2.2.2)))))
  none))))
  (some (false, r22.2.1, r22.2.2.1, r22.2.2.2.1, r22.2.2.2.2.1, r22.2.2.2.2.2.1, r22.2.2.2.2.2.2.2.1, r22.2.2.2.2.2.2.2.2)))
  fun r32 =>
  (cond r32.1
  (some false)
  (Option.bind
  (cond (decide ((4096 : Int) < (((List.length x.1) : Nat) : Int)))
  (Option.bind (granarylaw21_num r22.1) fun r35 =>
  (cond (!(decide (r35 = (210 : Int))))
  (some (true, r32.2.1, r32.2.2.1, r32.2.2.2.1, r32.2.2.2.2.1, r32.2.2.2.2.2.1, r32.2.2.2.2.2.2.1, r32.2.2.2.2.2.2.2))
  (Option.bind (rpc_Framer_Closed_v1 (r32.2.1, r32.2.2.1, r32.2.2.2.1, r32.2.2.2.2.1, r32.2.2.2.2.2.1, r32.2.2.2.2.2.2.1, r32.2.2.2.2.2.2.2)) fun r37 =>
  (some ((!r37.1), r37.2.1, r37.2.2.1, r37.2.2.2.1, r37.2.2.2.2.1, r37.2.2.2.2.2.1, r37.2.2.2.2.2.2.1, r37.2.2.2.2.2.2.2)))))
  (some (false, r32.2.1, r32.2.2.1, r32.2.2.2.1, r32.2.2.2.2.1, r32.2.2.2.2.2.1, r32.2.2.2.2.2.2.1, r32.2.2.2.2.2.2.2)))
  fun r39 =>
  (cond r39.1
  (some false)
  (Option.bind (rpc_PutCall N (x.2.2.1, x.2.2.2.1, x.2.2.2.2.1, x.2.2.2.2.2.1, x.2.2.2.2.2.2.1, x.2.2.2.2.2.2.2.1, x.2.2.2.2.2.2.2.2.1, x.2.2.2.2.2.2.2.2.2.1, x.2.2.2.2.2.2.2.2.2.2.1, x.2.2.2.2.2.2.2.2.2.2.2.1)) fun r40 =>
  (Option.bind (rpc_GetCall N r40.2) fun r41 =>
  (Option.bind
  (Option.bind (granarylaw21_num r40.1) fun r42 =>
  (cond (decide (r42 = (0 : Int)))
  (Option.bind (granarylaw21_num r41.2.2.2.2.2.2.2.1) fun r44 =>
  (cond (!(decide (r44 = (0 : Int))))
  (some true)
  (Option.bind (granaryref21_SameCall_v2 (r41.1, r41.2.1, r41.2.2.1, r41.2.2.2.1, r41.2.2.2.2.1, r41.2.2.2.2.2.1, r41.2.2.2.2.2.2.2.2.1, r41.2.2.2.2.2.2.1, r41.2.2.2.2.2.2.2.2.2.1, r41.2.2.2.2.2.2.2.2.2.2, x.2.2.1, x.2.2.2.1, x.2.2.2.2.1, x.2.2.2.2.2.1, x.2.2.2.2.2.2.1, x.2.2.2.2.2.2.2.1, x.2.2.2.2.2.2.2.2.1, x.2.2.2.2.2.2.2.2.2.1, x.2.2.2.2.2.2.2.2.2.2.1, x.2.2.2.2.2.2.2.2.2.2.2.1)) fun r46 =>
  (some (!r46)))))
  (some false)))
  fun r48 =>
  (cond r48
  (some false)
  (Option.bind (rpc_PutReply N (x.2.2.2.2.2.2.2.2.2.2.2.2.1, x.2.2.2.2.2.2.2.2.2.2.2.2.2.1, x.2.2.2.2.2.2.2.2.2.2.2.2.2.2.1, x.2.2.2.2.2.2.2.2.2.2.2.2.2.2.2.1, x.2.2.2.2.2.2.2.2.2.2.2.2.2.2.2.2.1, x.2.2.2.2.2.2.2.2.2.2.2.2.2.2.2.2.2.1)) fun r49 =>
  (Option.bind (rpc_GetReply N r49.2) fun r50 =>
  (Option.bind
  (Option.bind (granarylaw21_num r49.1) fun r51 =>
  (cond (decide (r51 = (0 : Int)))
  (Option.bind (granarylaw21_num r50.2.2.2.2.2.1) fun r53 =>
  (cond (!(decide (r53 = (0 : Int))))
  (some true)
  (Option.bind (granaryref21_SameReply_v2 (r50.1, r50.2.1, r50.2.2.1, r50.2.2.2.1, r50.2.2.2.2.1, r50.2.2.2.2.2.2, x.2.2.2.2.2.2.2.2.2.2.2.2.1, x.2.2.2.2.2.2.2.2.2.2.2.2.2.1, x.2.2.2.2.2.2.2.2.2.2.2.2.2.2.1, x.2.2.2.2.2.2.2.2.2.2.2.2.2.2.2.1, x.2.2.2.2.2.2.2.2.2.2.2.2.2.2.2.2.1, x.2.2.2.2.2.2.2.2.2.2.2.2.2.2.2.2.2.1)) fun r55 =>
  (some (!r55)))))
  (some false)))
  fun r57 =>
  (cond r57
  (some false)
  (Option.bind (rpc_PutCred N (x.2.2.2.2.2.2.2.2.2.2.2.2.2.2.2.2.2.2.1, x.2.2.2.2.2.2.2.2.2.2.2.2.2.2.2.2.2.2.2.1, x.2.2.2.2.2.2.2.2.2.2.2.2.2.2.2.2.2.2.2.2.1, x.2.2.2.2.2.2.2.2.2.2.2.2.2.2.2.2.2.2.2.2.2.1, x.2.2.2.2.2.2.2.2.2.2.2.2.2.2.2.2.2.2.2.2.2.2.1, x.2.2.2.2.2.2.2.2.2.2.2.2.2.2.2.2.2.2.2.2.2.2.2)) fun r58 =>
  (Option.bind (rpc_GetCred N (r58.1, r58.2.2)) fun r59 =>
  (Option.bind
  (Option.bind (granarylaw21_num r58.2.1) fun r61 =>
  (cond (decide (r61 = (0 : Int)))
  (cond (!(decide (r59.2.2.2.2.2.1 = (0 : Int))))
  (some true)
  (Option.bind (granaryref21_SameCred_v2 N (r59.1, r59.2.1, r59.2.2.1, r59.2.2.2.1, r59.2.2.2.2.1, r59.2.2.2.2.2.2, x.2.2.2.2.2.2.2.2.2.2.2.2.2.2.2.2.2.2.1, x.2.2.2.2.2.2.2.2.2.2.2.2.2.2.2.2.2.2.2.1, x.2.2.2.2.2.2.2.2.2.2.2.2.2.2.2.2.2.2.2.2.1, x.2.2.2.2.2.2.2.2.2.2.2.2.2.2.2.2.2.2.2.2.2.1, x.2.2.2.2.2.2.2.2.2.2.2.2.2.2.2.2.2.2.2.2.2.2.1, x.2.2.2.2.2.2.2.2.2.2.2.2.2.2.2.2.2.2.2.2.2.2.2)) fun r64 =>
  (some (!r64))))
  (some false)))
  fun r66 =>
  (cond r66
  (some false)
  (Option.bind (rpc_Classify_v1 N x.1) fun r67 =>
  (cond (decide (r67.1 = (0 : Int)))
  (Option.bind (granarylaw21_live N ()) fun r70 =>
  (some r70))
  (cond (decide (r67.1 = (1 : Int)))
  (Option.bind (rpc_PutReply N (r67.2.1, r67.2.2.1, r67.2.2.2.1, r67.2.2.2.2.1, r67.2.2.2.2.2.1, ([] : List Int))) fun r72 =>
  (Option.bind
  (Option.bind (granarylaw21_num r72.1) fun r73 =>
  (cond (decide (r73 = (0 : Int)))
  (cond (!(decide (r67.2.2.1 = (0 : Int))))
  (Option.bind (granarylaw21_live N ()) fun r76 =>
  (some r76))
  (some false))
  (some false)))
  fun r77 =>
  (some r77)))
  (Option.bind (rpc_PutCall_v1 N (r67.2.2.2.2.2.2.1, r67.2.2.2.2.2.2.2.1, r67.2.2.2.2.2.2.2.2.1, r67.2.2.2.2.2.2.2.2.2.1, r67.2.2.2.2.2.2.2.2.2.2.1, r67.2.2.2.2.2.2.2.2.2.2.2.1, r67.2.2.2.2.2.2.2.2.2.2.2.2.2.2.2.2.2.2.1, r67.2.2.2.2.2.2.2.2.2.2.2.2.1, r67.2.2.2.2.2.2.2.2.2.2.2.2.2.2.2.2.2.2.2.1, r67.2.2.2.2.2.2.2.2.2.2.2.2.2.2.2.2.2.2.2.2.1)) fun r78 =>
  (Option.bind
  (cond (decide (r67.1 = (2 : Int)))
  (Option.bind (granarylaw21_num r78.1) fun r80 =>
  (cond (decide (r80 = (0 : Int)))
  (cond (decide ((List.map (fun (n : Int) => UInt8.ofNat n.toNat) r78.2) = (List.map (fun (n : Int) => UInt8.ofNat n.toNat) x.1)))
  (Option.bind (granarylaw21_live N ()) fun r85 =>
  (some r85))
  (some false))
  (some false)))
  (some false))
  fun r86 =>
  (some r86)))))))))))))))))))))))))))
end Go.Rf.W
