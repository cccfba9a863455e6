/-
  The law's printed function is what the program does.
-/
import Derived.Test.YtngehbaakpkoiaaRpcK2
import Derived.Test.YtngehbaakpkoiaaRpcFRpcBack
set_option linter.unusedVariables false
set_option maxRecDepth 100000
namespace Go.Rf.W
open Go Go.Rf Go.Proofs
noncomputable def granarylaw21_RpcBack_c : Code := codeOf Try.f11.body
noncomputable def granarylaw21_RpcBack_J (N : Nat) : Nat → Hint := fun cx => hintOf cx [(0, { reg := fun k => assoc0 k [(1, ⟨⟨[(67, (.av (.one .bool)))], [(.keep, true), (.keep, true), (.keep, true), (.keep, true), (.keep, true), (.keep, true), (.keep, true), (.keep, true), (.keep, true), (.keep, false), (.keep, true), (.keep, true), (.keep, true), (.keep, true), (.keep, true), (.keep, false), (.keep, true), (.keep, true), (.keep, true), (.keep, true), (.keep, true), (.keep, false)]⟩, [], [], [.bool]⟩), (7, ⟨⟨[(99, (.av (.one .bool)))], [(.keep, true), (.keep, true), (.keep, true), (.keep, true), (.keep, true), (.keep, true), (.keep, true), (.keep, true), (.keep, true), (.keep, false), (.keep, true), (.keep, true), (.keep, true), (.keep, true), (.keep, true), (.keep, false), (.keep, true), (.keep, true), (.keep, true), (.keep, true), (.keep, true), (.keep, false), (.sh (.one (.const (.slw 31 1))), true), (.sh (.one (.int .i64)), true), (.sh (.one .bool), true), (.sh (.one (.const (.slw 32 1))), true), (.sh (.one (.int .i64)), true), (.sh (.one (.int .i64)), true), (.sh (.one .bool), false), (.dead, false), (.keep, false), (.sh (.arr (.int .u8) none), false), (.sh (.arr (.int .u8) none), false)]⟩, [], [22, 23, 24, 25, 26, 27, 28, 31, 32], [.bool, .int, .bool, .int, .int, .bool, .lst (.int .u8), .lst (.int .u8)]⟩), (9, ⟨⟨[(112, (.av (.one .bool)))], [(.keep, true), (.keep, true), (.keep, true), (.keep, true), (.keep, true), (.keep, true), (.keep, true), (.keep, true), (.keep, true), (.keep, false), (.keep, true), (.keep, true), (.keep, true), (.keep, true), (.keep, true), (.keep, false), (.keep, true), (.keep, true), (.keep, true), (.keep, true), (.keep, true), (.keep, false), (.sh (.one (.const (.slw 31 1))), true), (.sh (.one (.int .i64)), true), (.sh (.one .bool), true), (.sh (.one (.const (.slw 32 1))), true), (.sh (.one (.int .i64)), true), (.sh (.one (.int .i64)), true), (.sh (.one .bool), false), (.dead, false), (.keep, false), (.sh (.arr (.int .u8) none), false), (.sh (.arr (.int .u8) none), false)]⟩, [], [22, 23, 24, 25, 26, 27, 28, 31, 32], [.bool, .int, .bool, .int, .int, .bool, .lst (.int .u8), .lst (.int .u8)]⟩), (13, ⟨⟨[(136, (.av (.one .bool)))], [(.keep, true), (.keep, true), (.keep, true), (.keep, true), (.keep, true), (.keep, true), (.keep, true), (.keep, true), (.keep, true), (.keep, false), (.keep, true), (.keep, true), (.keep, true), (.keep, true), (.keep, true), (.keep, false), (.keep, true), (.keep, true), (.keep, true), (.keep, true), (.keep, true), (.keep, false), (.keep, true), (.keep, true), (.keep, true), (.keep, true), (.keep, true), (.keep, true), (.keep, false), (.dead, false), (.keep, false), (.keep, false), (.keep, false), (.keep, false), (.keep, false), (.keep, false), (.keep, false), (.keep, true), (.keep, true), (.keep, true), (.keep, true), (.keep, true), (.keep, true), (.keep, true), (.keep, true), (.keep, true), (.keep, false)]⟩, [], [], [.bool]⟩), (17, ⟨⟨[(160, (.av (.one .bool)))], [(.keep, true), (.keep, true), (.keep, true), (.keep, true), (.keep, true), (.keep, true), (.keep, true), (.keep, true), (.keep, true), (.keep, false), (.keep, true), (.keep, true), (.keep, true), (.keep, true), (.keep, true), (.keep, false), (.keep, true), (.keep, true), (.keep, true), (.keep, true), (.keep, true), (.keep, false), (.keep, true), (.keep, true), (.keep, true), (.keep, true), (.keep, true), (.keep, true), (.keep, false), (.dead, false), (.keep, false), (.keep, false), (.keep, false), (.keep, false), (.keep, false), (.keep, false), (.keep, false), (.keep, true), (.keep, true), (.keep, true), (.keep, true), (.keep, true), (.keep, true), (.keep, true), (.keep, true), (.keep, true), (.keep, false), (.keep, false), (.keep, false), (.keep, true), (.keep, true), (.keep, true), (.keep, true), (.keep, true), (.keep, false)]⟩, [], [], [.bool]⟩), (21, ⟨⟨[(183, (.av (.one .bool)))], [(.keep, true), (.keep, true), (.keep, true), (.keep, true), (.keep, true), (.keep, true), (.keep, true), (.keep, true), (.keep, true), (.keep, false), (.keep, true), (.keep, true), (.keep, true), (.keep, true), (.keep, true), (.keep, false), (.keep, true), (.keep, true), (.keep, true), (.keep, true), (.keep, true), (.keep, false), (.keep, true), (.keep, true), (.keep, true), (.keep, true), (.keep, true), (.keep, true), (.keep, false), (.dead, false), (.keep, false), (.keep, false), (.keep, false), (.keep, false), (.keep, false), (.keep, false), (.keep, false), (.keep, true), (.keep, true), (.keep, true), (.keep, true), (.keep, true), (.keep, true), (.keep, true), (.keep, true), (.keep, true), (.keep, false), (.keep, false), (.keep, false), (.keep, true), (.keep, true), (.keep, true), (.keep, true), (.keep, true), (.keep, false), (.keep, false), (.keep, true), (.keep, false), (.keep, false), (.keep, true), (.keep, true), (.keep, true), (.keep, true), (.keep, true), (.keep, false)]⟩, [], [], [.bool]⟩), (29, ⟨⟨[(10, (.av (.one .bool)))], [(.keep, true), (.keep, true), (.keep, true), (.keep, true), (.keep, true), (.keep, true), (.keep, true), (.keep, true), (.keep, true), (.keep, false), (.keep, true), (.keep, true), (.keep, true), (.keep, true), (.keep, true), (.keep, false), (.keep, true), (.keep, true), (.keep, true), (.keep, true), (.keep, true), (.keep, false), (.keep, true), (.keep, true), (.keep, true), (.keep, true), (.keep, true), (.keep, true), (.keep, false), (.dead, false), (.keep, false), (.keep, false), (.keep, false), (.keep, false), (.keep, false), (.keep, false), (.keep, false), (.keep, true), (.keep, true), (.keep, true), (.keep, true), (.keep, true), (.keep, true), (.keep, true), (.keep, true), (.keep, true), (.keep, false), (.keep, false), (.keep, false), (.keep, true), (.keep, true), (.keep, true), (.keep, true), (.keep, true), (.keep, false), (.keep, false), (.keep, true), (.keep, false), (.keep, false), (.keep, true), (.keep, true), (.keep, true), (.keep, true), (.keep, true), (.keep, false), (.keep, false), (.keep, false), (.keep, false), (.keep, false), (.keep, true), (.keep, true), (.keep, true), (.keep, true), (.keep, true), (.keep, true), (.keep, true), (.keep, true), (.keep, true), (.keep, true), (.keep, true), (.keep, true), (.keep, true), (.keep, true), (.keep, true), (.keep, true), (.keep, true), (.keep, true), (.keep, true), (.keep, true), (.keep, true), (.keep, true), (.keep, false), (.keep, false)]⟩, [], [], [.bool]⟩), (31, ⟨⟨[(10, (.av (.one .bool)))], [(.keep, true), (.keep, true), (.keep, true), (.keep, true), (.keep, true), (.keep, true), (.keep, true), (.keep, true), (.keep, true), (.keep, false), (.keep, true), (.keep, true), (.keep, true), (.keep, true), (.keep, true), (.keep, false), (.keep, true), (.keep, true), (.keep, true), (.keep, true), (.keep, true), (.keep, false), (.keep, true), (.keep, true), (.keep, true), (.keep, true), (.keep, true), (.keep, true), (.keep, false), (.dead, false), (.keep, false), (.keep, false), (.keep, false), (.keep, false), (.keep, false), (.keep, false), (.keep, false), (.keep, true), (.keep, true), (.keep, true), (.keep, true), (.keep, true), (.keep, true), (.keep, true), (.keep, true), (.keep, true), (.keep, false), (.keep, false), (.keep, false), (.keep, true), (.keep, true), (.keep, true), (.keep, true), (.keep, true), (.keep, false), (.keep, false), (.keep, true), (.keep, false), (.keep, false), (.keep, true), (.keep, true), (.keep, true), (.keep, true), (.keep, true), (.keep, false), (.keep, false), (.keep, false), (.keep, false), (.keep, false), (.keep, true), (.keep, true), (.keep, true), (.keep, true), (.keep, true), (.keep, true), (.keep, true), (.keep, true), (.keep, true), (.keep, true), (.keep, true), (.keep, true), (.keep, true), (.keep, true), (.keep, true), (.keep, true), (.keep, true), (.keep, true), (.keep, true), (.keep, true), (.keep, true), (.keep, true), (.keep, false), (.keep, false)]⟩, [], [], [.bool]⟩)], cnd := fun k => assoc0 k [], loop := fun k => assoc0 k [], nil := fun k => assoc0 k [(77, (.arr 2 .unit))], unr := fun k => assocN k [], blk := fun k => assoc0 k [] })]
noncomputable def granarylaw21_RpcBack_C (N : Nat) : Nat → List GS := fun k => tabOf k [(12, [granarylaw21_live_g N]), (19, [rpc_NewFramer_g N]), (13, [rpc_Frame_v1_g N]), (20, [rpc_Framer_Feed_g N]), (23, [granarylaw21_num_g N]), (22, [granaryref21_Same_g N]), (24, [rpc_Framer_Left_v1_g N]), (26, [rpc_Framer_Closed_v1_g N]), (27, [rpc_PutCall_g N, rpc_PutCall_v1_g N]), (29, [rpc_GetCall_g N]), (31, [granaryref21_SameCall_v2_g N]), (38, [rpc_PutReply_g N]), (40, [rpc_GetReply_g N]), (42, [granaryref21_SameReply_v2_g N]), (32, [rpc_PutCred_g N]), (34, [rpc_GetCred_g N]), (37, [granaryref21_SameCred_v2_g N]), (15, [rpc_Classify_v1_g N])]
def granarylaw21_RpcBack_o : List (Shp × List Nat) := [(⟨[(0, (.av (.one .bool)))], []⟩, [])]
noncomputable def granarylaw21_RpcBack_g (N : Nat) : GS := { ins := ⟨[(0, (.av (.one (.rsl (.int .u8))))), (1, (.av (.one (.rsl (.int .i64))))), (2, (.av (.agg [(.one (.int .u32)), (.one (.int .u32)), (.one (.int .u32)), (.one (.int .u32)), (.one (.int .u32)), (.one (.int .u32)), (.one (.rsl (.int .u8))), (.one (.int .u32)), (.one (.rsl (.int .u8))), (.one (.rsl (.int .u8)))]))), (3, (.av (.agg [(.one (.int .u32)), (.one (.int .i64)), (.one (.int .u32)), (.one (.int .u32)), (.one (.int .u32)), (.one (.rsl (.int .u8)))]))), (4, (.av (.agg [(.one (.int .u32)), (.one (.int .u32)), (.one .str), (.one (.int .u32)), (.one (.int .u32)), (.one (.rsl (.int .u32)))])))], []⟩, lend := [.keep, .keep, .keep, .keep, .keep], outs := granarylaw21_RpcBack_o.map fun s => ssOf s.1, its := ((.lst (.int .u8) : LK) :: (.lst (.int .i64) : LK) :: (.int : LK) :: (.int : LK) :: (.int : LK) :: (.int : LK) :: (.int : LK) :: (.int : LK) :: (.lst (.int .u8) : LK) :: (.int : LK) :: (.lst (.int .u8) : LK) :: (.lst (.int .u8) : LK) :: (.int : LK) :: (.int : LK) :: (.int : LK) :: (.int : LK) :: (.int : LK) :: (.lst (.int .u8) : LK) :: (.int : LK) :: (.int : LK) :: (.str : LK) :: (.int : LK) :: (.int : LK) :: (.lst (.int .u32) : LK) :: []), ots := [[.bool]], F := granarylaw21_RpcBack N }
noncomputable def granarylaw21_RpcBack_CA (N : Nat) (f0 : Unit → Option (Bool)) (f1 : Unit → Option (Unit)) (f2 : (List Int) × (List Int) → Option ((List Int))) (f3 : (List Int) × Int × Bool × Int × Int × Bool → Option (Int × Int × Bool × Int × Int × Bool × (List (List Int)) × (List Int) × (List Int))) (f4 : Int → Option (Int)) (f5 : (List (List Int)) × (List (List Int)) → Option (Bool)) (f6 : Int × Bool × Int × Int × Bool × (List Int) × (List Int) → Option (Int × Int × Bool × Int × Int × Bool × (List Int) × (List Int))) (f7 : Int × Bool × Int × Int × Bool × (List Int) × (List Int) → Option (Bool × Int × Bool × Int × Int × Bool × (List Int) × (List Int))) (f8 : Int × Int × Int × Int × Int × Int × (List Int) × Int × (List Int) × (List Int) → Option (Int × (List Int))) (f9 : Int × Int × Int × Int × Int × Int × (List Int) × Int × (List Int) × (List Int) → Option (Int × (List Int))) (f10 : (List Int) → Option (Int × Int × Int × Int × Int × Int × Int × Int × (List Int) × (List Int) × (List Int))) (f11 : Int × Int × Int × Int × Int × Int × (List Int) × Int × (List Int) × (List Int) × Int × Int × Int × Int × Int × Int × (List Int) × Int × (List Int) × (List Int) → Option (Bool)) (f12 : Int × Int × Int × Int × Int × (List Int) → Option (Int × (List Int))) (f13 : (List Int) → Option (Int × Int × Int × Int × Int × Int × (List Int))) (f14 : Int × Int × Int × Int × Int × (List Int) × Int × Int × Int × Int × Int × (List Int) → Option (Bool)) (f15 : Int × Int × (List UInt8) × Int × Int × (List Int) → Option (Int × Int × (List Int))) (f16 : Int × (List Int) → Option (Int × Int × (List UInt8) × Int × Int × Int × (List Int))) (f17 : Int × Int × (List UInt8) × Int × Int × (List Int) × Int × Int × (List UInt8) × Int × Int × (List Int) → Option (Bool)) (f18 : (List Int) → Option (Int × Int × Int × Int × Int × Int × Int × Int × Int × Int × Int × Int × Int × Int × Int × (List UInt8) × Int × Int × (List Int) × (List Int) × (List Int) × (List Int))) : Nat → List GS := fun k => tabOf k [(12, [{ granarylaw21_live_g N with F := f0 }]), (19, [{ rpc_NewFramer_g N with F := f1 }]), (13, [{ rpc_Frame_v1_g N with F := f2 }]), (20, [{ rpc_Framer_Feed_g N with F := f3 }]), (23, [{ granarylaw21_num_g N with F := f4 }]), (22, [{ granaryref21_Same_g N with F := f5 }]), (24, [{ rpc_Framer_Left_v1_g N with F := f6 }]), (26, [{ rpc_Framer_Closed_v1_g N with F := f7 }]), (27, [{ rpc_PutCall_g N with F := f8 }, { rpc_PutCall_v1_g N with F := f9 }]), (29, [{ rpc_GetCall_g N with F := f10 }]), (31, [{ granaryref21_SameCall_v2_g N with F := f11 }]), (38, [{ rpc_PutReply_g N with F := f12 }]), (40, [{ rpc_GetReply_g N with F := f13 }]), (42, [{ granaryref21_SameReply_v2_g N with F := f14 }]), (32, [{ rpc_PutCred_g N with F := f15 }]), (34, [{ rpc_GetCred_g N with F := f16 }]), (37, [{ granaryref21_SameCred_v2_g N with F := f17 }]), (15, [{ rpc_Classify_v1_g N with F := f18 }])]
theorem granarylaw21_RpcBack_CE (N : Nat) : granarylaw21_RpcBack_CA N (granarylaw21_live N) (rpc_NewFramer) (rpc_Frame_v1 N) (rpc_Framer_Feed N) (granarylaw21_num) (granaryref21_Same N) (rpc_Framer_Left_v1) (rpc_Framer_Closed_v1) (rpc_PutCall N) (rpc_PutCall_v1 N) (rpc_GetCall N) (granaryref21_SameCall_v2) (rpc_PutReply N) (rpc_GetReply N) (granaryref21_SameReply_v2) (rpc_PutCred N) (rpc_GetCred N) (granaryref21_SameCred_v2 N) (rpc_Classify_v1 N) = granarylaw21_RpcBack_C N := by kernel_rfl
theorem granarylaw21_RpcBack_t (N : Nat) : TabC Try.prog (granarylaw21_RpcBack_C N) := tab_ok ⟨⟨granarylaw21_live_ok N, trivial⟩, ⟨rpc_NewFramer_ok N, trivial⟩, ⟨rpc_Frame_v1_ok N, trivial⟩, ⟨rpc_Framer_Feed_ok N, trivial⟩, ⟨granarylaw21_num_ok N, trivial⟩, ⟨granaryref21_Same_ok N, trivial⟩, ⟨rpc_Framer_Left_v1_ok N, trivial⟩, ⟨rpc_Framer_Closed_v1_ok N, trivial⟩, ⟨rpc_PutCall_ok N, rpc_PutCall_v1_ok N, trivial⟩, ⟨rpc_GetCall_ok N, trivial⟩, ⟨granaryref21_SameCall_v2_ok N, trivial⟩, ⟨rpc_PutReply_ok N, trivial⟩, ⟨rpc_GetReply_ok N, trivial⟩, ⟨granaryref21_SameReply_v2_ok N, trivial⟩, ⟨rpc_PutCred_ok N, trivial⟩, ⟨rpc_GetCred_ok N, trivial⟩, ⟨granaryref21_SameCred_v2_ok N, trivial⟩, ⟨rpc_Classify_v1_ok N, trivial⟩, trivial⟩
theorem granarylaw21_RpcBack_i : loopsOf granarylaw21_RpcBack_c = [] := by kernel_rfl
noncomputable def granarylaw21_RpcBack_a (N : Nat) (f0 : Unit → Option (Bool)) (f1 : Unit → Option (Unit)) (f2 : (List Int) × (List Int) → Option ((List Int))) (f3 : (List Int) × Int × Bool × Int × Int × Bool → Option (Int × Int × Bool × Int × Int × Bool × (List (List Int)) × (List Int) × (List Int))) (f4 : Int → Option (Int)) (f5 : (List (List Int)) × (List (List Int)) → Option (Bool)) (f6 : Int × Bool × Int × Int × Bool × (List Int) × (List Int) → Option (Int × Int × Bool × Int × Int × Bool × (List Int) × (List Int))) (f7 : Int × Bool × Int × Int × Bool × (List Int) × (List Int) → Option (Bool × Int × Bool × Int × Int × Bool × (List Int) × (List Int))) (f8 : Int × Int × Int × Int × Int × Int × (List Int) × Int × (List Int) × (List Int) → Option (Int × (List Int))) (f9 : Int × Int × Int × Int × Int × Int × (List Int) × Int × (List Int) × (List Int) → Option (Int × (List Int))) (f10 : (List Int) → Option (Int × Int × Int × Int × Int × Int × Int × Int × (List Int) × (List Int) × (List Int))) (f11 : Int × Int × Int × Int × Int × Int × (List Int) × Int × (List Int) × (List Int) × Int × Int × Int × Int × Int × Int × (List Int) × Int × (List Int) × (List Int) → Option (Bool)) (f12 : Int × Int × Int × Int × Int × (List Int) → Option (Int × (List Int))) (f13 : (List Int) → Option (Int × Int × Int × Int × Int × Int × (List Int))) (f14 : Int × Int × Int × Int × Int × (List Int) × Int × Int × Int × Int × Int × (List Int) → Option (Bool)) (f15 : Int × Int × (List UInt8) × Int × Int × (List Int) → Option (Int × Int × (List Int))) (f16 : Int × (List Int) → Option (Int × Int × (List UInt8) × Int × Int × Int × (List Int))) (f17 : Int × Int × (List UInt8) × Int × Int × (List Int) × Int × Int × (List UInt8) × Int × Int × (List Int) → Option (Bool)) (f18 : (List Int) → Option (Int × Int × Int × Int × Int × Int × Int × Int × Int × Int × Int × Int × Int × Int × Int × (List UInt8) × Int × Int × (List Int) × (List Int) × (List Int) × (List Int))) (x : (List Int) × (List Int) × Int × Int × Int × Int × Int × Int × (List Int) × Int × (List Int) × (List Int) × Int × Int × Int × Int × Int × (List Int) × Int × Int × (List UInt8) × Int × Int × (List Int)) : Option (Bool) :=
  (Option.bind
  (cond (decide ((20000 : Int) < (((List.length x.1) : Nat) : Int)))
  (some true)
  (cond (decide ((60 : Int) < (((List.length x.2.1) : Nat) : Int)))
  (some true)
  (some (decide ((20000 : Int) < (wrapF .i64 ((wrapF .i64 ((wrapF .i64 ((wrapF .i64 ((wrapF .i64 ((((List.length x.2.2.2.2.2.2.2.2.2.2.2.1) : Nat) : Int) + (((List.length x.2.2.2.2.2.2.2.2.1) : Nat) : Int))) + (((List.length x.2.2.2.2.2.2.2.2.2.2.1) : Nat) : Int))) + (((List.length x.2.2.2.2.2.2.2.2.2.2.2.2.2.2.2.2.2.1) : Nat) : Int))) + (((List.length x.2.2.2.2.2.2.2.2.2.2.2.2.2.2.2.2.2.2.2.2.1) : Nat) : Int))) + (wrapF .i64 ((8 : Int) * (((List.length x.2.2.2.2.2.2.2.2.2.2.2.2.2.2.2.2.2.2.2.2.2.2.2) : Nat) : Int))))))))))
  fun r18 =>
  (cond r18
  (Option.bind (f0 ()) fun r19 =>
  (some r19))
  (Option.bind (f1 ()) fun r20 =>
  (Option.bind (f2 (x.1, x.2.1)) fun r21 =>
  (Option.bind (f3 (r21, (0 : Int), false, (0 : Int), (0 : Int), false)) fun r22 =>
  (Option.bind
  (cond (decide ((((List.length x.1) : Nat) : Int) ≤ (4096 : Int)))
  (Option.bind (f4 r22.1) fun r25 =>
  (cond (!(decide (r25 = (0 : Int))))
  (some (true, r22.2.1, r22.2.2.1, r22.2.2.2.1, r22.2.2.2.2.1, r22.2.2.2.2.2.1, r22.2.2.2.2.2.2.2.1, r22.2.2.2.2.2.2.2.2))
  (let v27 : List (List Int) := ([x.1] : List (List Int))
  (cond (cond (decide (1 ≤ (List.length v27))) true false)
  (Option.bind (f5 (r22.2.2.2.2.2.2.1, (List.take 1 (List.drop 0 v27)))) fun r28 =>
  (cond (!r28)
  (some (true, r22.2.1, r22.2.2.1, r22.2.2.2.1, r22.2.2.2.2.1, r22.2.2.2.2.2.1, r22.2.2.2.2.2.2.2.1, r22.2.2.2.2.2.2.2.2))
  (Option.bind (f6 (r22.2.1, r22.2.2.1, r22.2.2.2.1, r22.2.2.2.2.1, r22.2.2.2.2.2.1, r22.2.2.2.2.2.2.2.1, r22.2.2.2.2.2.2.2.2)) fun r30 =>
  (some ((!(decide (r30.1 = (0 : Int)))), r30.2.1, r30.2.2.1, r30.2.2.2.1, r30.2.2.2.2.1, r30.2.2.2.2.2.1, r30.2.2.2.2.2.2.1, r30.2.2.2.2.2.2.2)))))
  none))))
  (some (false, r22.2.1, r22.2.2.1, r22.2.2.2.1, r22.2.2.2.2.1, r22.2.2.2.2.2.1, r22.2.2.2.2.2.2.2.1, r22.2.2.2.2.2.2.2.2)))
  fun r32 =>
  (cond r32.1
  (some false)
  (Option.bind
  (cond (decide ((4096 : Int) < (((List.length x.1) : Nat) : Int)))
  (Option.bind (f4 r22.1) fun r35 =>
  (cond (!(decide (r35 = (210 : Int))))
  (some (true, r32.2.1, r32.2.2.1, r32.2.2.2.1, r32.2.2.2.2.1, r32.2.2.2.2.2.1, r32.2.2.2.2.2.2.1, r32.2.2.2.2.2.2.2))
  (Option.bind (f7 (r32.2.1, r32.2.2.1, r32.2.2.2.1, r32.2.2.2.2.1, r32.2.2.2.2.2.1, r32.2.2.2.2.2.2.1, r32.2.2.2.2.2.2.2)) fun r37 =>
  (some ((!r37.1), r37.2.1, r37.2.2.1, r37.2.2.2.1, r37.2.2.2.2.1, r37.2.2.2.2.2.1, r37.2.2.2.2.2.2.1, r37.2.2.2.2.2.2.2)))))
  (some (false, r32.2.1, r32.2.2.1, r32.2.2.2.1, r32.2.2.2.2.1, r32.2.2.2.2.2.1, r32.2.2.2.2.2.2.1, r32.2.2.2.2.2.2.2)))
  fun r39 =>
  (cond r39.1
  (some false)
  (Option.bind (f8 (x.2.2.1, x.2.2.2.1, x.2.2.2.2.1, x.2.2.2.2.2.1, x.2.2.2.2.2.2.1, x.2.2.2.2.2.2.2.1, x.2.2.2.2.2.2.2.2.1, x.2.2.2.2.2.2.2.2.2.1, x.2.2.2.2.2.2.2.2.2.2.1, x.2.2.2.2.2.2.2.2.2.2.2.1)) fun r40 =>
  (Option.bind (f10 r40.2) fun r41 =>
  (Option.bind
  (Option.bind (f4 r40.1) fun r42 =>
  (cond (decide (r42 = (0 : Int)))
  (Option.bind (f4 r41.2.2.2.2.2.2.2.1) fun r44 =>
  (cond (!(decide (r44 = (0 : Int))))
  (some true)
  (Option.bind (f11 (r41.1, r41.2.1, r41.2.2.1, r41.2.2.2.1, r41.2.2.2.2.1, r41.2.2.2.2.2.1, r41.2.2.2.2.2.2.2.2.1, r41.2.2.2.2.2.2.1, r41.2.2.2.2.2.2.2.2.2.1, r41.2.2.2.2.2.2.2.2.2.2, x.2.2.1, x.2.2.2.1, x.2.2.2.2.1, x.2.2.2.2.2.1, x.2.2.2.2.2.2.1, x.2.2.2.2.2.2.2.1, x.2.2.2.2.2.2.2.2.1, x.2.2.2.2.2.2.2.2.2.1, x.2.2.2.2.2.2.2.2.2.2.1, x.2.2.2.2.2.2.2.2.2.2.2.1)) fun r46 =>
  (some (!r46)))))
  (some false)))
  fun r48 =>
  (cond r48
  (some false)
  (Option.bind (f12 (x.2.2.2.2.2.2.2.2.2.2.2.2.1, x.2.2.2.2.2.2.2.2.2.2.2.2.2.1, x.2.2.2.2.2.2.2.2.2.2.2.2.2.2.1, x.2.2.2.2.2.2.2.2.2.2.2.2.2.2.2.1, x.2.2.2.2.2.2.2.2.2.2.2.2.2.2.2.2.1, x.2.2.2.2.2.2.2.2.2.2.2.2.2.2.2.2.2.1)) fun r49 =>
  (Option.bind (f13 r49.2) fun r50 =>
  (Option.bind
  (Option.bind (f4 r49.1) fun r51 =>
  (cond (decide (r51 = (0 : Int)))
  (Option.bind (f4 r50.2.2.2.2.2.1) fun r53 =>
  (cond (!(decide (r53 = (0 : Int))))
  (some true)
  (Option.bind (f14 (r50.1, r50.2.1, r50.2.2.1, r50.2.2.2.1, r50.2.2.2.2.1, r50.2.2.2.2.2.2, x.2.2.2.2.2.2.2.2.2.2.2.2.1, x.2.2.2.2.2.2.2.2.2.2.2.2.2.1, x.2.2.2.2.2.2.2.2.2.2.2.2.2.2.1, x.2.2.2.2.2.2.2.2.2.2.2.2.2.2.2.1, x.2.2.2.2.2.2.2.2.2.2.2.2.2.2.2.2.1, x.2.2.2.2.2.2.2.2.2.2.2.2.2.2.2.2.2.1)) fun r55 =>
  (some (!r55)))))
  (some false)))
  fun r57 =>
  (cond r57
  (some false)
  (Option.bind (f15 (x.2.2.2.2.2.2.2.2.2.2.2.2.2.2.2.2.2.2.1, x.2.2.2.2.2.2.2.2.2.2.2.2.2.2.2.2.2.2.2.1, x.2.2.2.2.2.2.2.2.2.2.2.2.2.2.2.2.2.2.2.2.1, x.2.2.2.2.2.2.2.2.2.2.2.2.2.2.2.2.2.2.2.2.2.1, x.2.2.2.2.2.2.2.2.2.2.2.2.2.2.2.2.2.2.2.2.2.2.1, x.2.2.2.2.2.2.2.2.2.2.2.2.2.2.2.2.2.2.2.2.2.2.2)) fun r58 =>
  (Option.bind (f16 (r58.1, r58.2.2)) fun r59 =>
  (Option.bind
  (Option.bind (f4 r58.2.1) fun r61 =>
  (cond (decide (r61 = (0 : Int)))
  (cond (!(decide (r59.2.2.2.2.2.1 = (0 : Int))))
  (some true)
  (Option.bind (f17 (r59.1, r59.2.1, r59.2.2.1, r59.2.2.2.1, r59.2.2.2.2.1, r59.2.2.2.2.2.2, x.2.2.2.2.2.2.2.2.2.2.2.2.2.2.2.2.2.2.1, x.2.2.2.2.2.2.2.2.2.2.2.2.2.2.2.2.2.2.2.1, x.2.2.2.2.2.2.2.2.2.2.2.2.2.2.2.2.2.2.2.2.1, x.2.2.2.2.2.2.2.2.2.2.2.2.2.2.2.2.2.2.2.2.2.1, x.2.2.2.2.2.2.2.2.2.2.2.2.2.2.2.2.2.2.2.2.2.2.1, x.2.2.2.2.2.2.2.2.2.2.2.2.2.2.2.2.2.2.2.2.2.2.2)) fun r64 =>
  (some (!r64))))
  (some false)))
  fun r66 =>
  (cond r66
  (some false)
  (Option.bind (f18 x.1) fun r67 =>
  (cond (decide (r67.1 = (0 : Int)))
  (Option.bind (f0 ()) fun r70 =>
  (some r70))
  (cond (decide (r67.1 = (1 : Int)))
  (Option.bind (f12 (r67.2.1, r67.2.2.1, r67.2.2.2.1, r67.2.2.2.2.1, r67.2.2.2.2.2.1, ([] : List Int))) fun r72 =>
  (Option.bind
  (Option.bind (f4 r72.1) fun r73 =>
  (cond (decide (r73 = (0 : Int)))
  (cond (!(decide (r67.2.2.1 = (0 : Int))))
  (Option.bind (f0 ()) fun r76 =>
  (some r76))
  (some false))
  (some false)))
  fun r77 =>
  (some r77)))
  (Option.bind (f9 (r67.2.2.2.2.2.2.1, r67.2.2.2.2.2.2.2.1, r67.2.2.2.2.2.2.2.2.1, r67.2.2.2.2.2.2.2.2.2.1, r67.2.2.2.2.2.2.2.2.2.2.1, r67.2.2.2.2.2.2.2.2.2.2.2.1, r67.2.2.2.2.2.2.2.2.2.2.2.2.2.2.2.2.2.2.1, r67.2.2.2.2.2.2.2.2.2.2.2.2.1, r67.2.2.2.2.2.2.2.2.2.2.2.2.2.2.2.2.2.2.2.1, r67.2.2.2.2.2.2.2.2.2.2.2.2.2.2.2.2.2.2.2.2.1)) fun r78 =>
  (Option.bind
  (cond (decide (r67.1 = (2 : Int)))
  (Option.bind (f4 r78.1) fun r80 =>
  (cond (decide (r80 = (0 : Int)))
  (cond (decide ((List.map (fun (n : Int) => UInt8.ofNat n.toNat) r78.2) = (List.map (fun (n : Int) => UInt8.ofNat n.toNat) x.1)))
  (Option.bind (f0 ()) fun r85 =>
  (some r85))
  (some false))
  (some false)))
  (some false))
  fun r86 =>
  (some r86)))))))))))))))))))))))))))
theorem granarylaw21_RpcBack_f (N : Nat) (f0 : Unit → Option (Bool)) (f1 : Unit → Option (Unit)) (f2 : (List Int) × (List Int) → Option ((List Int))) (f3 : (List Int) × Int × Bool × Int × Int × Bool → Option (Int × Int × Bool × Int × Int × Bool × (List (List Int)) × (List Int) × (List Int))) (f4 : Int → Option (Int)) (f5 : (List (List Int)) × (List (List Int)) → Option (Bool)) (f6 : Int × Bool × Int × Int × Bool × (List Int) × (List Int) → Option (Int × Int × Bool × Int × Int × Bool × (List Int) × (List Int))) (f7 : Int × Bool × Int × Int × Bool × (List Int) × (List Int) → Option (Bool × Int × Bool × Int × Int × Bool × (List Int) × (List Int))) (f8 : Int × Int × Int × Int × Int × Int × (List Int) × Int × (List Int) × (List Int) → Option (Int × (List Int))) (f9 : Int × Int × Int × Int × Int × Int × (List Int) × Int × (List Int) × (List Int) → Option (Int × (List Int))) (f10 : (List Int) → Option (Int × Int × Int × Int × Int × Int × Int × Int × (List Int) × (List Int) × (List Int))) (f11 : Int × Int × Int × Int × Int × Int × (List Int) × Int × (List Int) × (List Int) × Int × Int × Int × Int × Int × Int × (List Int) × Int × (List Int) × (List Int) → Option (Bool)) (f12 : Int × Int × Int × Int × Int × (List Int) → Option (Int × (List Int))) (f13 : (List Int) → Option (Int × Int × Int × Int × Int × Int × (List Int))) (f14 : Int × Int × Int × Int × Int × (List Int) × Int × Int × Int × Int × Int × (List Int) → Option (Bool)) (f15 : Int × Int × (List UInt8) × Int × Int × (List Int) → Option (Int × Int × (List Int))) (f16 : Int × (List Int) → Option (Int × Int × (List UInt8) × Int × Int × Int × (List Int))) (f17 : Int × Int × (List UInt8) × Int × Int × (List Int) × Int × Int × (List UInt8) × Int × Int × (List Int) → Option (Bool)) (f18 : (List Int) → Option (Int × Int × Int × Int × Int × Int × Int × Int × Int × Int × Int × Int × Int × Int × Int × (List UInt8) × Int × Int × (List Int) × (List Int) × (List Int) × (List Int))) (x) : granarylaw21_RpcBack_a N f0 f1 f2 f3 f4 f5 f6 f7 f8 f9 f10 f11 f12 f13 f14 f15 f16 f17 f18 x = fnStep Γ (granarylaw21_RpcBack_CA N f0 f1 f2 f3 f4 f5 f6 f7 f8 f9 f10 f11 f12 f13 f14 f15 f16 f17 f18) (granarylaw21_RpcBack_J N) 235 Try.f11.results.toList (granarylaw21_RpcBack_g N) granarylaw21_RpcBack_o granarylaw21_RpcBack_c x := by kernel_rfl
theorem granarylaw21_RpcBack_e (N : Nat) (x) : (granarylaw21_RpcBack_g N).F x = fnStep Γ (granarylaw21_RpcBack_C N) (granarylaw21_RpcBack_J N) 235 Try.f11.results.toList (granarylaw21_RpcBack_g N) granarylaw21_RpcBack_o granarylaw21_RpcBack_c x := by
  rw [← granarylaw21_RpcBack_CE N]
  exact Eq.trans (by kernel_rfl) (granarylaw21_RpcBack_f N (granarylaw21_live N) (rpc_NewFramer) (rpc_Frame_v1 N) (rpc_Framer_Feed N) (granarylaw21_num) (granaryref21_Same N) (rpc_Framer_Left_v1) (rpc_Framer_Closed_v1) (rpc_PutCall N) (rpc_PutCall_v1 N) (rpc_GetCall N) (granaryref21_SameCall_v2) (rpc_PutReply N) (rpc_GetReply N) (granaryref21_SameReply_v2) (rpc_PutCred N) (rpc_GetCred N) (granaryref21_SameCred_v2 N) (rpc_Classify_v1 N) x)
theorem granarylaw21_RpcBack_y : Try.f11.body = some granarylaw21_RpcBack_c := by kernel_rfl
theorem granarylaw21_RpcBack_n : (Try.f11.name == "runtime.NumGoroutine") = false := by kernel_rfl
theorem granarylaw21_RpcBack_ok (N : Nat) : FnDoes Try.prog 11 (granarylaw21_RpcBack_g N) := fn_ok tabOK (granarylaw21_RpcBack_t N) mixedOK (J := granarylaw21_RpcBack_J N) (body := granarylaw21_RpcBack_c) Try.func11 granarylaw21_RpcBack_y granarylaw21_RpcBack_n Try.ntmps11 (jok_from granarylaw21_RpcBack_i ⟨trivial, trivial⟩) rfl rfl (le_of_ble rfl) (granarylaw21_RpcBack_e N)
end Go.Rf.W
