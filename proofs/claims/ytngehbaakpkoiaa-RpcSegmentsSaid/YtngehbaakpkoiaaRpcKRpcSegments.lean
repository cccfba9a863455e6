/-
  The law's printed function is what the program does.
-/
import Derived.Test.YtngehbaakpkoiaaRpcK1
import Derived.Test.YtngehbaakpkoiaaRpcFRpcSegments
set_option linter.unusedVariables false
set_option maxRecDepth 100000
namespace Go.Rf.W
open Go Go.Rf Go.Proofs
noncomputable def granarylaw21_RpcSegments_c : Code := codeOf Try.f6.body
noncomputable def granarylaw21_RpcSegments_c0 : Code := codeOf (getLoop 0 granarylaw21_RpcSegments_c)
def granarylaw21_RpcSegments_d0 : LD := { ins := ⟨[(0, (.av (.one (.rsl (.int .u8))))), (1, (.av (.one (.rsl (.int .i64))))), (5, (.av (.one (.const (.ptr ⟨0, 0, 0, 0⟩))))), (6, (.av (.one (.const (.ptr ⟨7, 0, 0, 0⟩))))), (7, (.av (.one (.const (.slw 14 1))))), (8, (.av (.one (.int .i64)))), (9, (.av (.one (.const (.slw 17 1))))), (10, (.av (.one (.int .i64)))), (11, (.av (.one (.int .i64)))), (12, (.av (.one (.int .i64))))], [(.keep, false), (.keep, false), (.keep, false), (.keep, false), (.keep, false), (.keep, false), (.keep, false), (.sh (.one (.const (.slw 18 1))), true), (.sh (.one (.int .i64)), true), (.sh (.one .bool), true), (.sh (.one (.const (.slw 19 1))), true), (.sh (.one (.int .i64)), true), (.sh (.one (.int .i64)), true), (.sh (.one .bool), false), (.keep, false), (.keep, false), (.keep, false), (.sh (.arr (.sl (.int .u8)) none), false), (.sh (.arr (.int .u8) none), false), (.sh (.arr (.int .u8) none), false)]⟩, mov := [17, 18, 19], wr := [7, 8, 9, 10, 11, 12, 13], outs := [(.exit 0, ⟨[(9, (.av (.one (.const (.slw 20 1))))), (11, (.av (.one (.int .i64))))], [(.keep, false), (.keep, false), (.keep, false), (.keep, false), (.keep, false), (.keep, false), (.keep, false), (.sh (.one (.const (.slw 21 1))), true), (.sh (.one (.int .i64)), true), (.sh (.one .bool), true), (.sh (.one (.const (.slw 22 1))), true), (.sh (.one (.int .i64)), true), (.sh (.one (.int .i64)), true), (.sh (.one .bool), false), (.keep, false), (.keep, false), (.keep, false), (.dead, false), (.dead, false), (.dead, false), (.sh (.arr (.sl (.int .u8)) none), false), (.sh (.arr (.int .u8) none), false), (.sh (.arr (.int .u8) none), false)]⟩)], its := [.lst (.int .u8), .lst (.int .i64), .int, .int, .int, .int, .int, .bool, .int, .int, .bool, .lst (.sl (.int .u8)), .lst (.int .u8), .lst (.int .u8)], ots := [[.int, .int, .bool, .int, .int, .bool, .lst (.sl (.int .u8)), .lst (.int .u8), .lst (.int .u8)]] }
noncomputable def granarylaw21_RpcSegments_J (N : Nat) : Nat → Hint := fun cx => hintOf cx [(0, { reg := fun k => assoc0 k [(1, ⟨⟨[(23, (.av (.one .bool)))], []⟩, [], [], [.bool]⟩), (15, ⟨⟨[(65, (.av (.one .bool)))], [(.dead, false), (.dead, false), (.dead, false), (.dead, false), (.dead, false), (.dead, false), (.dead, false), (.keep, true), (.keep, true), (.keep, true), (.keep, true), (.keep, true), (.keep, true), (.keep, false), (.dead, false), (.dead, false), (.dead, false), (.keep, false), (.keep, false), (.keep, false)]⟩, [], [], [.bool]⟩), (21, ⟨⟨[(4, (.av (.one .bool)))], [(.sh (.one (.const (.slw 15 1))), true), (.sh (.one (.int .i64)), true), (.sh (.one .bool), true), (.sh (.one (.const (.slw 16 1))), true), (.sh (.one (.int .i64)), true), (.sh (.one (.int .i64)), true), (.sh (.one .bool), false), (.sh (.one (.const (.slw 21 1))), true), (.sh (.one (.int .i64)), true), (.sh (.one .bool), true), (.sh (.one (.const (.slw 22 1))), true), (.sh (.one (.int .i64)), true), (.sh (.one (.int .i64)), true), (.sh (.one .bool), false), (.keep, false), (.sh (.arr (.int .u8) none), false), (.sh (.arr (.int .u8) none), false), (.dead, false), (.dead, false), (.dead, false), (.keep, false), (.sh (.arr (.int .u8) none), false), (.sh (.arr (.int .u8) none), false)]⟩, [], [0, 1, 2, 3, 4, 5, 6, 7, 8, 9, 10, 11, 12, 13, 15, 16, 21, 22], [.bool, .int, .bool, .int, .int, .bool, .int, .bool, .int, .int, .bool, .lst (.int .u8), .lst (.int .u8), .lst (.int .u8), .lst (.int .u8)]⟩)], cnd := fun k => assoc0 k [(52, ⟨[], [], [(.normal, ⟨[(13, (.av (.one (.int .i64))))], [(.dead, false), (.dead, false), (.dead, false), (.dead, false), (.dead, false), (.dead, false), (.dead, false), (.keep, true), (.keep, true), (.keep, true), (.keep, true), (.keep, true), (.keep, true), (.keep, false), (.dead, false), (.dead, false), (.dead, false), (.keep, false), (.keep, false), (.keep, false)]⟩), (.exit 1, ⟨[], [(.dead, false), (.dead, false), (.dead, false), (.dead, false), (.dead, false), (.dead, false), (.dead, false), (.keep, true), (.keep, true), (.keep, true), (.keep, true), (.keep, true), (.keep, true), (.keep, false), (.dead, false), (.dead, false), (.dead, false), (.keep, false), (.keep, false), (.keep, false)]⟩)], [[.int], []]⟩)], loop := fun k => assoc0 k [(0, ⟨granarylaw21_RpcSegments_d0, loopF (granarylaw21_RpcSegments_b0 N) N⟩)], nil := fun k => assoc0 k [(36, (.arr 2 .unit)), (78, (.arr 2 .unit))], unr := fun k => assocN k [], blk := fun k => assoc0 k [(1, ⟨[17, 18, 19], [7, 8, 9, 10, 11, 12, 13], [(.normal, ⟨[(9, (.av (.one (.const (.slw 20 1))))), (10, (.av (.one (.int .i64)))), (11, (.av (.one (.int .i64))))], [(.dead, false), (.dead, false), (.dead, false), (.dead, false), (.dead, false), (.dead, false), (.dead, false), (.sh (.one (.const (.slw 21 1))), true), (.sh (.one (.int .i64)), true), (.sh (.one .bool), true), (.sh (.one (.const (.slw 22 1))), true), (.sh (.one (.int .i64)), true), (.sh (.one (.int .i64)), true), (.sh (.one .bool), false), (.dead, false), (.dead, false), (.dead, false), (.dead, false), (.dead, false), (.dead, false), (.sh (.arr (.sl (.int .u8)) none), false), (.sh (.arr (.int .u8) none), false), (.sh (.arr (.int .u8) none), false)]⟩)], [[.int, .int, .int, .bool, .int, .int, .bool, .lst (.sl (.int .u8)), .lst (.int .u8), .lst (.int .u8)]]⟩)] })]
noncomputable def granarylaw21_RpcSegments_C (N : Nat) : Nat → List GS := fun k => tabOf k [(12, [granarylaw21_live_g N]), (19, [rpc_NewFramer_g N]), (20, [rpc_Framer_Feed_g N, rpc_Framer_Feed_v1_g N]), (23, [granarylaw21_num_g N]), (22, [granaryref21_Same_g N]), (26, [rpc_Framer_Closed_v1_g N]), (24, [rpc_Framer_Left_v1_g N])]
def granarylaw21_RpcSegments_o : List (Shp × List Nat) := [(⟨[(0, (.av (.one .bool)))], []⟩, [])]
noncomputable def granarylaw21_RpcSegments_g (N : Nat) : GS := { ins := ⟨[(0, (.av (.one (.rsl (.int .u8))))), (1, (.av (.one (.rsl (.int .i64)))))], []⟩, lend := [.keep, .keep], outs := granarylaw21_RpcSegments_o.map fun s => ssOf s.1, its := [.lst (.int .u8), .lst (.int .i64)], ots := [[.bool]], F := granarylaw21_RpcSegments N }
noncomputable def granarylaw21_RpcSegments_CA (N : Nat) (f0 : Unit → Option (Bool)) (f1 : Unit → Option (Unit)) (f2 : (List Int) × Int × Bool × Int × Int × Bool → Option (Int × Int × Bool × Int × Int × Bool × (List (List Int)) × (List Int) × (List Int))) (f3 : (List Int) × Int × Bool × Int × Int × Bool × (List Int) × (List Int) → Option (Int × Int × Bool × Int × Int × Bool × (List (List Int)) × (List Int) × (List Int))) (f4 : Int → Option (Int)) (f5 : (List (List Int)) × (List (List Int)) → Option (Bool)) (f6 : Int × Bool × Int × Int × Bool × (List Int) × (List Int) → Option (Bool × Int × Bool × Int × Int × Bool × (List Int) × (List Int))) (f7 : Int × Bool × Int × Int × Bool × (List Int) × (List Int) → Option (Int × Int × Bool × Int × Int × Bool × (List Int) × (List Int))) : Nat → List GS := fun k => tabOf k [(12, [{ granarylaw21_live_g N with F := f0 }]), (19, [{ rpc_NewFramer_g N with F := f1 }]), (20, [{ rpc_Framer_Feed_g N with F := f2 }, { rpc_Framer_Feed_v1_g N with F := f3 }]), (23, [{ granarylaw21_num_g N with F := f4 }]), (22, [{ granaryref21_Same_g N with F := f5 }]), (26, [{ rpc_Framer_Closed_v1_g N with F := f6 }]), (24, [{ rpc_Framer_Left_v1_g N with F := f7 }])]
theorem granarylaw21_RpcSegments_CE (N : Nat) : granarylaw21_RpcSegments_CA N (granarylaw21_live N) (rpc_NewFramer) (rpc_Framer_Feed N) (rpc_Framer_Feed_v1 N) (granarylaw21_num) (granaryref21_Same N) (rpc_Framer_Closed_v1) (rpc_Framer_Left_v1) = granarylaw21_RpcSegments_C N := by kernel_rfl
theorem granarylaw21_RpcSegments_t (N : Nat) : TabC Try.prog (granarylaw21_RpcSegments_C N) := tab_ok ⟨⟨granarylaw21_live_ok N, trivial⟩, ⟨rpc_NewFramer_ok N, trivial⟩, ⟨rpc_Framer_Feed_ok N, rpc_Framer_Feed_v1_ok N, trivial⟩, ⟨granarylaw21_num_ok N, trivial⟩, ⟨granaryref21_Same_ok N, trivial⟩, ⟨rpc_Framer_Closed_v1_ok N, trivial⟩, ⟨rpc_Framer_Left_v1_ok N, trivial⟩, trivial⟩
theorem granarylaw21_RpcSegments_i0 : loopsOf granarylaw21_RpcSegments_c0 = [] := by kernel_rfl
noncomputable def granarylaw21_RpcSegments_a0 (N : Nat) (f0 : Unit → Option (Bool)) (f1 : Unit → Option (Unit)) (f2 : (List Int) × Int × Bool × Int × Int × Bool → Option (Int × Int × Bool × Int × Int × Bool × (List (List Int)) × (List Int) × (List Int))) (f3 : (List Int) × Int × Bool × Int × Int × Bool × (List Int) × (List Int) → Option (Int × Int × Bool × Int × Int × Bool × (List (List Int)) × (List Int) × (List Int))) (f4 : Int → Option (Int)) (f5 : (List (List Int)) × (List (List Int)) → Option (Bool)) (f6 : Int × Bool × Int × Int × Bool × (List Int) × (List Int) → Option (Bool × Int × Bool × Int × Int × Bool × (List Int) × (List Int))) (f7 : Int × Bool × Int × Int × Bool × (List Int) × (List Int) → Option (Int × Int × Bool × Int × Int × Bool × (List Int) × (List Int))) (next : (List Int) × (List Int) × Int × Int × Int × Int × Int × Bool × Int × Int × Bool × (List (List Int)) × (List Int) × (List Int) → Option ((Int × Int × Bool × Int × Int × Bool × (List (List Int)) × (List Int) × (List Int)))) (x : (List Int) × (List Int) × Int × Int × Int × Int × Int × Bool × Int × Int × Bool × (List (List Int)) × (List Int) × (List Int)) : Option ((Int × Int × Bool × Int × Int × Bool × (List (List Int)) × (List Int) × (List Int))) :=
  (cond (decide (x.2.2.2.2.2.1 ≤ (((List.length x.2.1) : Nat) : Int)))
  (Option.bind
  (let v4 : Int := (wrapF .i64 ((((List.length x.1) : Nat) : Int) - x.2.2.2.1))
  (Option.bind
  ((cond (decide (x.2.2.2.2.2.1 < (((List.length x.2.1) : Nat) : Int)))
  (Option.bind
  (cond ((decide ((0 : Int) ≤ x.2.2.2.2.2.1)) && (decide (x.2.2.2.2.2.1 < (((List.length x.2.1) : Nat) : Int))))
  ((cond (decide ((List.getD x.2.1 (Int.toNat x.2.2.2.2.2.1) (EK.dflt (.int .i64))) < (0 : Int)))
  (some true)
  (cond ((decide ((0 : Int) ≤ x.2.2.2.2.2.1)) && (decide (x.2.2.2.2.2.1 < (((List.length x.2.1) : Nat) : Int))))
  ((some (decide (v4 < (List.getD x.2.1 (Int.toNat x.2.2.2.2.2.1) (EK.dflt (.int .i64)))))))
  none)))
  none)
  fun r11 =>
  (cond r11
  (some (.inr (())))
  (cond ((decide ((0 : Int) ≤ x.2.2.2.2.2.1)) && (decide (x.2.2.2.2.2.1 < (((List.length x.2.1) : Nat) : Int))))
  ((some (.inl (List.getD x.2.1 (Int.toNat x.2.2.2.2.2.1) (EK.dflt (.int .i64))))))
  none)))
  (some (.inl v4))) : Option ((Int) ⊕ (Unit)))
  fun r13 =>
  (match r13 with
  | .inl y14 =>
  (let v16 : Int := (wrapF .i64 (x.2.2.2.1 + y14))
  (cond (((decide ((0 : Int) ≤ x.2.2.2.1)) && (decide (x.2.2.2.1 ≤ v16))) && (decide (v16 ≤ (((List.length x.1) : Nat) : Int))))
  ((Option.bind (f3 ((List.take ((Int.toNat v16) - (Int.toNat x.2.2.2.1)) (List.drop (Int.toNat x.2.2.2.1) x.1)), x.2.2.2.2.2.2.1, x.2.2.2.2.2.2.2.1, x.2.2.2.2.2.2.2.2.1, x.2.2.2.2.2.2.2.2.2.1, x.2.2.2.2.2.2.2.2.2.2.1, x.2.2.2.2.2.2.2.2.2.2.2.2.1, x.2.2.2.2.2.2.2.2.2.2.2.2.2)) fun r18 =>
  (cond (fits 24 ((List.length x.2.2.2.2.2.2.2.2.2.2.2.1) + (List.length r18.2.2.2.2.2.2.1)))
  ((Option.bind (f4 r18.1) fun r21 =>
  (some ((wrapF .i64 (x.2.2.2.1 + y14)), r21, r18.2.1, r18.2.2.1, r18.2.2.2.1, r18.2.2.2.2.1, r18.2.2.2.2.2.1, (x.2.2.2.2.2.2.2.2.2.2.2.1 ++ r18.2.2.2.2.2.2.1), r18.2.2.2.2.2.2.2.1, r18.2.2.2.2.2.2.2.2))))
  none)))
  none))
  | .inr z15 =>
  (some (x.2.2.2.1, x.2.2.2.2.1, x.2.2.2.2.2.2.1, x.2.2.2.2.2.2.2.1, x.2.2.2.2.2.2.2.2.1, x.2.2.2.2.2.2.2.2.2.1, x.2.2.2.2.2.2.2.2.2.2.1, x.2.2.2.2.2.2.2.2.2.2.2.1, x.2.2.2.2.2.2.2.2.2.2.2.2.1, x.2.2.2.2.2.2.2.2.2.2.2.2.2)))))
  fun r22 =>
  (next (x.1, x.2.1, x.2.2.1, r22.1, r22.2.1, (wrapF .i64 (x.2.2.2.2.2.1 + (1 : Int))), r22.2.2.1, r22.2.2.2.1, r22.2.2.2.2.1, r22.2.2.2.2.2.1, r22.2.2.2.2.2.2.1, r22.2.2.2.2.2.2.2.1, r22.2.2.2.2.2.2.2.2.1, r22.2.2.2.2.2.2.2.2.2)))
  (some (x.2.2.2.2.1, x.2.2.2.2.2.2.1, x.2.2.2.2.2.2.2.1, x.2.2.2.2.2.2.2.2.1, x.2.2.2.2.2.2.2.2.2.1, x.2.2.2.2.2.2.2.2.2.2.1, x.2.2.2.2.2.2.2.2.2.2.2.1, x.2.2.2.2.2.2.2.2.2.2.2.2.1, x.2.2.2.2.2.2.2.2.2.2.2.2.2)))
theorem granarylaw21_RpcSegments_f0 (N : Nat) (f0 : Unit → Option (Bool)) (f1 : Unit → Option (Unit)) (f2 : (List Int) × Int × Bool × Int × Int × Bool → Option (Int × Int × Bool × Int × Int × Bool × (List (List Int)) × (List Int) × (List Int))) (f3 : (List Int) × Int × Bool × Int × Int × Bool × (List Int) × (List Int) → Option (Int × Int × Bool × Int × Int × Bool × (List (List Int)) × (List Int) × (List Int))) (f4 : Int → Option (Int)) (f5 : (List (List Int)) × (List (List Int)) → Option (Bool)) (f6 : Int × Bool × Int × Int × Bool × (List Int) × (List Int) → Option (Bool × Int × Bool × Int × Int × Bool × (List Int) × (List Int))) (f7 : Int × Bool × Int × Int × Bool × (List Int) × (List Int) → Option (Int × Int × Bool × Int × Int × Bool × (List Int) × (List Int))) (next) (x) : granarylaw21_RpcSegments_a0 N f0 f1 f2 f3 f4 f5 f6 f7 next x = loopStep Γ (granarylaw21_RpcSegments_CA N f0 f1 f2 f3 f4 f5 f6 f7) (granarylaw21_RpcSegments_J N) 0 115 granarylaw21_RpcSegments_d0 granarylaw21_RpcSegments_c0 next x := by kernel_rfl
theorem granarylaw21_RpcSegments_e0 (N : Nat) (next) (x) : granarylaw21_RpcSegments_b0 N next x = loopStep Γ (granarylaw21_RpcSegments_C N) (granarylaw21_RpcSegments_J N) 0 115 granarylaw21_RpcSegments_d0 granarylaw21_RpcSegments_c0 next x := by
  rw [← granarylaw21_RpcSegments_CE N]
  exact Eq.trans (by kernel_rfl) (granarylaw21_RpcSegments_f0 N (granarylaw21_live N) (rpc_NewFramer) (rpc_Framer_Feed N) (rpc_Framer_Feed_v1 N) (granarylaw21_num) (granaryref21_Same N) (rpc_Framer_Closed_v1) (rpc_Framer_Left_v1) next x)
theorem granarylaw21_RpcSegments_k0 (N : Nat) : LoopOK Try.prog 115 granarylaw21_RpcSegments_c0 ⟨granarylaw21_RpcSegments_d0, loopF (granarylaw21_RpcSegments_b0 N) N⟩ := loop_ok tabOK (granarylaw21_RpcSegments_t N) mixedOK (J := granarylaw21_RpcSegments_J N) (cx := 0) (body := granarylaw21_RpcSegments_c0) (nt := 115) (l := granarylaw21_RpcSegments_d0) (b := granarylaw21_RpcSegments_b0 N) (jok_from granarylaw21_RpcSegments_i0 ⟨trivial, trivial⟩) (granarylaw21_RpcSegments_e0 N) N
theorem granarylaw21_RpcSegments_i : loopsOf granarylaw21_RpcSegments_c = [(0, granarylaw21_RpcSegments_c0)] := by kernel_rfl
noncomputable def granarylaw21_RpcSegments_a (N : Nat) (f0 : Unit → Option (Bool)) (f1 : Unit → Option (Unit)) (f2 : (List Int) × Int × Bool × Int × Int × Bool → Option (Int × Int × Bool × Int × Int × Bool × (List (List Int)) × (List Int) × (List Int))) (f3 : (List Int) × Int × Bool × Int × Int × Bool × (List Int) × (List Int) → Option (Int × Int × Bool × Int × Int × Bool × (List (List Int)) × (List Int) × (List Int))) (f4 : Int → Option (Int)) (f5 : (List (List Int)) × (List (List Int)) → Option (Bool)) (f6 : Int × Bool × Int × Int × Bool × (List Int) × (List Int) → Option (Bool × Int × Bool × Int × Int × Bool × (List Int) × (List Int))) (f7 : Int × Bool × Int × Int × Bool × (List Int) × (List Int) → Option (Int × Int × Bool × Int × Int × Bool × (List Int) × (List Int))) (x : (List Int) × (List Int)) : Option (Bool) :=
  (Option.bind
  (cond (decide ((20000 : Int) < (((List.length x.1) : Nat) : Int)))
  (some true)
  (some (decide ((60 : Int) < (((List.length x.2) : Nat) : Int)))))
  fun r5 =>
  (cond r5
  (Option.bind (f0 ()) fun r6 =>
  (some r6))
  (Option.bind (f1 ()) fun r7 =>
  (Option.bind (f1 ()) fun r8 =>
  (Option.bind (f2 (x.1, (0 : Int), false, (0 : Int), (0 : Int), false)) fun r9 =>
  (Option.bind (granarylaw21_RpcSegments_l0 N (x.1, x.2, r9.1, (0 : Int), (0 : Int), (0 : Int), (0 : Int), false, (0 : Int), (0 : Int), false, ([] : List (List Int)), ([] : List Int), ([] : List Int))) fun r10 =>
  (Option.bind
  (Option.bind (f5 (r9.2.2.2.2.2.2.1, r10.2.2.2.2.2.2.1)) fun r11 =>
  (cond r11
  (Option.bind (f4 r9.1) fun r12 =>
  (cond (decide (r12 = r10.1))
  (Option.bind (f6 (r9.2.1, r9.2.2.1, r9.2.2.2.1, r9.2.2.2.2.1, r9.2.2.2.2.2.1, r9.2.2.2.2.2.2.2.1, r9.2.2.2.2.2.2.2.2)) fun r14 =>
  (Option.bind (f6 (r10.2.1, r10.2.2.1, r10.2.2.2.1, r10.2.2.2.2.1, r10.2.2.2.2.2.1, r10.2.2.2.2.2.2.2.1, r10.2.2.2.2.2.2.2.2)) fun r15 =>
  (cond (r14.1 == r15.1)
  (Option.bind (f7 (r14.2.1, r14.2.2.1, r14.2.2.2.1, r14.2.2.2.2.1, r14.2.2.2.2.2.1, r14.2.2.2.2.2.2.1, r14.2.2.2.2.2.2.2)) fun r17 =>
  (Option.bind (f7 (r15.2.1, r15.2.2.1, r15.2.2.2.1, r15.2.2.2.2.1, r15.2.2.2.2.2.1, r15.2.2.2.2.2.2.1, r15.2.2.2.2.2.2.2)) fun r18 =>
  (cond (decide (r17.1 = r18.1))
  (Option.bind (f0 ()) fun r20 =>
  (some (r20, r17.2.1, r17.2.2.1, r17.2.2.2.1, r17.2.2.2.2.1, r17.2.2.2.2.2.1, r18.2.1, r18.2.2.1, r18.2.2.2.1, r18.2.2.2.2.1, r18.2.2.2.2.2.1, r17.2.2.2.2.2.2.1, r17.2.2.2.2.2.2.2, r18.2.2.2.2.2.2.1, r18.2.2.2.2.2.2.2)))
  (some (false, r17.2.1, r17.2.2.1, r17.2.2.2.1, r17.2.2.2.2.1, r17.2.2.2.2.2.1, r18.2.1, r18.2.2.1, r18.2.2.2.1, r18.2.2.2.2.1, r18.2.2.2.2.2.1, r17.2.2.2.2.2.2.1, r17.2.2.2.2.2.2.2, r18.2.2.2.2.2.2.1, r18.2.2.2.2.2.2.2)))))
  (some (false, r14.2.1, r14.2.2.1, r14.2.2.2.1, r14.2.2.2.2.1, r14.2.2.2.2.2.1, r15.2.1, r15.2.2.1, r15.2.2.2.1, r15.2.2.2.2.1, r15.2.2.2.2.2.1, r14.2.2.2.2.2.2.1, r14.2.2.2.2.2.2.2, r15.2.2.2.2.2.2.1, r15.2.2.2.2.2.2.2)))))
  (some (false, r9.2.1, r9.2.2.1, r9.2.2.2.1, r9.2.2.2.2.1, r9.2.2.2.2.2.1, r10.2.1, r10.2.2.1, r10.2.2.2.1, r10.2.2.2.2.1, r10.2.2.2.2.2.1, r9.2.2.2.2.2.2.2.1, r9.2.2.2.2.2.2.2.2, r10.2.2.2.2.2.2.2.1, r10.2.2.2.2.2.2.2.2))))
  (some (false, r9.2.1, r9.2.2.1, r9.2.2.2.1, r9.2.2.2.2.1, r9.2.2.2.2.2.1, r10.2.1, r10.2.2.1, r10.2.2.2.1, r10.2.2.2.2.1, r10.2.2.2.2.2.1, r9.2.2.2.2.2.2.2.1, r9.2.2.2.2.2.2.2.2, r10.2.2.2.2.2.2.2.1, r10.2.2.2.2.2.2.2.2))))
  fun r21 =>
  (some r21.1))))))))
theorem granarylaw21_RpcSegments_f (N : Nat) (f0 : Unit → Option (Bool)) (f1 : Unit → Option (Unit)) (f2 : (List Int) × Int × Bool × Int × Int × Bool → Option (Int × Int × Bool × Int × Int × Bool × (List (List Int)) × (List Int) × (List Int))) (f3 : (List Int) × Int × Bool × Int × Int × Bool × (List Int) × (List Int) → Option (Int × Int × Bool × Int × Int × Bool × (List (List Int)) × (List Int) × (List Int))) (f4 : Int → Option (Int)) (f5 : (List (List Int)) × (List (List Int)) → Option (Bool)) (f6 : Int × Bool × Int × Int × Bool × (List Int) × (List Int) → Option (Bool × Int × Bool × Int × Int × Bool × (List Int) × (List Int))) (f7 : Int × Bool × Int × Int × Bool × (List Int) × (List Int) → Option (Int × Int × Bool × Int × Int × Bool × (List Int) × (List Int))) (x) : granarylaw21_RpcSegments_a N f0 f1 f2 f3 f4 f5 f6 f7 x = fnStep Γ (granarylaw21_RpcSegments_CA N f0 f1 f2 f3 f4 f5 f6 f7) (granarylaw21_RpcSegments_J N) 115 Try.f6.results.toList (granarylaw21_RpcSegments_g N) granarylaw21_RpcSegments_o granarylaw21_RpcSegments_c x := by kernel_rfl
theorem granarylaw21_RpcSegments_e (N : Nat) (x) : (granarylaw21_RpcSegments_g N).F x = fnStep Γ (granarylaw21_RpcSegments_C N) (granarylaw21_RpcSegments_J N) 115 Try.f6.results.toList (granarylaw21_RpcSegments_g N) granarylaw21_RpcSegments_o granarylaw21_RpcSegments_c x := by
  rw [← granarylaw21_RpcSegments_CE N]
  exact Eq.trans (by kernel_rfl) (granarylaw21_RpcSegments_f N (granarylaw21_live N) (rpc_NewFramer) (rpc_Framer_Feed N) (rpc_Framer_Feed_v1 N) (granarylaw21_num) (granaryref21_Same N) (rpc_Framer_Closed_v1) (rpc_Framer_Left_v1) x)
theorem granarylaw21_RpcSegments_y : Try.f6.body = some granarylaw21_RpcSegments_c := by kernel_rfl
theorem granarylaw21_RpcSegments_n : (Try.f6.name == "runtime.NumGoroutine") = false := by kernel_rfl
theorem granarylaw21_RpcSegments_ok (N : Nat) : FnDoes Try.prog 6 (granarylaw21_RpcSegments_g N) := fn_ok tabOK (granarylaw21_RpcSegments_t N) mixedOK (J := granarylaw21_RpcSegments_J N) (body := granarylaw21_RpcSegments_c) Try.func6 granarylaw21_RpcSegments_y granarylaw21_RpcSegments_n Try.ntmps6 (jok_from granarylaw21_RpcSegments_i ⟨⟨.inr ⟨_, rfl, granarylaw21_RpcSegments_k0 N⟩, trivial⟩, trivial⟩) rfl rfl (le_of_ble rfl) (granarylaw21_RpcSegments_e N)
end Go.Rf.W
