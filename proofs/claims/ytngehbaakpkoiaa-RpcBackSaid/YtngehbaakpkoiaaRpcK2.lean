/-
  The printed functions are what the program does.
-/
import Derived.Test.YtngehbaakpkoiaaRpcK1
set_option linter.unusedVariables false
set_option maxRecDepth 100000
namespace Go.Rf.W
open Go Go.Rf Go.Proofs
noncomputable def rpc_Framer_Closed_v1_c : Code := codeOf Try.f26.body
noncomputable def rpc_Framer_Closed_v1_J (N : Nat) : Nat → Hint := fun cx => hintOf cx [(0, { reg := fun k => assoc0 k [], cnd := fun k => assoc0 k [], loop := fun k => assoc0 k [], nil := fun k => assoc0 k [], unr := fun k => assocN k [], blk := fun k => assoc0 k [] })]
noncomputable def rpc_Framer_Closed_v1_C (N : Nat) : Nat → List GS := fun k => tabOf k []
def rpc_Framer_Closed_v1_o : List (Shp × List Nat) := [(⟨[(0, (.av (.one .bool)))], [(.sh (.one (.const (.slw 7 1))), true), (.sh (.one (.int .i64)), true), (.sh (.one .bool), true), (.sh (.one (.const (.slw 8 1))), true), (.sh (.one (.int .i64)), true), (.sh (.one (.int .i64)), true), (.sh (.one .bool), false), (.sh (.arr (.int .u8) none), false), (.sh (.arr (.int .u8) none), false)]⟩, [])]
noncomputable def rpc_Framer_Closed_v1_g (N : Nat) : GS := { ins := ⟨[(0, (.av (.one (.const (.ptr ⟨0, 0, 0, 0⟩)))))], [(some (.one (.const (.slw 7 1))), true), (some (.one (.int .i64)), true), (some (.one .bool), true), (some (.one (.const (.slw 8 1))), true), (some (.one (.int .i64)), true), (some (.one (.int .i64)), true), (some (.one .bool), false), (some (.arr (.int .u8) none), false), (some (.arr (.int .u8) none), false)]⟩, lend := [.keep], outs := rpc_Framer_Closed_v1_o.map fun s => ssOf s.1, its := [.int, .bool, .int, .int, .bool, .lst (.int .u8), .lst (.int .u8)], ots := [[.bool, .int, .bool, .int, .int, .bool, .lst (.int .u8), .lst (.int .u8)]], F := rpc_Framer_Closed_v1 }
theorem rpc_Framer_Closed_v1_t (N : Nat) : TabC Try.prog (rpc_Framer_Closed_v1_C N) := tab_ok trivial
theorem rpc_Framer_Closed_v1_i : loopsOf rpc_Framer_Closed_v1_c = [] := by kernel_rfl
theorem rpc_Framer_Closed_v1_e (N : Nat) (x) : (rpc_Framer_Closed_v1_g N).F x = fnStep Γ (rpc_Framer_Closed_v1_C N) (rpc_Framer_Closed_v1_J N) 11 Try.f26.results.toList (rpc_Framer_Closed_v1_g N) rpc_Framer_Closed_v1_o rpc_Framer_Closed_v1_c x := by kernel_rfl
theorem rpc_Framer_Closed_v1_y : Try.f26.body = some rpc_Framer_Closed_v1_c := by kernel_rfl
theorem rpc_Framer_Closed_v1_n : (Try.f26.name == "runtime.NumGoroutine") = false := by kernel_rfl
theorem rpc_Framer_Closed_v1_ok (N : Nat) : FnDoes Try.prog 26 (rpc_Framer_Closed_v1_g N) := fn_ok tabOK (rpc_Framer_Closed_v1_t N) mixedOK (J := rpc_Framer_Closed_v1_J N) (body := rpc_Framer_Closed_v1_c) Try.func26 rpc_Framer_Closed_v1_y rpc_Framer_Closed_v1_n Try.ntmps26 (jok_from rpc_Framer_Closed_v1_i ⟨trivial, trivial⟩) rfl rfl (le_of_ble rfl) (rpc_Framer_Closed_v1_e N)
noncomputable def rpc_Framer_Left_v1_c : Code := codeOf Try.f24.body
noncomputable def rpc_Framer_Left_v1_J (N : Nat) : Nat → Hint := fun cx => hintOf cx []
noncomputable def rpc_Framer_Left_v1_C (N : Nat) : Nat → List GS := fun k => tabOf k []
def rpc_Framer_Left_v1_o : List (Shp × List Nat) := [(⟨[(0, (.av (.one (.int .i64))))], [(.sh (.one (.const (.slw 7 1))), true), (.sh (.one (.int .i64)), true), (.sh (.one .bool), true), (.sh (.one (.const (.slw 8 1))), true), (.sh (.one (.int .i64)), true), (.sh (.one (.int .i64)), true), (.sh (.one .bool), false), (.sh (.arr (.int .u8) none), false), (.sh (.arr (.int .u8) none), false)]⟩, [])]
noncomputable def rpc_Framer_Left_v1_g (N : Nat) : GS := { ins := ⟨[(0, (.av (.one (.const (.ptr ⟨0, 0, 0, 0⟩)))))], [(some (.one (.const (.slw 7 1))), true), (some (.one (.int .i64)), true), (some (.one .bool), true), (some (.one (.const (.slw 8 1))), true), (some (.one (.int .i64)), true), (some (.one (.int .i64)), true), (some (.one .bool), false), (some (.arr (.int .u8) none), false), (some (.arr (.int .u8) none), false)]⟩, lend := [.keep], outs := rpc_Framer_Left_v1_o.map fun s => ssOf s.1, its := [.int, .bool, .int, .int, .bool, .lst (.int .u8), .lst (.int .u8)], ots := [[.int, .int, .bool, .int, .int, .bool, .lst (.int .u8), .lst (.int .u8)]], F := rpc_Framer_Left_v1 }
theorem rpc_Framer_Left_v1_t (N : Nat) : TabC Try.prog (rpc_Framer_Left_v1_C N) := tab_ok trivial
theorem rpc_Framer_Left_v1_i : loopsOf rpc_Framer_Left_v1_c = [] := by kernel_rfl
theorem rpc_Framer_Left_v1_e (N : Nat) (x) : (rpc_Framer_Left_v1_g N).F x = fnStep Γ (rpc_Framer_Left_v1_C N) (rpc_Framer_Left_v1_J N) 9 Try.f24.results.toList (rpc_Framer_Left_v1_g N) rpc_Framer_Left_v1_o rpc_Framer_Left_v1_c x := by kernel_rfl
theorem rpc_Framer_Left_v1_y : Try.f24.body = some rpc_Framer_Left_v1_c := by kernel_rfl
theorem rpc_Framer_Left_v1_n : (Try.f24.name == "runtime.NumGoroutine") = false := by kernel_rfl
theorem rpc_Framer_Left_v1_ok (N : Nat) : FnDoes Try.prog 24 (rpc_Framer_Left_v1_g N) := fn_ok tabOK (rpc_Framer_Left_v1_t N) mixedOK (J := rpc_Framer_Left_v1_J N) (body := rpc_Framer_Left_v1_c) Try.func24 rpc_Framer_Left_v1_y rpc_Framer_Left_v1_n Try.ntmps24 (jok_from rpc_Framer_Left_v1_i trivial) rfl rfl (le_of_ble rfl) (rpc_Framer_Left_v1_e N)
noncomputable def rpc_Frame_v1_c : Code := codeOf Try.f13.body
noncomputable def rpc_Frame_v1_c0 : Code := codeOf (getLoop 0 rpc_Frame_v1_c)
def rpc_Frame_v1_d0 : LD := { ins := ⟨[(0, (.av (.one (.rsl (.int .u8))))), (5, (.av (.one (.const (.slw 0 1))))), (6, (.av (.one (.int .i64)))), (9, (.av (.one (.rsl (.int .i64))))), (10, (.av (.one (.int .i64)))), (11, (.av (.one (.int .i64))))], [(.sh (.arr (.int .u8) none), false)]⟩, mov := [0], wr := [], outs := [(.exit 0, ⟨[(0, (.av (.one (.rsl (.int .u8))))), (5, (.av (.one (.const (.slw 1 1)))))], [(.dead, false), (.sh (.arr (.int .u8) none), false)]⟩)], its := [.lst (.int .u8), .int, .lst (.int .i64), .int, .int, .lst (.int .u8)], ots := [[.lst (.int .u8), .lst (.int .u8)]] }
noncomputable def rpc_Frame_v1_J (N : Nat) : Nat → Hint := fun cx => hintOf cx [(0, { reg := fun k => assoc0 k [(6, ⟨⟨[(26, (.av (.one .bool)))], [(.keep, false)]⟩, [], [], [.bool]⟩)], cnd := fun k => assoc0 k [], loop := fun k => assoc0 k [(0, ⟨rpc_Frame_v1_d0, loopF (rpc_Frame_v1_b0 N) N⟩)], nil := fun k => assoc0 k [], unr := fun k => assocN k [], blk := fun k => assoc0 k [(1, ⟨[0], [], [(.normal, ⟨[(0, (.av (.one (.rsl (.int .u8))))), (5, (.av (.one (.const (.slw 1 1))))), (6, (.av (.one (.int .i64))))], [(.dead, false), (.sh (.arr (.int .u8) none), false)]⟩)], [[.lst (.int .u8), .int, .lst (.int .u8)]]⟩)] })]
noncomputable def rpc_Frame_v1_C (N : Nat) : Nat → List GS := fun k => tabOf k [(43, [octet_Put_g N, octet_Put_v1_g N])]
def rpc_Frame_v1_o : List (Shp × List Nat) := [(⟨[(0, (.av (.one (.const (.slw 0 1)))))], [(.sh (.arr (.int .u8) none), false)]⟩, [])]
noncomputable def rpc_Frame_v1_g (N : Nat) : GS := { ins := ⟨[(0, (.av (.one (.rsl (.int .u8))))), (1, (.av (.one (.rsl (.int .i64)))))], []⟩, lend := [.keep, .keep], outs := rpc_Frame_v1_o.map fun s => ssOf s.1, its := [.lst (.int .u8), .lst (.int .i64)], ots := [[.lst (.int .u8)]], F := rpc_Frame_v1 N }
noncomputable def rpc_Frame_v1_CA (N : Nat) (f0 : Int × Int → Option ((List Int))) (f1 : Int × Int × (List Int) → Option ((List Int))) : Nat → List GS := fun k => tabOf k [(43, [{ octet_Put_g N with F := f0 }, { octet_Put_v1_g N with F := f1 }])]
theorem rpc_Frame_v1_CE (N : Nat) : rpc_Frame_v1_CA N (octet_Put N) (octet_Put_v1 N) = rpc_Frame_v1_C N := by kernel_rfl
theorem rpc_Frame_v1_t (N : Nat) : TabC Try.prog (rpc_Frame_v1_C N) := tab_ok ⟨⟨octet_Put_ok N, octet_Put_v1_ok N, trivial⟩, trivial⟩
theorem rpc_Frame_v1_i0 : loopsOf rpc_Frame_v1_c0 = [] := by kernel_rfl
noncomputable def rpc_Frame_v1_a0 (N : Nat) (f0 : Int × Int → Option ((List Int))) (f1 : Int × Int × (List Int) → Option ((List Int))) (next : (List Int) × Int × (List Int) × Int × Int × (List Int) → Option (((List Int) × (List Int)))) (x : (List Int) × Int × (List Int) × Int × Int × (List Int)) : Option (((List Int) × (List Int))) :=
  (cond (decide (x.2.2.2.2.1 < x.2.2.2.1))
  (Option.bind
  (cond ((decide ((0 : Int) ≤ x.2.2.2.2.1)) && (decide (x.2.2.2.2.1 < (((List.length x.2.2.1) : Nat) : Int))))
  ((let v2 : Int := (List.getD x.2.2.1 (Int.toNat x.2.2.2.2.1) (EK.dflt (.int .i64)))
  (Option.bind
  (cond (decide (v2 ≤ (0 : Int)))
  (some true)
  (cond (decide ((((List.length x.1) : Nat) : Int) ≤ v2))
  (some true)
  (some (decide ((32 : Int) ≤ x.2.1)))))
  fun r7 =>
  (cond r7
  (some (x.1, x.2.1, x.2.2.2.2.2))
  (Option.bind (f1 ((wrapF .u64 v2), (4 : Int), x.2.2.2.2.2)) fun r9 =>
  (cond ((decide ((0 : Int) ≤ v2)) && (decide (v2 ≤ (((List.length x.1) : Nat) : Int))))
  ((let v10 : List Int := (List.take (Int.toNat v2) (List.drop 0 x.1))
  (cond (fits 1 ((List.length r9) + (List.length v10)))
  ((cond (((decide ((0 : Int) ≤ v2)) && (decide (v2 ≤ (((List.length x.1) : Nat) : Int)))) && (decide ((((List.length x.1) : Nat) : Int) ≤ (((List.length x.1) : Nat) : Int))))
  ((some ((List.take ((List.length x.1) - (Int.toNat v2)) (List.drop (Int.toNat v2) x.1)), (wrapF .i64 (x.2.1 + (1 : Int))), (r9 ++ v10))))
  none))
  none)))
  none))))))
  none)
  fun r14 =>
  (next (r14.1, r14.2.1, x.2.2.1, x.2.2.2.1, (wrapF .i64 (x.2.2.2.2.1 + (1 : Int))), r14.2.2)))
  (some (x.1, x.2.2.2.2.2)))
theorem rpc_Frame_v1_f0 (N : Nat) (f0 : Int × Int → Option ((List Int))) (f1 : Int × Int × (List Int) → Option ((List Int))) (next) (x) : rpc_Frame_v1_a0 N f0 f1 next x = loopStep Γ (rpc_Frame_v1_CA N f0 f1) (rpc_Frame_v1_J N) 0 50 rpc_Frame_v1_d0 rpc_Frame_v1_c0 next x := by kernel_rfl
theorem rpc_Frame_v1_e0 (N : Nat) (next) (x) : rpc_Frame_v1_b0 N next x = loopStep Γ (rpc_Frame_v1_C N) (rpc_Frame_v1_J N) 0 50 rpc_Frame_v1_d0 rpc_Frame_v1_c0 next x := by
  rw [← rpc_Frame_v1_CE N]
  exact Eq.trans (by kernel_rfl) (rpc_Frame_v1_f0 N (octet_Put N) (octet_Put_v1 N) next x)
theorem rpc_Frame_v1_k0 (N : Nat) : LoopOK Try.prog 50 rpc_Frame_v1_c0 ⟨rpc_Frame_v1_d0, loopF (rpc_Frame_v1_b0 N) N⟩ := loop_ok tabOK (rpc_Frame_v1_t N) mixedOK (J := rpc_Frame_v1_J N) (cx := 0) (body := rpc_Frame_v1_c0) (nt := 50) (l := rpc_Frame_v1_d0) (b := rpc_Frame_v1_b0 N) (jok_from rpc_Frame_v1_i0 ⟨trivial, trivial⟩) (rpc_Frame_v1_e0 N) N
theorem rpc_Frame_v1_i : loopsOf rpc_Frame_v1_c = [(0, rpc_Frame_v1_c0)] := by kernel_rfl
noncomputable def rpc_Frame_v1_a (N : Nat) (f0 : Int × Int → Option ((List Int))) (f1 : Int × Int × (List Int) → Option ((List Int))) (x : (List Int) × (List Int)) : Option ((List Int)) :=
  (Option.bind (rpc_Frame_v1_l0 N (x.1, (1 : Int), x.2, (((List.length x.2) : Nat) : Int), (0 : Int), ([] : List Int))) fun r2 =>
  (Option.bind (f1 ((wrapF .u64 (orF .u32 (2147483648 : Int) (wrapF .u32 (((List.length r2.1) : Nat) : Int)))), (4 : Int), r2.2)) fun r7 =>
  (cond (fits 1 ((List.length r7) + (List.length r2.1)))
  ((some (r7 ++ r2.1)))
  none)))
theorem rpc_Frame_v1_f (N : Nat) (f0 : Int × Int → Option ((List Int))) (f1 : Int × Int × (List Int) → Option ((List Int))) (x) : rpc_Frame_v1_a N f0 f1 x = fnStep Γ (rpc_Frame_v1_CA N f0 f1) (rpc_Frame_v1_J N) 50 Try.f13.results.toList (rpc_Frame_v1_g N) rpc_Frame_v1_o rpc_Frame_v1_c x := by kernel_rfl
theorem rpc_Frame_v1_e (N : Nat) (x) : (rpc_Frame_v1_g N).F x = fnStep Γ (rpc_Frame_v1_C N) (rpc_Frame_v1_J N) 50 Try.f13.results.toList (rpc_Frame_v1_g N) rpc_Frame_v1_o rpc_Frame_v1_c x := by
  rw [← rpc_Frame_v1_CE N]
  exact Eq.trans (by kernel_rfl) (rpc_Frame_v1_f N (octet_Put N) (octet_Put_v1 N) x)
theorem rpc_Frame_v1_y : Try.f13.body = some rpc_Frame_v1_c := by kernel_rfl
theorem rpc_Frame_v1_n : (Try.f13.name == "runtime.NumGoroutine") = false := by kernel_rfl
theorem rpc_Frame_v1_ok (N : Nat) : FnDoes Try.prog 13 (rpc_Frame_v1_g N) := fn_ok tabOK (rpc_Frame_v1_t N) mixedOK (J := rpc_Frame_v1_J N) (body := rpc_Frame_v1_c) Try.func13 rpc_Frame_v1_y rpc_Frame_v1_n Try.ntmps13 (jok_from rpc_Frame_v1_i ⟨⟨.inr ⟨_, rfl, rpc_Frame_v1_k0 N⟩, trivial⟩, trivial⟩) rfl rfl (le_of_ble rfl) (rpc_Frame_v1_e N)
noncomputable def granaryref21_SameCall_v2_c : Code := codeOf Try.f31.body
noncomputable def granaryref21_SameCall_v2_J (N : Nat) : Nat → Hint := fun cx => hintOf cx [(0, { reg := fun k => assoc0 k [(1, ⟨⟨[(4, (.av (.one .bool)))], [(.keep, true), (.keep, true), (.keep, true), (.keep, true), (.keep, true), (.keep, true), (.keep, true), (.keep, true), (.keep, true), (.keep, false), (.keep, true), (.keep, true), (.keep, true), (.keep, true), (.keep, true), (.keep, true), (.keep, true), (.keep, true), (.keep, true), (.keep, false)]⟩, [], [], [.bool]⟩)], cnd := fun k => assoc0 k [], loop := fun k => assoc0 k [], nil := fun k => assoc0 k [], unr := fun k => assocN k [], blk := fun k => assoc0 k [] })]
noncomputable def granaryref21_SameCall_v2_C (N : Nat) : Nat → List GS := fun k => tabOf k [(36, [granaryref21_SameAuth_v1_g N])]
def granaryref21_SameCall_v2_o : List (Shp × List Nat) := [(⟨[(0, (.av (.one .bool)))], []⟩, [])]
noncomputable def granaryref21_SameCall_v2_g (N : Nat) : GS := { ins := ⟨[(0, (.av (.agg [(.one (.int .u32)), (.one (.int .u32)), (.one (.int .u32)), (.one (.int .u32)), (.one (.int .u32)), (.one (.int .u32)), (.one (.rsl (.int .u8))), (.one (.int .u32)), (.one (.rsl (.int .u8))), (.one (.rsl (.int .u8)))]))), (1, (.av (.agg [(.one (.int .u32)), (.one (.int .u32)), (.one (.int .u32)), (.one (.int .u32)), (.one (.int .u32)), (.one (.int .u32)), (.one (.rsl (.int .u8))), (.one (.int .u32)), (.one (.rsl (.int .u8))), (.one (.rsl (.int .u8)))])))], []⟩, lend := [.agg [none, none, none, none, none, none, some (.int .u8), none, some (.int .u8), some (.int .u8)], .keep], outs := granaryref21_SameCall_v2_o.map fun s => ssOf s.1, its := [.int, .int, .int, .int, .int, .int, .lst (.int .u8), .int, .lst (.int .u8), .lst (.int .u8), .int, .int, .int, .int, .int, .int, .lst (.int .u8), .int, .lst (.int .u8), .lst (.int .u8)], ots := [[.bool]], F := granaryref21_SameCall_v2 }
noncomputable def granaryref21_SameCall_v2_CA (N : Nat) (f0 : Int × (List Int) × Int × (List Int) → Option (Bool)) : Nat → List GS := fun k => tabOf k [(36, [{ granaryref21_SameAuth_v1_g N with F := f0 }])]
theorem granaryref21_SameCall_v2_CE (N : Nat) : granaryref21_SameCall_v2_CA N (granaryref21_SameAuth_v1) = granaryref21_SameCall_v2_C N := by kernel_rfl
theorem granaryref21_SameCall_v2_t (N : Nat) : TabC Try.prog (granaryref21_SameCall_v2_C N) := tab_ok ⟨⟨granaryref21_SameAuth_v1_ok N, trivial⟩, trivial⟩
theorem granaryref21_SameCall_v2_i : loopsOf granaryref21_SameCall_v2_c = [] := by kernel_rfl
noncomputable def granaryref21_SameCall_v2_a (N : Nat) (f0 : Int × (List Int) × Int × (List Int) → Option (Bool)) (x : Int × Int × Int × Int × Int × Int × (List Int) × Int × (List Int) × (List Int) × Int × Int × Int × Int × Int × Int × (List Int) × Int × (List Int) × (List Int)) : Option (Bool) :=
  (Option.bind
  (cond (decide (x.1 = x.2.2.2.2.2.2.2.2.2.2.1))
  (cond (decide (x.2.1 = x.2.2.2.2.2.2.2.2.2.2.2.1))
  (cond (decide (x.2.2.1 = x.2.2.2.2.2.2.2.2.2.2.2.2.1))
  (cond (decide (x.2.2.2.1 = x.2.2.2.2.2.2.2.2.2.2.2.2.2.1))
  (cond (decide (x.2.2.2.2.1 = x.2.2.2.2.2.2.2.2.2.2.2.2.2.2.1))
  (Option.bind (f0 (x.2.2.2.2.2.1, x.2.2.2.2.2.2.1, x.2.2.2.2.2.2.2.2.2.2.2.2.2.2.2.1, x.2.2.2.2.2.2.2.2.2.2.2.2.2.2.2.2.1)) fun r6 =>
  (cond r6
  (Option.bind (f0 (x.2.2.2.2.2.2.2.1, x.2.2.2.2.2.2.2.2.1, x.2.2.2.2.2.2.2.2.2.2.2.2.2.2.2.2.2.1, x.2.2.2.2.2.2.2.2.2.2.2.2.2.2.2.2.2.2.1)) fun r7 =>
  (cond r7
  (some (decide ((List.map (fun (n : Int) => UInt8.ofNat n.toNat) x.2.2.2.2.2.2.2.2.2.1) = (List.map (fun (n : Int) => UInt8.ofNat n.toNat) x.2.2.2.2.2.2.2.2.2.2.2.2.2.2.2.2.2.2.2))))
  (some false)))
  (some false)))
  (some false))
  (some false))
  (some false))
  (some false))
  (some false))
  fun r11 =>
  (some r11))
theorem granaryref21_SameCall_v2_f (N : Nat) (f0 : Int × (List Int) × Int × (List Int) → Option (Bool)) (x) : granaryref21_SameCall_v2_a N f0 x = fnStep Γ (granaryref21_SameCall_v2_CA N f0) (granaryref21_SameCall_v2_J N) 61 Try.f31.results.toList (granaryref21_SameCall_v2_g N) granaryref21_SameCall_v2_o granaryref21_SameCall_v2_c x := by kernel_rfl
theorem granaryref21_SameCall_v2_e (N : Nat) (x) : (granaryref21_SameCall_v2_g N).F x = fnStep Γ (granaryref21_SameCall_v2_C N) (granaryref21_SameCall_v2_J N) 61 Try.f31.results.toList (granaryref21_SameCall_v2_g N) granaryref21_SameCall_v2_o granaryref21_SameCall_v2_c x := by
  rw [← granaryref21_SameCall_v2_CE N]
  exact Eq.trans (by kernel_rfl) (granaryref21_SameCall_v2_f N (granaryref21_SameAuth_v1) x)
theorem granaryref21_SameCall_v2_y : Try.f31.body = some granaryref21_SameCall_v2_c := by kernel_rfl
theorem granaryref21_SameCall_v2_n : (Try.f31.name == "runtime.NumGoroutine") = false := by kernel_rfl
theorem granaryref21_SameCall_v2_ok (N : Nat) : FnDoes Try.prog 31 (granaryref21_SameCall_v2_g N) := fn_ok tabOK (granaryref21_SameCall_v2_t N) mixedOK (J := granaryref21_SameCall_v2_J N) (body := granaryref21_SameCall_v2_c) Try.func31 granaryref21_SameCall_v2_y granaryref21_SameCall_v2_n Try.ntmps31 (jok_from granaryref21_SameCall_v2_i ⟨trivial, trivial⟩) rfl rfl (le_of_ble rfl) (granaryref21_SameCall_v2_e N)
noncomputable def granaryref21_SameReply_v2_c : Code := codeOf Try.f42.body
noncomputable def granaryref21_SameReply_v2_J (N : Nat) : Nat → Hint := fun cx => hintOf cx [(0, { reg := fun k => assoc0 k [(1, ⟨⟨[(4, (.av (.one .bool)))], [(.keep, true), (.keep, true), (.keep, true), (.keep, true), (.keep, true), (.keep, false), (.keep, true), (.keep, true), (.keep, true), (.keep, true), (.keep, true), (.keep, false)]⟩, [], [], [.bool]⟩)], cnd := fun k => assoc0 k [], loop := fun k => assoc0 k [], nil := fun k => assoc0 k [], unr := fun k => assocN k [], blk := fun k => assoc0 k [] })]
noncomputable def granaryref21_SameReply_v2_C (N : Nat) : Nat → List GS := fun k => tabOf k []
def granaryref21_SameReply_v2_o : List (Shp × List Nat) := [(⟨[(0, (.av (.one .bool)))], []⟩, [])]
noncomputable def granaryref21_SameReply_v2_g (N : Nat) : GS := { ins := ⟨[(0, (.av (.agg [(.one (.int .u32)), (.one (.int .i64)), (.one (.int .u32)), (.one (.int .u32)), (.one (.int .u32)), (.one (.rsl (.int .u8)))]))), (1, (.av (.agg [(.one (.int .u32)), (.one (.int .i64)), (.one (.int .u32)), (.one (.int .u32)), (.one (.int .u32)), (.one (.rsl (.int .u8)))])))], []⟩, lend := [.agg [none, none, none, none, none, some (.int .u8)], .keep], outs := granaryref21_SameReply_v2_o.map fun s => ssOf s.1, its := [.int, .int, .int, .int, .int, .lst (.int .u8), .int, .int, .int, .int, .int, .lst (.int .u8)], ots := [[.bool]], F := granaryref21_SameReply_v2 }
theorem granaryref21_SameReply_v2_t (N : Nat) : TabC Try.prog (granaryref21_SameReply_v2_C N) := tab_ok trivial
theorem granaryref21_SameReply_v2_i : loopsOf granaryref21_SameReply_v2_c = [] := by kernel_rfl
theorem granaryref21_SameReply_v2_e (N : Nat) (x) : (granaryref21_SameReply_v2_g N).F x = fnStep Γ (granaryref21_SameReply_v2_C N) (granaryref21_SameReply_v2_J N) 47 Try.f42.results.toList (granaryref21_SameReply_v2_g N) granaryref21_SameReply_v2_o granaryref21_SameReply_v2_c x := by kernel_rfl
theorem granaryref21_SameReply_v2_y : Try.f42.body = some granaryref21_SameReply_v2_c := by kernel_rfl
theorem granaryref21_SameReply_v2_n : (Try.f42.name == "runtime.NumGoroutine") = false := by kernel_rfl
theorem granaryref21_SameReply_v2_ok (N : Nat) : FnDoes Try.prog 42 (granaryref21_SameReply_v2_g N) := fn_ok tabOK (granaryref21_SameReply_v2_t N) mixedOK (J := granaryref21_SameReply_v2_J N) (body := granaryref21_SameReply_v2_c) Try.func42 granaryref21_SameReply_v2_y granaryref21_SameReply_v2_n Try.ntmps42 (jok_from granaryref21_SameReply_v2_i ⟨trivial, trivial⟩) rfl rfl (le_of_ble rfl) (granaryref21_SameReply_v2_e N)
noncomputable def granaryref21_SameCred_v2_c : Code := codeOf Try.f37.body
noncomputable def granaryref21_SameCred_v2_c0 : Code := codeOf (getLoop 0 granaryref21_SameCred_v2_c)
def granaryref21_SameCred_v2_d0 : LD := { ins := ⟨[(2, (.av (.one (.const (.ptr ⟨0, 0, 0, 0⟩))))), (3, (.av (.one (.const (.ptr ⟨6, 0, 0, 0⟩))))), (5, (.av (.one (.int .i64))))], [(.sh (.one (.int .u32)), true), (.sh (.one (.int .u32)), true), (.sh (.one .str), true), (.sh (.one (.int .u32)), true), (.sh (.one (.int .u32)), true), (.sh (.one (.rsl (.int .u32))), false), (.sh (.one (.int .u32)), true), (.sh (.one (.int .u32)), true), (.sh (.one .str), true), (.sh (.one (.int .u32)), true), (.sh (.one (.int .u32)), true), (.sh (.one (.rsl (.int .u32))), false)]⟩, mov := [], wr := [0, 1, 2, 3, 4, 5, 6, 7, 8, 9, 10, 11], outs := [(.ret, ⟨[(4, (.av (.one (.const (.bool false)))))], [(.sh (.one (.int .u32)), true), (.sh (.one (.int .u32)), true), (.sh (.one .str), true), (.sh (.one (.int .u32)), true), (.sh (.one (.int .u32)), true), (.sh (.one (.rsl (.int .u32))), false), (.sh (.one (.int .u32)), true), (.sh (.one (.int .u32)), true), (.sh (.one .str), true), (.sh (.one (.int .u32)), true), (.sh (.one (.int .u32)), true), (.sh (.one (.rsl (.int .u32))), false)]⟩), (.exit 0, ⟨[], [(.sh (.one (.int .u32)), true), (.sh (.one (.int .u32)), true), (.sh (.one .str), true), (.sh (.one (.int .u32)), true), (.sh (.one (.int .u32)), true), (.sh (.one (.rsl (.int .u32))), false), (.sh (.one (.int .u32)), true), (.sh (.one (.int .u32)), true), (.sh (.one .str), true), (.sh (.one (.int .u32)), true), (.sh (.one (.int .u32)), true), (.sh (.one (.rsl (.int .u32))), false)]⟩)], its := [.int, .int, .int, .str, .int, .int, .lst (.int .u32), .int, .int, .str, .int, .int, .lst (.int .u32)], ots := [[.int, .int, .str, .int, .int, .lst (.int .u32), .int, .int, .str, .int, .int, .lst (.int .u32)], [.int, .int, .str, .int, .int, .lst (.int .u32), .int, .int, .str, .int, .int, .lst (.int .u32)]] }
noncomputable def granaryref21_SameCred_v2_J (N : Nat) : Nat → Hint := fun cx => hintOf cx [(0, { reg := fun k => assoc0 k [(1, ⟨⟨[(47, (.av (.one .bool)))], [(.keep, true), (.keep, true), (.keep, true), (.keep, true), (.keep, true), (.keep, false), (.keep, true), (.keep, true), (.keep, true), (.keep, true), (.keep, true), (.keep, false)]⟩, [], [], [.bool]⟩)], cnd := fun k => assoc0 k [], loop := fun k => assoc0 k [(0, ⟨granaryref21_SameCred_v2_d0, loopF (granaryref21_SameCred_v2_b0 N) N⟩)], nil := fun k => assoc0 k [], unr := fun k => assocN k [], blk := fun k => assoc0 k [] })]
noncomputable def granaryref21_SameCred_v2_C (N : Nat) : Nat → List GS := fun k => tabOf k []
def granaryref21_SameCred_v2_o : List (Shp × List Nat) := [(⟨[(0, (.av (.one .bool)))], []⟩, [])]
noncomputable def granaryref21_SameCred_v2_g (N : Nat) : GS := { ins := ⟨[(0, (.av (.agg [(.one (.int .u32)), (.one (.int .u32)), (.one .str), (.one (.int .u32)), (.one (.int .u32)), (.one (.rsl (.int .u32)))]))), (1, (.av (.agg [(.one (.int .u32)), (.one (.int .u32)), (.one .str), (.one (.int .u32)), (.one (.int .u32)), (.one (.rsl (.int .u32)))])))], []⟩, lend := [.agg [none, none, none, none, none, some (.int .u32)], .keep], outs := granaryref21_SameCred_v2_o.map fun s => ssOf s.1, its := [.int, .int, .str, .int, .int, .lst (.int .u32), .int, .int, .str, .int, .int, .lst (.int .u32)], ots := [[.bool]], F := granaryref21_SameCred_v2 N }
theorem granaryref21_SameCred_v2_t (N : Nat) : TabC Try.prog (granaryref21_SameCred_v2_C N) := tab_ok trivial
theorem granaryref21_SameCred_v2_i0 : loopsOf granaryref21_SameCred_v2_c0 = [] := by kernel_rfl
theorem granaryref21_SameCred_v2_e0 (N : Nat) (next) (x) : granaryref21_SameCred_v2_b0 N next x = loopStep Γ (granaryref21_SameCred_v2_C N) (granaryref21_SameCred_v2_J N) 0 66 granaryref21_SameCred_v2_d0 granaryref21_SameCred_v2_c0 next x := by kernel_rfl
theorem granaryref21_SameCred_v2_k0 (N : Nat) : LoopOK Try.prog 66 granaryref21_SameCred_v2_c0 ⟨granaryref21_SameCred_v2_d0, loopF (granaryref21_SameCred_v2_b0 N) N⟩ := loop_ok tabOK (granaryref21_SameCred_v2_t N) mixedOK (J := granaryref21_SameCred_v2_J N) (cx := 0) (body := granaryref21_SameCred_v2_c0) (nt := 66) (l := granaryref21_SameCred_v2_d0) (b := granaryref21_SameCred_v2_b0 N) (jok_from granaryref21_SameCred_v2_i0 ⟨trivial, trivial⟩) (granaryref21_SameCred_v2_e0 N) N
theorem granaryref21_SameCred_v2_i : loopsOf granaryref21_SameCred_v2_c = [(0, granaryref21_SameCred_v2_c0)] := by kernel_rfl
theorem granaryref21_SameCred_v2_e (N : Nat) (x) : (granaryref21_SameCred_v2_g N).F x = fnStep Γ (granaryref21_SameCred_v2_C N) (granaryref21_SameCred_v2_J N) 66 Try.f37.results.toList (granaryref21_SameCred_v2_g N) granaryref21_SameCred_v2_o granaryref21_SameCred_v2_c x := by kernel_rfl
theorem granaryref21_SameCred_v2_y : Try.f37.body = some granaryref21_SameCred_v2_c := by kernel_rfl
theorem granaryref21_SameCred_v2_n : (Try.f37.name == "runtime.NumGoroutine") = false := by kernel_rfl
theorem granaryref21_SameCred_v2_ok (N : Nat) : FnDoes Try.prog 37 (granaryref21_SameCred_v2_g N) := fn_ok tabOK (granaryref21_SameCred_v2_t N) mixedOK (J := granaryref21_SameCred_v2_J N) (body := granaryref21_SameCred_v2_c) Try.func37 granaryref21_SameCred_v2_y granaryref21_SameCred_v2_n Try.ntmps37 (jok_from granaryref21_SameCred_v2_i ⟨⟨.inr ⟨_, rfl, granaryref21_SameCred_v2_k0 N⟩, trivial⟩, trivial⟩) rfl rfl (le_of_ble rfl) (granaryref21_SameCred_v2_e N)
noncomputable def rpc_PutCall_v1_c : Code := codeOf Try.f27.body
noncomputable def rpc_PutCall_v1_c0 : Code := codeOf (getLoop 0 rpc_PutCall_v1_c)
def rpc_PutCall_v1_d0 : LD := { ins := ⟨[(1, (.av (.one (.const (.ptr ⟨0, 0, 0, 0⟩))))), (4, (.av (.one (.const (.ptr ⟨10, 0, 0, 0⟩))))), (18, (.av (.one (.sl 12 1)))), (19, (.av (.one (.const (.int .i64 (6 : Int)))))), (20, (.av (.one (.int .i64))))], [(.keep, false), (.keep, false), (.keep, false), (.keep, false), (.keep, false), (.keep, false), (.keep, false), (.keep, false), (.keep, false), (.keep, false), (.sh (.one (.const (.slw 13 1))), true), (.sh (.one (.int .i64)), false), (.sh (.arr (.int .u32) none), false), (.sh (.arr (.int .u8) none), false)]⟩, mov := [13], wr := [10, 11, 12], outs := [(.exit 0, ⟨[], [(.keep, false), (.keep, false), (.keep, false), (.keep, false), (.keep, false), (.keep, false), (.keep, false), (.keep, false), (.keep, false), (.keep, false), (.sh (.one (.const (.slw 14 1))), true), (.sh (.one (.int .i64)), false), (.sh (.arr (.int .u32) none), false), (.dead, false), (.sh (.arr (.int .u8) none), false)]⟩)], its := [.nat, .nat, .int, .int, .lst (.int .u32), .lst (.int .u8)], ots := [[.int, .lst (.int .u32), .lst (.int .u8)]] }
noncomputable def rpc_PutCall_v1_J (N : Nat) : Nat → Hint := fun cx => hintOf cx [(0, { reg := fun k => assoc0 k [], cnd := fun k => assoc0 k [], loop := fun k => assoc0 k [(0, ⟨rpc_PutCall_v1_d0, loopF (rpc_PutCall_v1_b0 N) N⟩)], nil := fun k => assoc0 k [], unr := fun k => assocN k [], blk := fun k => assoc0 k [] })]
noncomputable def rpc_PutCall_v1_C (N : Nat) : Nat → List GS := fun k => tabOf k [(56, [xdr_NewWriter_g N]), (57, [xdr_Writer_Uint_g N, xdr_Writer_Uint_v1_g N]), (58, [rpc_putAuth_g N]), (59, [xdr_Writer_Why_g N]), (60, [xdr_Writer_Bytes_g N])]
def rpc_PutCall_v1_o : List (Shp × List Nat) := [(⟨[(0, (.tup [(.one (.const (.slw 0 1))), (.one (.int .i64))]))], [(.sh (.arr (.int .u8) none), false)]⟩, [])]
noncomputable def rpc_PutCall_v1_g (N : Nat) : GS := { ins := ⟨[(0, (.av (.agg [(.one (.int .u32)), (.one (.int .u32)), (.one (.int .u32)), (.one (.int .u32)), (.one (.int .u32)), (.one (.int .u32)), (.one (.rsl (.int .u8))), (.one (.int .u32)), (.one (.rsl (.int .u8))), (.one (.rsl (.int .u8)))])))], []⟩, lend := [.agg [none, none, none, none, none, none, some (.int .u8), none, some (.int .u8), some (.int .u8)]], outs := rpc_PutCall_v1_o.map fun s => ssOf s.1, its := [.int, .int, .int, .int, .int, .int, .lst (.int .u8), .int, .lst (.int .u8), .lst (.int .u8)], ots := [[.int, .lst (.int .u8)]], F := rpc_PutCall_v1 N }
noncomputable def rpc_PutCall_v1_CA (N : Nat) (f0 : Unit → Option (Unit)) (f1 : Int × Int → Option (Int × (List Int))) (f2 : Int × Int × (List Int) → Option (Int × (List Int))) (f3 : Int × (List Int) × Int × (List Int) → Option (Int × (List Int))) (f4 : Int × (List Int) → Option (Int × Int × (List Int))) (f5 : Int × (List Int) → Option (Int × (List Int) × (List Int))) : Nat → List GS := fun k => tabOf k [(56, [{ xdr_NewWriter_g N with F := f0 }]), (57, [{ xdr_Writer_Uint_g N with F := f1 }, { xdr_Writer_Uint_v1_g N with F := f2 }]), (58, [{ rpc_putAuth_g N with F := f3 }]), (59, [{ xdr_Writer_Why_g N with F := f4 }]), (60, [{ xdr_Writer_Bytes_g N with F := f5 }])]
theorem rpc_PutCall_v1_CE (N : Nat) : rpc_PutCall_v1_CA N (xdr_NewWriter) (xdr_Writer_Uint N) (xdr_Writer_Uint_v1 N) (rpc_putAuth N) (xdr_Writer_Why) (xdr_Writer_Bytes) = rpc_PutCall_v1_C N := by kernel_rfl
theorem rpc_PutCall_v1_t (N : Nat) : TabC Try.prog (rpc_PutCall_v1_C N) := tab_ok ⟨⟨xdr_NewWriter_ok N, trivial⟩, ⟨xdr_Writer_Uint_ok N, xdr_Writer_Uint_v1_ok N, trivial⟩, ⟨rpc_putAuth_ok N, trivial⟩, ⟨xdr_Writer_Why_ok N, trivial⟩, ⟨xdr_Writer_Bytes_ok N, trivial⟩, trivial⟩
theorem rpc_PutCall_v1_i0 : loopsOf rpc_PutCall_v1_c0 = [] := by kernel_rfl
noncomputable def rpc_PutCall_v1_a0 (N : Nat) (f0 : Unit → Option (Unit)) (f1 : Int × Int → Option (Int × (List Int))) (f2 : Int × Int × (List Int) → Option (Int × (List Int))) (f3 : Int × (List Int) × Int × (List Int) → Option (Int × (List Int))) (f4 : Int × (List Int) → Option (Int × Int × (List Int))) (f5 : Int × (List Int) → Option (Int × (List Int) × (List Int))) (next : Nat × Nat × Int × Int × (List Int) × (List Int) → Option ((Int × (List Int) × (List Int)))) (x : Nat × Nat × Int × Int × (List Int) × (List Int)) : Option ((Int × (List Int) × (List Int))) :=
  (cond (decide (x.2.2.1 < (6 : Int)))
  (cond ((decide ((0 : Int) ≤ x.2.2.1)) && (decide (x.2.2.1 < ((x.2.1 : Nat) : Int))))
  ((let v2 : Nat := ((Int.toNat x.2.2.1) + x.1)
  (cond (decide (v2 < (List.length x.2.2.2.2.1)))
  ((Option.bind (f2 ((List.getD x.2.2.2.2.1 v2 (EK.dflt (.int .u32))), x.2.2.2.1, x.2.2.2.2.2)) fun r4 =>
  (next (x.1, x.2.1, (wrapF .i64 (x.2.2.1 + (1 : Int))), r4.1, x.2.2.2.2.1, r4.2))))
  none)))
  none)
  (some (x.2.2.2.1, x.2.2.2.2.1, x.2.2.2.2.2)))
theorem rpc_PutCall_v1_f0 (N : Nat) (f0 : Unit → Option (Unit)) (f1 : Int × Int → Option (Int × (List Int))) (f2 : Int × Int × (List Int) → Option (Int × (List Int))) (f3 : Int × (List Int) × Int × (List Int) → Option (Int × (List Int))) (f4 : Int × (List Int) → Option (Int × Int × (List Int))) (f5 : Int × (List Int) → Option (Int × (List Int) × (List Int))) (next) (x) : rpc_PutCall_v1_a0 N f0 f1 f2 f3 f4 f5 next x = loopStep Γ (rpc_PutCall_v1_CA N f0 f1 f2 f3 f4 f5) (rpc_PutCall_v1_J N) 0 46 rpc_PutCall_v1_d0 rpc_PutCall_v1_c0 next x := by kernel_rfl
theorem rpc_PutCall_v1_e0 (N : Nat) (next) (x) : rpc_PutCall_v1_b0 N next x = loopStep Γ (rpc_PutCall_v1_C N) (rpc_PutCall_v1_J N) 0 46 rpc_PutCall_v1_d0 rpc_PutCall_v1_c0 next x := by
  rw [← rpc_PutCall_v1_CE N]
  exact Eq.trans (by kernel_rfl) (rpc_PutCall_v1_f0 N (xdr_NewWriter) (xdr_Writer_Uint N) (xdr_Writer_Uint_v1 N) (rpc_putAuth N) (xdr_Writer_Why) (xdr_Writer_Bytes) next x)
theorem rpc_PutCall_v1_k0 (N : Nat) : LoopOK Try.prog 46 rpc_PutCall_v1_c0 ⟨rpc_PutCall_v1_d0, loopF (rpc_PutCall_v1_b0 N) N⟩ := loop_ok tabOK (rpc_PutCall_v1_t N) mixedOK (J := rpc_PutCall_v1_J N) (cx := 0) (body := rpc_PutCall_v1_c0) (nt := 46) (l := rpc_PutCall_v1_d0) (b := rpc_PutCall_v1_b0 N) (jok_from rpc_PutCall_v1_i0 ⟨trivial, trivial⟩) (rpc_PutCall_v1_e0 N) N
theorem rpc_PutCall_v1_i : loopsOf rpc_PutCall_v1_c = [(0, rpc_PutCall_v1_c0)] := by kernel_rfl
noncomputable def rpc_PutCall_v1_a (N : Nat) (f0 : Unit → Option (Unit)) (f1 : Int × Int → Option (Int × (List Int))) (f2 : Int × Int × (List Int) → Option (Int × (List Int))) (f3 : Int × (List Int) × Int × (List Int) → Option (Int × (List Int))) (f4 : Int × (List Int) → Option (Int × Int × (List Int))) (f5 : Int × (List Int) → Option (Int × (List Int) × (List Int))) (x : Int × Int × Int × Int × Int × Int × (List Int) × Int × (List Int) × (List Int)) : Option (Int × (List Int)) :=
  (Option.bind (f0 ()) fun r1 =>
  (Option.bind (rpc_PutCall_v1_l0 N (0, 6, (0 : Int), (0 : Int), ([x.1, (0 : Int), x.2.1, x.2.2.1, x.2.2.2.1, x.2.2.2.2.1] : List Int), ([] : List Int))) fun r3 =>
  (Option.bind (f3 (x.2.2.2.2.2.1, x.2.2.2.2.2.2.1, r3.1, r3.2.2)) fun r4 =>
  (Option.bind (f3 (x.2.2.2.2.2.2.2.1, x.2.2.2.2.2.2.2.2.1, r4.1, r4.2)) fun r5 =>
  (Option.bind (f4 (r5.1, r5.2)) fun r6 =>
  (cond (!(decide (r6.1 = (0 : Int))))
  (Option.bind (f4 (r6.2.1, r6.2.2)) fun r8 =>
  (some (r8.1, ([] : List Int))))
  (Option.bind (f5 (r6.2.1, r6.2.2)) fun r9 =>
  (cond (fits 1 ((List.length r9.2.2) + (List.length x.2.2.2.2.2.2.2.2.2)))
  ((some ((0 : Int), (r9.2.2 ++ x.2.2.2.2.2.2.2.2.2))))
  none))))))))
theorem rpc_PutCall_v1_f (N : Nat) (f0 : Unit → Option (Unit)) (f1 : Int × Int → Option (Int × (List Int))) (f2 : Int × Int × (List Int) → Option (Int × (List Int))) (f3 : Int × (List Int) × Int × (List Int) → Option (Int × (List Int))) (f4 : Int × (List Int) → Option (Int × Int × (List Int))) (f5 : Int × (List Int) → Option (Int × (List Int) × (List Int))) (x) : rpc_PutCall_v1_a N f0 f1 f2 f3 f4 f5 x = fnStep Γ (rpc_PutCall_v1_CA N f0 f1 f2 f3 f4 f5) (rpc_PutCall_v1_J N) 46 Try.f27.results.toList (rpc_PutCall_v1_g N) rpc_PutCall_v1_o rpc_PutCall_v1_c x := by kernel_rfl
theorem rpc_PutCall_v1_e (N : Nat) (x) : (rpc_PutCall_v1_g N).F x = fnStep Γ (rpc_PutCall_v1_C N) (rpc_PutCall_v1_J N) 46 Try.f27.results.toList (rpc_PutCall_v1_g N) rpc_PutCall_v1_o rpc_PutCall_v1_c x := by
  rw [← rpc_PutCall_v1_CE N]
  exact Eq.trans (by kernel_rfl) (rpc_PutCall_v1_f N (xdr_NewWriter) (xdr_Writer_Uint N) (xdr_Writer_Uint_v1 N) (rpc_putAuth N) (xdr_Writer_Why) (xdr_Writer_Bytes) x)
theorem rpc_PutCall_v1_y : Try.f27.body = some rpc_PutCall_v1_c := by kernel_rfl
theorem rpc_PutCall_v1_n : (Try.f27.name == "runtime.NumGoroutine") = false := by kernel_rfl
theorem rpc_PutCall_v1_ok (N : Nat) : FnDoes Try.prog 27 (rpc_PutCall_v1_g N) := fn_ok tabOK (rpc_PutCall_v1_t N) mixedOK (J := rpc_PutCall_v1_J N) (body := rpc_PutCall_v1_c) Try.func27 rpc_PutCall_v1_y rpc_PutCall_v1_n Try.ntmps27 (jok_from rpc_PutCall_v1_i ⟨⟨.inr ⟨_, rfl, rpc_PutCall_v1_k0 N⟩, trivial⟩, trivial⟩) rfl rfl (le_of_ble rfl) (rpc_PutCall_v1_e N)
end Go.Rf.W
