/-
  The printed functions are what the program does.
-/
import Derived.Test.YtngehbaakpkoiaaRpcF0
import Derived.Test.YtngehbaakpkoiaaRpcT
import Derived.Test.YtngehbaakpkoiaaRfC
set_option linter.unusedVariables false
set_option maxRecDepth 100000
namespace Go.Rf.W
open Go Go.Rf Go.Proofs
noncomputable def rpc_NewFramer_c : Code := codeOf Try.f19.body
noncomputable def rpc_NewFramer_J (N : Nat) : Nat → Hint := fun cx => hintOf cx []
noncomputable def rpc_NewFramer_C (N : Nat) : Nat → List GS := fun k => tabOf k []
def rpc_NewFramer_o : List (Shp × List Nat) := [(⟨[(0, (.av (.one (.const (.ptr ⟨0, 0, 0, 0⟩)))))], [(.sh (.one (.const .nils)), true), (.sh (.one (.const (.int .i64 (0 : Int)))), true), (.sh (.one (.const (.bool false))), true), (.sh (.one (.const .nils)), true), (.sh (.one (.const (.int .i64 (0 : Int)))), true), (.sh (.one (.const (.int .i64 (0 : Int)))), true), (.sh (.one (.const (.bool false))), false)]⟩, [])]
noncomputable def rpc_NewFramer_g (N : Nat) : GS := { ins := ⟨[], []⟩, lend := [], outs := rpc_NewFramer_o.map fun s => ssOf s.1, its := [], ots := [[]], F := rpc_NewFramer }
theorem rpc_NewFramer_t (N : Nat) : TabC Try.prog (rpc_NewFramer_C N) := tab_ok trivial
theorem rpc_NewFramer_i : loopsOf rpc_NewFramer_c = [] := by kernel_rfl
theorem rpc_NewFramer_e (N : Nat) (x) : (rpc_NewFramer_g N).F x = fnStep Γ (rpc_NewFramer_C N) (rpc_NewFramer_J N) 3 Try.f19.results.toList (rpc_NewFramer_g N) rpc_NewFramer_o rpc_NewFramer_c x := by kernel_rfl
theorem rpc_NewFramer_y : Try.f19.body = some rpc_NewFramer_c := by kernel_rfl
theorem rpc_NewFramer_n : (Try.f19.name == "runtime.NumGoroutine") = false := by kernel_rfl
theorem rpc_NewFramer_ok (N : Nat) : FnDoes Try.prog 19 (rpc_NewFramer_g N) := fn_ok tabOK (rpc_NewFramer_t N) mixedOK (J := rpc_NewFramer_J N) (body := rpc_NewFramer_c) Try.func19 rpc_NewFramer_y rpc_NewFramer_n Try.ntmps19 (jok_from rpc_NewFramer_i trivial) rfl rfl (le_of_ble rfl) (rpc_NewFramer_e N)
noncomputable def octet_Get_c : Code := codeOf Try.f79.body
noncomputable def octet_Get_c0 : Code := codeOf (getLoop 0 octet_Get_c)
def octet_Get_d0 : LD := { ins := ⟨[(3, (.av (.one (.int .u64)))), (6, (.av (.one (.rsl (.int .u8))))), (7, (.av (.one (.int .i64)))), (8, (.av (.one (.int .i64))))], []⟩, mov := [], wr := [], outs := [(.exit 0, ⟨[(3, (.av (.one (.int .u64))))], []⟩)], its := [.int, .lst (.int .u8), .int, .int], ots := [[.int]] }
noncomputable def octet_Get_J (N : Nat) : Nat → Hint := fun cx => hintOf cx [(0, { reg := fun k => assoc0 k [], cnd := fun k => assoc0 k [], loop := fun k => assoc0 k [(0, ⟨octet_Get_d0, loopF (octet_Get_b0 N) N⟩)], nil := fun k => assoc0 k [], unr := fun k => assocN k [], blk := fun k => assoc0 k [] })]
noncomputable def octet_Get_C (N : Nat) : Nat → List GS := fun k => tabOf k []
def octet_Get_o : List (Shp × List Nat) := [(⟨[(0, (.av (.one (.int .u64))))], []⟩, [])]
noncomputable def octet_Get_g (N : Nat) : GS := { ins := ⟨[(0, (.av (.one (.rsl (.int .u8)))))], []⟩, lend := [.lend (.int .u8)], outs := octet_Get_o.map fun s => ssOf s.1, its := [.lst (.int .u8)], ots := [[.int]], F := octet_Get N }
theorem octet_Get_t (N : Nat) : TabC Try.prog (octet_Get_C N) := tab_ok trivial
theorem octet_Get_i0 : loopsOf octet_Get_c0 = [] := by kernel_rfl
theorem octet_Get_e0 (N : Nat) (next) (x) : octet_Get_b0 N next x = loopStep Γ (octet_Get_C N) (octet_Get_J N) 0 19 octet_Get_d0 octet_Get_c0 next x := by kernel_rfl
theorem octet_Get_k0 (N : Nat) : LoopOK Try.prog 19 octet_Get_c0 ⟨octet_Get_d0, loopF (octet_Get_b0 N) N⟩ := loop_ok tabOK (octet_Get_t N) mixedOK (J := octet_Get_J N) (cx := 0) (body := octet_Get_c0) (nt := 19) (l := octet_Get_d0) (b := octet_Get_b0 N) (jok_from octet_Get_i0 ⟨trivial, trivial⟩) (octet_Get_e0 N) N
theorem octet_Get_i : loopsOf octet_Get_c = [(0, octet_Get_c0)] := by kernel_rfl
theorem octet_Get_e (N : Nat) (x) : (octet_Get_g N).F x = fnStep Γ (octet_Get_C N) (octet_Get_J N) 19 Try.f79.results.toList (octet_Get_g N) octet_Get_o octet_Get_c x := by kernel_rfl
theorem octet_Get_y : Try.f79.body = some octet_Get_c := by kernel_rfl
theorem octet_Get_n : (Try.f79.name == "runtime.NumGoroutine") = false := by kernel_rfl
theorem octet_Get_ok (N : Nat) : FnDoes Try.prog 79 (octet_Get_g N) := fn_ok tabOK (octet_Get_t N) mixedOK (J := octet_Get_J N) (body := octet_Get_c) Try.func79 octet_Get_y octet_Get_n Try.ntmps79 (jok_from octet_Get_i ⟨⟨.inr ⟨_, rfl, octet_Get_k0 N⟩, trivial⟩, trivial⟩) rfl rfl (le_of_ble rfl) (octet_Get_e N)
noncomputable def rpc_Framer_begins_c : Code := codeOf Try.f54.body
noncomputable def rpc_Framer_begins_J (N : Nat) : Nat → Hint := fun cx => hintOf cx [(0, { reg := fun k => assoc0 k [(6, ⟨⟨[(2, (.av (.one .bool)))], [(.keep, true), (.keep, true), (.keep, true), (.keep, true), (.keep, true), (.keep, true), (.keep, false), (.keep, false)]⟩, [], [], [.bool]⟩)], cnd := fun k => assoc0 k [], loop := fun k => assoc0 k [], nil := fun k => assoc0 k [], unr := fun k => assocN k [], blk := fun k => assoc0 k [] })]
noncomputable def rpc_Framer_begins_C (N : Nat) : Nat → List GS := fun k => tabOf k [(79, [octet_Get_g N])]
def rpc_Framer_begins_o : List (Shp × List Nat) := [(⟨[(0, (.av (.one .bool)))], [(.sh (.one (.const .nils)), true), (.sh (.one (.int .i64)), true), (.sh (.one .bool), true), (.sh (.one (.const .nils)), true), (.sh (.one (.int .i64)), true), (.sh (.one (.int .i64)), true), (.sh (.one .bool), false), (.sh (.arr (.int .u8) none), false)]⟩, [])]
noncomputable def rpc_Framer_begins_g (N : Nat) : GS := { ins := ⟨[(0, (.av (.one (.const (.ptr ⟨0, 0, 0, 0⟩)))))], [(some (.one (.const (.slw 7 1))), true), (some (.one (.int .i64)), true), (some (.one .bool), true), (some (.one (.const .nils)), true), (some (.one (.int .i64)), true), (some (.one (.int .i64)), true), (some (.one .bool), false), (some (.arr (.int .u8) none), false)]⟩, lend := [.keep], outs := rpc_Framer_begins_o.map fun s => ssOf s.1, its := [.int, .bool, .int, .int, .bool, .lst (.int .u8)], ots := [[.bool, .int, .bool, .int, .int, .bool, .lst (.int .u8)]], F := rpc_Framer_begins N }
noncomputable def rpc_Framer_begins_CA (N : Nat) (f0 : (List Int) → Option (Int)) : Nat → List GS := fun k => tabOf k [(79, [{ octet_Get_g N with F := f0 }])]
theorem rpc_Framer_begins_CE (N : Nat) : rpc_Framer_begins_CA N (octet_Get N) = rpc_Framer_begins_C N := by kernel_rfl
theorem rpc_Framer_begins_t (N : Nat) : TabC Try.prog (rpc_Framer_begins_C N) := tab_ok ⟨⟨octet_Get_ok N, trivial⟩, trivial⟩
theorem rpc_Framer_begins_i : loopsOf rpc_Framer_begins_c = [] := by kernel_rfl
noncomputable def rpc_Framer_begins_a (N : Nat) (f0 : (List Int) → Option (Int)) (x : Int × Bool × Int × Int × Bool × (List Int)) : Option (Bool × Int × Bool × Int × Int × Bool × (List Int)) :=
  (cond (decide ((4 : Int) ≤ (((List.length x.2.2.2.2.2) : Nat) : Int)))
  ((cond (cond (decide (4 ≤ (List.length x.2.2.2.2.2))) true false)
  (Option.bind (f0 (List.take 4 (List.drop 0 x.2.2.2.2.2))) fun r1 =>
  (let v2 : Int := (wrapF .u32 r1)
  (let v6 : Int := (wrapF .i64 (andNotF .u32 v2 (2147483648 : Int)))
  (let v7 : Int := (wrapF .i64 (x.2.2.1 + (1 : Int)))
  (Option.bind
  (cond (decide ((wrapF .i64 ((0 : Int) + v6)) ≤ (4096 : Int)))
  (some (decide (v7 ≤ (32 : Int))))
  (some false))
  fun r11 =>
  (some (r11, v6, (!(decide ((andF .u32 v2 (2147483648 : Int)) = (0 : Int)))), v7, x.2.2.2.1, x.2.2.2.2.1, x.2.2.2.2.2)))))))
  none))
  none)
theorem rpc_Framer_begins_f (N : Nat) (f0 : (List Int) → Option (Int)) (x) : rpc_Framer_begins_a N f0 x = fnStep Γ (rpc_Framer_begins_CA N f0) (rpc_Framer_begins_J N) 51 Try.f54.results.toList (rpc_Framer_begins_g N) rpc_Framer_begins_o rpc_Framer_begins_c x := by kernel_rfl
theorem rpc_Framer_begins_e (N : Nat) (x) : (rpc_Framer_begins_g N).F x = fnStep Γ (rpc_Framer_begins_C N) (rpc_Framer_begins_J N) 51 Try.f54.results.toList (rpc_Framer_begins_g N) rpc_Framer_begins_o rpc_Framer_begins_c x := by
  rw [← rpc_Framer_begins_CE N]
  exact Eq.trans (by kernel_rfl) (rpc_Framer_begins_f N (octet_Get N) x)
theorem rpc_Framer_begins_y : Try.f54.body = some rpc_Framer_begins_c := by kernel_rfl
theorem rpc_Framer_begins_n : (Try.f54.name == "runtime.NumGoroutine") = false := by kernel_rfl
theorem rpc_Framer_begins_ok (N : Nat) : FnDoes Try.prog 54 (rpc_Framer_begins_g N) := fn_ok tabOK (rpc_Framer_begins_t N) mixedOK (J := rpc_Framer_begins_J N) (body := rpc_Framer_begins_c) Try.func54 rpc_Framer_begins_y rpc_Framer_begins_n Try.ntmps54 (jok_from rpc_Framer_begins_i ⟨trivial, trivial⟩) rfl rfl (le_of_ble rfl) (rpc_Framer_begins_e N)
noncomputable def rpc_Framer_begins_v1_c : Code := codeOf Try.f54.body
noncomputable def rpc_Framer_begins_v1_J (N : Nat) : Nat → Hint := fun cx => hintOf cx [(0, { reg := fun k => assoc0 k [(6, ⟨⟨[(2, (.av (.one .bool)))], [(.keep, true), (.keep, true), (.keep, true), (.keep, true), (.keep, true), (.keep, true), (.keep, false), (.keep, false), (.keep, false)]⟩, [], [], [.bool]⟩)], cnd := fun k => assoc0 k [], loop := fun k => assoc0 k [], nil := fun k => assoc0 k [], unr := fun k => assocN k [], blk := fun k => assoc0 k [] })]
noncomputable def rpc_Framer_begins_v1_C (N : Nat) : Nat → List GS := fun k => tabOf k [(79, [octet_Get_g N])]
def rpc_Framer_begins_v1_o : List (Shp × List Nat) := [(⟨[(0, (.av (.one .bool)))], [(.sh (.one (.const .nils)), true), (.sh (.one (.int .i64)), true), (.sh (.one .bool), true), (.sh (.one (.const (.slw 8 1))), true), (.sh (.one (.int .i64)), true), (.sh (.one (.int .i64)), true), (.sh (.one .bool), false), (.sh (.arr (.int .u8) none), false), (.sh (.arr (.int .u8) none), false)]⟩, [])]
noncomputable def rpc_Framer_begins_v1_g (N : Nat) : GS := { ins := ⟨[(0, (.av (.one (.const (.ptr ⟨0, 0, 0, 0⟩)))))], [(some (.one (.const (.slw 7 1))), true), (some (.one (.int .i64)), true), (some (.one .bool), true), (some (.one (.const (.slw 8 1))), true), (some (.one (.int .i64)), true), (some (.one (.int .i64)), true), (some (.one .bool), false), (some (.arr (.int .u8) none), false), (some (.arr (.int .u8) none), false)]⟩, lend := [.keep], outs := rpc_Framer_begins_v1_o.map fun s => ssOf s.1, its := [.int, .bool, .int, .int, .bool, .lst (.int .u8), .lst (.int .u8)], ots := [[.bool, .int, .bool, .int, .int, .bool, .lst (.int .u8), .lst (.int .u8)]], F := rpc_Framer_begins_v1 N }
noncomputable def rpc_Framer_begins_v1_CA (N : Nat) (f0 : (List Int) → Option (Int)) : Nat → List GS := fun k => tabOf k [(79, [{ octet_Get_g N with F := f0 }])]
theorem rpc_Framer_begins_v1_CE (N : Nat) : rpc_Framer_begins_v1_CA N (octet_Get N) = rpc_Framer_begins_v1_C N := by kernel_rfl
theorem rpc_Framer_begins_v1_t (N : Nat) : TabC Try.prog (rpc_Framer_begins_v1_C N) := tab_ok ⟨⟨octet_Get_ok N, trivial⟩, trivial⟩
theorem rpc_Framer_begins_v1_i : loopsOf rpc_Framer_begins_v1_c = [] := by kernel_rfl
noncomputable def rpc_Framer_begins_v1_a (N : Nat) (f0 : (List Int) → Option (Int)) (x : Int × Bool × Int × Int × Bool × (List Int) × (List Int)) : Option (Bool × Int × Bool × Int × Int × Bool × (List Int) × (List Int)) :=
  (cond (decide ((4 : Int) ≤ (((List.length x.2.2.2.2.2.1) : Nat) : Int)))
  ((cond (cond (decide (4 ≤ (List.length x.2.2.2.2.2.1))) true false)
  (Option.bind (f0 (List.take 4 (List.drop 0 x.2.2.2.2.2.1))) fun r1 =>
  (let v2 : Int := (wrapF .u32 r1)
  (let v6 : Int := (wrapF .i64 (andNotF .u32 v2 (2147483648 : Int)))
  (let v7 : Int := (wrapF .i64 (x.2.2.1 + (1 : Int)))
  (Option.bind
  (cond (decide ((wrapF .i64 ((((List.length x.2.2.2.2.2.2) : Nat) : Int) + v6)) ≤ (4096 : Int)))
  (some (decide (v7 ≤ (32 : Int))))
  (some false))
  fun r12 =>
  (some (r12, v6, (!(decide ((andF .u32 v2 (2147483648 : Int)) = (0 : Int)))), v7, x.2.2.2.1, x.2.2.2.2.1, x.2.2.2.2.2.1, x.2.2.2.2.2.2)))))))
  none))
  none)
theorem rpc_Framer_begins_v1_f (N : Nat) (f0 : (List Int) → Option (Int)) (x) : rpc_Framer_begins_v1_a N f0 x = fnStep Γ (rpc_Framer_begins_v1_CA N f0) (rpc_Framer_begins_v1_J N) 51 Try.f54.results.toList (rpc_Framer_begins_v1_g N) rpc_Framer_begins_v1_o rpc_Framer_begins_v1_c x := by kernel_rfl
theorem rpc_Framer_begins_v1_e (N : Nat) (x) : (rpc_Framer_begins_v1_g N).F x = fnStep Γ (rpc_Framer_begins_v1_C N) (rpc_Framer_begins_v1_J N) 51 Try.f54.results.toList (rpc_Framer_begins_v1_g N) rpc_Framer_begins_v1_o rpc_Framer_begins_v1_c x := by
  rw [← rpc_Framer_begins_v1_CE N]
  exact Eq.trans (by kernel_rfl) (rpc_Framer_begins_v1_f N (octet_Get N) x)
theorem rpc_Framer_begins_v1_y : Try.f54.body = some rpc_Framer_begins_v1_c := by kernel_rfl
theorem rpc_Framer_begins_v1_n : (Try.f54.name == "runtime.NumGoroutine") = false := by kernel_rfl
theorem rpc_Framer_begins_v1_ok (N : Nat) : FnDoes Try.prog 54 (rpc_Framer_begins_v1_g N) := fn_ok tabOK (rpc_Framer_begins_v1_t N) mixedOK (J := rpc_Framer_begins_v1_J N) (body := rpc_Framer_begins_v1_c) Try.func54 rpc_Framer_begins_v1_y rpc_Framer_begins_v1_n Try.ntmps54 (jok_from rpc_Framer_begins_v1_i ⟨trivial, trivial⟩) rfl rfl (le_of_ble rfl) (rpc_Framer_begins_v1_e N)
noncomputable def rpc_Framer_Feed_c : Code := codeOf Try.f20.body
noncomputable def rpc_Framer_Feed_c1 : Code := codeOf (getLoop 1 rpc_Framer_Feed_c)
def rpc_Framer_Feed_d1 : LD := { ins := ⟨[(0, (.av (.one (.const (.ptr ⟨0, 0, 0, 0⟩))))), (1, (.av (.one (.rsl (.int .u8))))), (6, (.av (.one (.const (.slw 7 1))))), (7, (.av (.one .bool)))], [(.sh (.one (.const .nils)), true), (.sh (.one (.int .i64)), true), (.sh (.one .bool), true), (.sh (.one (.const (.slw 8 1))), true), (.sh (.one (.int .i64)), true), (.sh (.one (.int .i64)), true), (.sh (.one .bool), false), (.sh (.arr (.sl (.int .u8)) none), false), (.sh (.arr (.int .u8) none), false)]⟩, mov := [7, 8], wr := [0, 1, 2, 3, 4, 5, 6], outs := [(.exit 1, ⟨[(6, (.av (.one (.const (.slw 9 1)))))], [(.sh (.one (.const (.slw 10 1))), true), (.sh (.one (.int .i64)), true), (.sh (.one .bool), true), (.sh (.one (.const (.slw 11 1))), true), (.sh (.one (.int .i64)), true), (.sh (.one (.int .i64)), true), (.sh (.one .bool), false), (.dead, false), (.dead, false), (.sh (.arr (.sl (.int .u8)) none), false), (.sh (.arr (.int .u8) none), false), (.sh (.arr (.int .u8) none), false)]⟩), (.ret, ⟨[(4, (.av (.one (.const (.slw 9 1))))), (5, (.av (.one (.const (.int .i64 (210 : Int))))))], [(.sh (.one (.const .nils)), true), (.sh (.one (.const (.int .i64 (0 : Int)))), true), (.sh (.one (.const (.bool false))), true), (.sh (.one (.const .nils)), true), (.sh (.one (.const (.int .i64 (0 : Int)))), true), (.sh (.one (.const (.int .i64 (0 : Int)))), true), (.sh (.one (.const (.bool true))), false), (.dead, false), (.dead, false), (.sh (.arr (.sl (.int .u8)) none), false)]⟩)], its := [.lst (.int .u8), .bool, .int, .bool, .int, .int, .bool, .lst (.sl (.int .u8)), .lst (.int .u8)], ots := [[.int, .bool, .int, .int, .bool, .lst (.sl (.int .u8)), .lst (.int .u8), .lst (.int .u8)], [.lst (.sl (.int .u8))]] }
noncomputable def rpc_Framer_Feed_J (N : Nat) : Nat → Hint := fun cx => hintOf cx [(0, { reg := fun k => assoc0 k [(23, ⟨⟨[(121, (.av (.one .bool)))], [(.keep, true), (.keep, true), (.keep, true), (.keep, true), (.keep, true), (.keep, true), (.keep, false), (.keep, false), (.dead, false), (.keep, false)]⟩, [], [], [.bool]⟩)], cnd := fun k => assoc0 k [(27, ⟨[], [0, 1, 2, 3, 4, 5, 6, 8], [(.normal, ⟨[(1, (.av (.one (.rsl (.int .u8)))))], [(.sh (.one (.const .nils)), true), (.sh (.one (.int .i64)), true), (.sh (.one .bool), true), (.sh (.one (.const (.slw 8 1))), true), (.sh (.one (.int .i64)), true), (.sh (.one (.int .i64)), true), (.sh (.one .bool), false), (.keep, false), (.sh (.arr (.int .u8) none), false)]⟩), (.exit 1, ⟨[], [(.sh (.one (.const (.slw 9 1))), true), (.sh (.one (.int .i64)), true), (.sh (.one .bool), true), (.sh (.one (.const (.slw 8 1))), true), (.sh (.one (.int .i64)), true), (.sh (.one (.int .i64)), true), (.sh (.one .bool), false), (.keep, false), (.sh (.arr (.int .u8) none), false), (.sh (.arr (.int .u8) none), false)]⟩), (.ret, ⟨[(4, (.av (.one (.const (.slw 7 1))))), (5, (.av (.one (.const (.int .i64 (210 : Int))))))], [(.sh (.one (.const .nils)), true), (.sh (.one (.const (.int .i64 (0 : Int)))), true), (.sh (.one (.const (.bool false))), true), (.sh (.one (.const .nils)), true), (.sh (.one (.const (.int .i64 (0 : Int)))), true), (.sh (.one (.const (.int .i64 (0 : Int)))), true), (.sh (.one (.const (.bool true))), false), (.keep, false), (.sh (.arr (.int .u8) none), false)]⟩)], [[.lst (.int .u8), .int, .bool, .int, .int, .bool, .lst (.int .u8)], [.int, .bool, .int, .int, .bool, .lst (.int .u8), .lst (.int .u8)], [.lst (.int .u8)]]⟩)], loop := fun k => assoc0 k [(1, ⟨rpc_Framer_Feed_d1, loopF (rpc_Framer_Feed_b1 N) N⟩)], nil := fun k => assoc0 k [(129, (.sl (.int .u8)))], unr := fun k => assocN k [], blk := fun k => assoc0 k [(2, ⟨[7], [0, 1, 2, 3, 4, 5, 6, 8], [(.normal, ⟨[(1, (.av (.one (.rsl (.int .u8))))), (6, (.av (.one (.const (.slw 9 1))))), (7, (.av (.one .bool)))], [(.sh (.one (.const .nils)), true), (.sh (.one (.int .i64)), true), (.sh (.one .bool), true), (.sh (.one (.const (.slw 10 1))), true), (.sh (.one (.int .i64)), true), (.sh (.one (.int .i64)), true), (.sh (.one .bool), false), (.dead, false), (.dead, false), (.sh (.arr (.sl (.int .u8)) none), false), (.sh (.arr (.int .u8) none), false)]⟩), (.exit 1, ⟨[(6, (.av (.one (.const (.slw 9 1)))))], [(.sh (.one (.const (.slw 10 1))), true), (.sh (.one (.int .i64)), true), (.sh (.one .bool), true), (.sh (.one (.const (.slw 8 1))), true), (.sh (.one (.int .i64)), true), (.sh (.one (.int .i64)), true), (.sh (.one .bool), false), (.dead, false), (.sh (.arr (.int .u8) none), false), (.sh (.arr (.sl (.int .u8)) none), false), (.sh (.arr (.int .u8) none), false)]⟩), (.ret, ⟨[(4, (.av (.one (.const (.slw 9 1))))), (5, (.av (.one (.const (.int .i64 (210 : Int))))))], [(.sh (.one (.const .nils)), true), (.sh (.one (.const (.int .i64 (0 : Int)))), true), (.sh (.one (.const (.bool false))), true), (.sh (.one (.const .nils)), true), (.sh (.one (.const (.int .i64 (0 : Int)))), true), (.sh (.one (.const (.int .i64 (0 : Int)))), true), (.sh (.one (.const (.bool true))), false), (.dead, false), (.sh (.arr (.int .u8) none), false), (.sh (.arr (.sl (.int .u8)) none), false)]⟩)], [[.lst (.int .u8), .bool, .int, .bool, .int, .int, .bool, .lst (.sl (.int .u8)), .lst (.int .u8)], [.int, .bool, .int, .int, .bool, .lst (.int .u8), .lst (.sl (.int .u8)), .lst (.int .u8)], [.lst (.int .u8), .lst (.sl (.int .u8))]]⟩)] })]
noncomputable def rpc_Framer_Feed_C (N : Nat) : Nat → List GS := fun k => tabOf k [(54, [rpc_Framer_begins_g N, rpc_Framer_begins_v1_g N])]
def rpc_Framer_Feed_o : List (Shp × List Nat) := [(⟨[(0, (.tup [(.one (.const (.slw 7 1))), (.one (.int .i64))]))], [(.sh (.one (.const (.slw 8 1))), true), (.sh (.one (.int .i64)), true), (.sh (.one .bool), true), (.sh (.one (.const (.slw 9 1))), true), (.sh (.one (.int .i64)), true), (.sh (.one (.int .i64)), true), (.sh (.one .bool), false), (.sh (.arr (.sl (.int .u8)) none), false), (.sh (.arr (.int .u8) none), false), (.sh (.arr (.int .u8) none), false)]⟩, [])]
noncomputable def rpc_Framer_Feed_g (N : Nat) : GS := { ins := ⟨[(0, (.av (.one (.const (.ptr ⟨0, 0, 0, 0⟩))))), (1, (.av (.one (.rsl (.int .u8)))))], [(some (.one (.const .nils)), true), (some (.one (.int .i64)), true), (some (.one .bool), true), (some (.one (.const .nils)), true), (some (.one (.int .i64)), true), (some (.one (.int .i64)), true), (some (.one .bool), false)]⟩, lend := [.keep, .keep], outs := rpc_Framer_Feed_o.map fun s => ssOf s.1, its := [.lst (.int .u8), .int, .bool, .int, .int, .bool], ots := [[.int, .int, .bool, .int, .int, .bool, .lst (.sl (.int .u8)), .lst (.int .u8), .lst (.int .u8)]], F := rpc_Framer_Feed N }
noncomputable def rpc_Framer_Feed_CA (N : Nat) (f0 : Int × Bool × Int × Int × Bool × (List Int) → Option (Bool × Int × Bool × Int × Int × Bool × (List Int))) (f1 : Int × Bool × Int × Int × Bool × (List Int) × (List Int) → Option (Bool × Int × Bool × Int × Int × Bool × (List Int) × (List Int))) : Nat → List GS := fun k => tabOf k [(54, [{ rpc_Framer_begins_g N with F := f0 }, { rpc_Framer_begins_v1_g N with F := f1 }])]
theorem rpc_Framer_Feed_CE (N : Nat) : rpc_Framer_Feed_CA N (rpc_Framer_begins N) (rpc_Framer_begins_v1 N) = rpc_Framer_Feed_C N := by kernel_rfl
theorem rpc_Framer_Feed_t (N : Nat) : TabC Try.prog (rpc_Framer_Feed_C N) := tab_ok ⟨⟨rpc_Framer_begins_ok N, rpc_Framer_begins_v1_ok N, trivial⟩, trivial⟩
theorem rpc_Framer_Feed_i1 : loopsOf rpc_Framer_Feed_c1 = [] := by kernel_rfl
noncomputable def rpc_Framer_Feed_a1 (N : Nat) (f0 : Int × Bool × Int × Int × Bool × (List Int) → Option (Bool × Int × Bool × Int × Int × Bool × (List Int))) (f1 : Int × Bool × Int × Int × Bool × (List Int) × (List Int) → Option (Bool × Int × Bool × Int × Int × Bool × (List Int) × (List Int))) (next : (List Int) × Bool × Int × Bool × Int × Int × Bool × (List (List Int)) × (List Int) → Option ((Int × Bool × Int × Int × Bool × (List (List Int)) × (List Int) × (List Int)) ⊕ ((List (List Int))))) (x : (List Int) × Bool × Int × Bool × Int × Int × Bool × (List (List Int)) × (List Int)) : Option ((Int × Bool × Int × Int × Bool × (List (List Int)) × (List Int) × (List Int)) ⊕ ((List (List Int)))) :=
  (cond (decide ((0 : Int) < (((List.length x.1) : Nat) : Int)))
  (Option.bind
  ((Option.bind
  ((cond (!x.2.1)
  (let v4 : Int := (((List.length x.1) : Nat) : Int)
  (let v5 : Int := (if v4 < (4 : Int) then v4 else (4 : Int))
  (cond ((decide ((0 : Int) ≤ v5)) && (decide (v5 ≤ (((List.length x.1) : Nat) : Int))))
  ((let v6 : List Int := (List.take (Int.toNat v5) (List.drop 0 x.1))
  (cond (fits 1 (List.length v6))
  ((cond (((decide ((0 : Int) ≤ v5)) && (decide (v5 ≤ (((List.length x.1) : Nat) : Int)))) && (decide ((((List.length x.1) : Nat) : Int) ≤ (((List.length x.1) : Nat) : Int))))
  ((let v8 : Int := (wrapF .i64 (x.2.2.2.2.2.1 + v5))
  (cond (decide ((((List.length v6) : Nat) : Int) < (4 : Int)))
  (some (.inr (.inl (x.2.2.1, x.2.2.2.1, x.2.2.2.2.1, v8, x.2.2.2.2.2.2.1, x.2.2.2.2.2.2.2.2, v6))))
  (Option.bind (f1 (x.2.2.1, x.2.2.2.1, x.2.2.2.2.1, v8, x.2.2.2.2.2.2.1, v6, x.2.2.2.2.2.2.2.2)) fun r11 =>
  (cond (!r11.1)
  (some (.inr (.inr (r11.2.2.2.2.2.2.2))))
  (some (.inl ((List.take ((List.length x.1) - (Int.toNat v5)) (List.drop (Int.toNat v5) x.1)), r11.2.1, r11.2.2.1, r11.2.2.2.1, r11.2.2.2.2.1, r11.2.2.2.2.2.1, r11.2.2.2.2.2.2.2))))))))
  none))
  none)))
  none)))
  (some (.inl (x.1, x.2.2.1, x.2.2.2.1, x.2.2.2.2.1, x.2.2.2.2.2.1, x.2.2.2.2.2.2.1, x.2.2.2.2.2.2.2.2)))) : Option (((List Int) × Int × Bool × Int × Int × Bool × (List Int)) ⊕ (Int × Bool × Int × Int × Bool × (List Int) × (List Int)) ⊕ ((List Int))))
  fun r13 =>
  (match r13 with
  | .inl y14 =>
  (let v16 : Int := (((List.length y14.1) : Nat) : Int)
  (let v17 : Int := (if v16 < y14.2.1 then v16 else y14.2.1)
  (cond ((decide ((0 : Int) ≤ v17)) && (decide (v17 ≤ (((List.length y14.1) : Nat) : Int))))
  ((let v18 : List Int := (List.take (Int.toNat v17) (List.drop 0 y14.1))
  (cond (fits 1 ((List.length y14.2.2.2.2.2.2) + (List.length v18)))
  ((let v19 : List Int := (y14.2.2.2.2.2.2 ++ v18)
  (cond (((decide ((0 : Int) ≤ v17)) && (decide (v17 ≤ (((List.length y14.1) : Nat) : Int)))) && (decide ((((List.length y14.1) : Nat) : Int) ≤ (((List.length y14.1) : Nat) : Int))))
  ((let v20 : List Int := (List.take ((List.length y14.1) - (Int.toNat v17)) (List.drop (Int.toNat v17) y14.1))
  (let v21 : Int := (wrapF .i64 (y14.2.1 - v17))
  (let v23 : Bool := (decide ((0 : Int) < v21))
  (Option.bind
  (cond v23
  (some true)
  (some (!y14.2.2.1)))
  fun r25 =>
  (cond r25
  (some (.inl (v20, v23, v21, y14.2.2.1, y14.2.2.2.1, (wrapF .i64 (y14.2.2.2.2.1 + v17)), y14.2.2.2.2.2.1, x.2.2.2.2.2.2.2.1, v19)))
  (cond (fits 1 (List.length v19))
  ((let v27 : List (List Int) := ([v19] : List (List Int))
  (cond (fits 24 ((List.length x.2.2.2.2.2.2.2.1) + (List.length v27)))
  ((some (.inl (v20, v23, (0 : Int), false, (0 : Int), (0 : Int), false, (x.2.2.2.2.2.2.2.1 ++ v27), ([] : List Int)))))
  none)))
  none)))))))
  none)))
  none)))
  none)))
  | .inr z15 =>
  (match z15 with
  | .inl y29 =>
  (some (.inr (.inl (y29.1, y29.2.1, y29.2.2.1, y29.2.2.2.1, y29.2.2.2.2.1, y29.2.2.2.2.2.1, x.2.2.2.2.2.2.2.1, y29.2.2.2.2.2.2))))
  | .inr z30 =>
  (some (.inr (.inr ((z30, x.2.2.2.2.2.2.2.1)))))))) : Option (((List Int) × Bool × Int × Bool × Int × Int × Bool × (List (List Int)) × (List Int)) ⊕ (Int × Bool × Int × Int × Bool × (List Int) × (List (List Int)) × (List Int)) ⊕ ((List Int) × (List (List Int)))))
  fun r31 =>
  (match r31 with
  | .inl y32 =>
  (next (y32.1, y32.2.1, y32.2.2.1, y32.2.2.2.1, y32.2.2.2.2.1, y32.2.2.2.2.2.1, y32.2.2.2.2.2.2.1, y32.2.2.2.2.2.2.2.1, y32.2.2.2.2.2.2.2.2))
  | .inr z33 =>
  (match z33 with
  | .inl y34 =>
  (some (.inl (y34.1, y34.2.1, y34.2.2.1, y34.2.2.2.1, y34.2.2.2.2.1, y34.2.2.2.2.2.2.1, y34.2.2.2.2.2.2.2, y34.2.2.2.2.2.1)))
  | .inr z35 =>
  (some (.inr (z35.2))))))
  (some (.inl (x.2.2.1, x.2.2.2.1, x.2.2.2.2.1, x.2.2.2.2.2.1, x.2.2.2.2.2.2.1, x.2.2.2.2.2.2.2.1, ([] : List Int), x.2.2.2.2.2.2.2.2))))
theorem rpc_Framer_Feed_f1 (N : Nat) (f0 : Int × Bool × Int × Int × Bool × (List Int) → Option (Bool × Int × Bool × Int × Int × Bool × (List Int))) (f1 : Int × Bool × Int × Int × Bool × (List Int) × (List Int) → Option (Bool × Int × Bool × Int × Int × Bool × (List Int) × (List Int))) (next) (x) : rpc_Framer_Feed_a1 N f0 f1 next x = loopStep Γ (rpc_Framer_Feed_CA N f0 f1) (rpc_Framer_Feed_J N) 0 135 rpc_Framer_Feed_d1 rpc_Framer_Feed_c1 next x := by kernel_rfl
theorem rpc_Framer_Feed_e1 (N : Nat) (next) (x) : rpc_Framer_Feed_b1 N next x = loopStep Γ (rpc_Framer_Feed_C N) (rpc_Framer_Feed_J N) 0 135 rpc_Framer_Feed_d1 rpc_Framer_Feed_c1 next x := by
  rw [← rpc_Framer_Feed_CE N]
  exact Eq.trans (by kernel_rfl) (rpc_Framer_Feed_f1 N (rpc_Framer_begins N) (rpc_Framer_begins_v1 N) next x)
theorem rpc_Framer_Feed_k1 (N : Nat) : LoopOK Try.prog 135 rpc_Framer_Feed_c1 ⟨rpc_Framer_Feed_d1, loopF (rpc_Framer_Feed_b1 N) N⟩ := loop_ok tabOK (rpc_Framer_Feed_t N) mixedOK (J := rpc_Framer_Feed_J N) (cx := 0) (body := rpc_Framer_Feed_c1) (nt := 135) (l := rpc_Framer_Feed_d1) (b := rpc_Framer_Feed_b1 N) (jok_from rpc_Framer_Feed_i1 ⟨trivial, trivial⟩) (rpc_Framer_Feed_e1 N) N
theorem rpc_Framer_Feed_i : loopsOf rpc_Framer_Feed_c = [(1, rpc_Framer_Feed_c1)] := by kernel_rfl
noncomputable def rpc_Framer_Feed_a (N : Nat) (f0 : Int × Bool × Int × Int × Bool × (List Int) → Option (Bool × Int × Bool × Int × Int × Bool × (List Int))) (f1 : Int × Bool × Int × Int × Bool × (List Int) × (List Int) → Option (Bool × Int × Bool × Int × Int × Bool × (List Int) × (List Int))) (x : (List Int) × Int × Bool × Int × Int × Bool) : Option (Int × Int × Bool × Int × Int × Bool × (List (List Int)) × (List Int) × (List Int)) :=
  (cond x.2.2.2.2.2
  (some ((210 : Int), x.2.1, x.2.2.1, x.2.2.2.1, x.2.2.2.2.1, x.2.2.2.2.2, ([] : List (List Int)), ([] : List Int), ([] : List Int)))
  (Option.bind (rpc_Framer_Feed_l1 N (x.1, (decide ((0 : Int) < x.2.1)), x.2.1, x.2.2.1, x.2.2.2.1, x.2.2.2.2.1, x.2.2.2.2.2, ([] : List (List Int)), ([] : List Int))) fun r2 =>
  (match r2 with
  | .inl y3 =>
  (some ((0 : Int), y3.1, y3.2.1, y3.2.2.1, y3.2.2.2.1, y3.2.2.2.2.1, y3.2.2.2.2.2.1, y3.2.2.2.2.2.2.1, y3.2.2.2.2.2.2.2))
  | .inr z4 =>
  (some ((210 : Int), (0 : Int), false, (0 : Int), (0 : Int), true, z4, ([] : List Int), ([] : List Int))))))
theorem rpc_Framer_Feed_f (N : Nat) (f0 : Int × Bool × Int × Int × Bool × (List Int) → Option (Bool × Int × Bool × Int × Int × Bool × (List Int))) (f1 : Int × Bool × Int × Int × Bool × (List Int) × (List Int) → Option (Bool × Int × Bool × Int × Int × Bool × (List Int) × (List Int))) (x) : rpc_Framer_Feed_a N f0 f1 x = fnStep Γ (rpc_Framer_Feed_CA N f0 f1) (rpc_Framer_Feed_J N) 135 Try.f20.results.toList (rpc_Framer_Feed_g N) rpc_Framer_Feed_o rpc_Framer_Feed_c x := by kernel_rfl
theorem rpc_Framer_Feed_e (N : Nat) (x) : (rpc_Framer_Feed_g N).F x = fnStep Γ (rpc_Framer_Feed_C N) (rpc_Framer_Feed_J N) 135 Try.f20.results.toList (rpc_Framer_Feed_g N) rpc_Framer_Feed_o rpc_Framer_Feed_c x := by
  rw [← rpc_Framer_Feed_CE N]
  exact Eq.trans (by kernel_rfl) (rpc_Framer_Feed_f N (rpc_Framer_begins N) (rpc_Framer_begins_v1 N) x)
theorem rpc_Framer_Feed_y : Try.f20.body = some rpc_Framer_Feed_c := by kernel_rfl
theorem rpc_Framer_Feed_n : (Try.f20.name == "runtime.NumGoroutine") = false := by kernel_rfl
theorem rpc_Framer_Feed_ok (N : Nat) : FnDoes Try.prog 20 (rpc_Framer_Feed_g N) := fn_ok tabOK (rpc_Framer_Feed_t N) mixedOK (J := rpc_Framer_Feed_J N) (body := rpc_Framer_Feed_c) Try.func20 rpc_Framer_Feed_y rpc_Framer_Feed_n Try.ntmps20 (jok_from rpc_Framer_Feed_i ⟨⟨.inr ⟨_, rfl, rpc_Framer_Feed_k1 N⟩, trivial⟩, trivial⟩) rfl rfl (le_of_ble rfl) (rpc_Framer_Feed_e N)
noncomputable def rpc_Framer_Feed_v1_c : Code := codeOf Try.f20.body
noncomputable def rpc_Framer_Feed_v1_c1 : Code := codeOf (getLoop 1 rpc_Framer_Feed_v1_c)
def rpc_Framer_Feed_v1_d1 : LD := { ins := ⟨[(0, (.av (.one (.const (.ptr ⟨0, 0, 0, 0⟩))))), (1, (.av (.one (.rsl (.int .u8))))), (6, (.av (.one (.const (.slw 9 1))))), (7, (.av (.one .bool)))], [(.sh (.one (.const (.slw 7 1))), true), (.sh (.one (.int .i64)), true), (.sh (.one .bool), true), (.sh (.one (.const (.slw 8 1))), true), (.sh (.one (.int .i64)), true), (.sh (.one (.int .i64)), true), (.sh (.one .bool), false), (.sh (.arr (.int .u8) none), false), (.sh (.arr (.int .u8) none), false), (.sh (.arr (.sl (.int .u8)) none), false)]⟩, mov := [7, 8, 9], wr := [0, 1, 2, 3, 4, 5, 6], outs := [(.exit 1, ⟨[(6, (.av (.one (.const (.slw 10 1)))))], [(.sh (.one (.const (.slw 11 1))), true), (.sh (.one (.int .i64)), true), (.sh (.one .bool), true), (.sh (.one (.const (.slw 12 1))), true), (.sh (.one (.int .i64)), true), (.sh (.one (.int .i64)), true), (.sh (.one .bool), false), (.dead, false), (.dead, false), (.dead, false), (.sh (.arr (.sl (.int .u8)) none), false), (.sh (.arr (.int .u8) none), false), (.sh (.arr (.int .u8) none), false)]⟩), (.ret, ⟨[(4, (.av (.one (.const (.slw 10 1))))), (5, (.av (.one (.const (.int .i64 (210 : Int))))))], [(.sh (.one (.const .nils)), true), (.sh (.one (.const (.int .i64 (0 : Int)))), true), (.sh (.one (.const (.bool false))), true), (.sh (.one (.const .nils)), true), (.sh (.one (.const (.int .i64 (0 : Int)))), true), (.sh (.one (.const (.int .i64 (0 : Int)))), true), (.sh (.one (.const (.bool true))), false), (.dead, false), (.dead, false), (.dead, false), (.sh (.arr (.sl (.int .u8)) none), false)]⟩)], its := [.lst (.int .u8), .bool, .int, .bool, .int, .int, .bool, .lst (.int .u8), .lst (.int .u8), .lst (.sl (.int .u8))], ots := [[.int, .bool, .int, .int, .bool, .lst (.sl (.int .u8)), .lst (.int .u8), .lst (.int .u8)], [.lst (.sl (.int .u8))]] }
noncomputable def rpc_Framer_Feed_v1_J (N : Nat) : Nat → Hint := fun cx => hintOf cx [(0, { reg := fun k => assoc0 k [(23, ⟨⟨[(121, (.av (.one .bool)))], [(.keep, true), (.keep, true), (.keep, true), (.keep, true), (.keep, true), (.keep, true), (.keep, false), (.dead, false), (.dead, false), (.keep, false), (.keep, false), (.keep, false)]⟩, [], [], [.bool]⟩)], cnd := fun k => assoc0 k [(27, ⟨[7], [0, 1, 2, 3, 4, 5, 6, 8], [(.normal, ⟨[(1, (.av (.one (.rsl (.int .u8)))))], [(.sh (.one (.const (.slw 10 1))), true), (.sh (.one (.int .i64)), true), (.sh (.one .bool), true), (.sh (.one (.const (.slw 8 1))), true), (.sh (.one (.int .i64)), true), (.sh (.one (.int .i64)), true), (.sh (.one .bool), false), (.dead, false), (.sh (.arr (.int .u8) none), false), (.keep, false), (.sh (.arr (.int .u8) none), false)]⟩), (.exit 1, ⟨[], [(.sh (.one (.const (.slw 10 1))), true), (.sh (.one (.int .i64)), true), (.sh (.one .bool), true), (.sh (.one (.const (.slw 8 1))), true), (.sh (.one (.int .i64)), true), (.sh (.one (.int .i64)), true), (.sh (.one .bool), false), (.dead, false), (.sh (.arr (.int .u8) none), false), (.keep, false), (.sh (.arr (.int .u8) none), false)]⟩), (.ret, ⟨[(4, (.av (.one (.const (.slw 9 1))))), (5, (.av (.one (.const (.int .i64 (210 : Int))))))], [(.sh (.one (.const .nils)), true), (.sh (.one (.const (.int .i64 (0 : Int)))), true), (.sh (.one (.const (.bool false))), true), (.sh (.one (.const .nils)), true), (.sh (.one (.const (.int .i64 (0 : Int)))), true), (.sh (.one (.const (.int .i64 (0 : Int)))), true), (.sh (.one (.const (.bool true))), false), (.dead, false), (.sh (.arr (.int .u8) none), false), (.keep, false)]⟩)], [[.lst (.int .u8), .int, .bool, .int, .int, .bool, .lst (.int .u8), .lst (.int .u8)], [.int, .bool, .int, .int, .bool, .lst (.int .u8), .lst (.int .u8)], [.lst (.int .u8)]]⟩)], loop := fun k => assoc0 k [(1, ⟨rpc_Framer_Feed_v1_d1, loopF (rpc_Framer_Feed_v1_b1 N) N⟩)], nil := fun k => assoc0 k [(129, (.sl (.int .u8)))], unr := fun k => assocN k [], blk := fun k => assoc0 k [(2, ⟨[9], [0, 1, 2, 3, 4, 5, 6, 7, 8], [(.normal, ⟨[(1, (.av (.one (.rsl (.int .u8))))), (6, (.av (.one (.const (.slw 10 1))))), (7, (.av (.one .bool)))], [(.sh (.one (.const (.slw 11 1))), true), (.sh (.one (.int .i64)), true), (.sh (.one .bool), true), (.sh (.one (.const (.slw 12 1))), true), (.sh (.one (.int .i64)), true), (.sh (.one (.int .i64)), true), (.sh (.one .bool), false), (.dead, false), (.dead, false), (.dead, false), (.sh (.arr (.sl (.int .u8)) none), false), (.sh (.arr (.int .u8) none), false), (.sh (.arr (.int .u8) none), false)]⟩), (.exit 1, ⟨[(6, (.av (.one (.const (.slw 10 1)))))], [(.sh (.one (.const (.slw 11 1))), true), (.sh (.one (.int .i64)), true), (.sh (.one .bool), true), (.sh (.one (.const (.slw 8 1))), true), (.sh (.one (.int .i64)), true), (.sh (.one (.int .i64)), true), (.sh (.one .bool), false), (.dead, false), (.sh (.arr (.int .u8) none), false), (.dead, false), (.sh (.arr (.sl (.int .u8)) none), false), (.sh (.arr (.int .u8) none), false)]⟩), (.ret, ⟨[(4, (.av (.one (.const (.slw 10 1))))), (5, (.av (.one (.const (.int .i64 (210 : Int))))))], [(.sh (.one (.const .nils)), true), (.sh (.one (.const (.int .i64 (0 : Int)))), true), (.sh (.one (.const (.bool false))), true), (.sh (.one (.const .nils)), true), (.sh (.one (.const (.int .i64 (0 : Int)))), true), (.sh (.one (.const (.int .i64 (0 : Int)))), true), (.sh (.one (.const (.bool true))), false), (.dead, false), (.sh (.arr (.int .u8) none), false), (.dead, false), (.sh (.arr (.sl (.int .u8)) none), false)]⟩)], [[.lst (.int .u8), .bool, .int, .bool, .int, .int, .bool, .lst (.sl (.int .u8)), .lst (.int .u8), .lst (.int .u8)], [.int, .bool, .int, .int, .bool, .lst (.int .u8), .lst (.sl (.int .u8)), .lst (.int .u8)], [.lst (.int .u8), .lst (.sl (.int .u8))]]⟩)] })]
noncomputable def rpc_Framer_Feed_v1_C (N : Nat) : Nat → List GS := fun k => tabOf k [(54, [rpc_Framer_begins_v1_g N])]
def rpc_Framer_Feed_v1_o : List (Shp × List Nat) := [(⟨[(0, (.tup [(.one (.const (.slw 9 1))), (.one (.int .i64))]))], [(.sh (.one (.const (.slw 10 1))), true), (.sh (.one (.int .i64)), true), (.sh (.one .bool), true), (.sh (.one (.const (.slw 11 1))), true), (.sh (.one (.int .i64)), true), (.sh (.one (.int .i64)), true), (.sh (.one .bool), false), (.dead, false), (.dead, false), (.sh (.arr (.sl (.int .u8)) none), false), (.sh (.arr (.int .u8) none), false), (.sh (.arr (.int .u8) none), false)]⟩, [7, 8])]
noncomputable def rpc_Framer_Feed_v1_g (N : Nat) : GS := { ins := ⟨[(0, (.av (.one (.const (.ptr ⟨0, 0, 0, 0⟩))))), (1, (.av (.one (.rsl (.int .u8)))))], [(some (.one (.const (.slw 7 1))), true), (some (.one (.int .i64)), true), (some (.one .bool), true), (some (.one (.const (.slw 8 1))), true), (some (.one (.int .i64)), true), (some (.one (.int .i64)), true), (some (.one .bool), false), (some (.arr (.int .u8) none), false), (some (.arr (.int .u8) none), false)]⟩, lend := [.keep, .keep], outs := rpc_Framer_Feed_v1_o.map fun s => ssOf s.1, its := [.lst (.int .u8), .int, .bool, .int, .int, .bool, .lst (.int .u8), .lst (.int .u8)], ots := [[.int, .int, .bool, .int, .int, .bool, .lst (.sl (.int .u8)), .lst (.int .u8), .lst (.int .u8)]], F := rpc_Framer_Feed_v1 N }
noncomputable def rpc_Framer_Feed_v1_CA (N : Nat) (f0 : Int × Bool × Int × Int × Bool × (List Int) × (List Int) → Option (Bool × Int × Bool × Int × Int × Bool × (List Int) × (List Int))) : Nat → List GS := fun k => tabOf k [(54, [{ rpc_Framer_begins_v1_g N with F := f0 }])]
theorem rpc_Framer_Feed_v1_CE (N : Nat) : rpc_Framer_Feed_v1_CA N (rpc_Framer_begins_v1 N) = rpc_Framer_Feed_v1_C N := by kernel_rfl
theorem rpc_Framer_Feed_v1_t (N : Nat) : TabC Try.prog (rpc_Framer_Feed_v1_C N) := tab_ok ⟨⟨rpc_Framer_begins_v1_ok N, trivial⟩, trivial⟩
theorem rpc_Framer_Feed_v1_i1 : loopsOf rpc_Framer_Feed_v1_c1 = [] := by kernel_rfl
noncomputable def rpc_Framer_Feed_v1_a1 (N : Nat) (f0 : Int × Bool × Int × Int × Bool × (List Int) × (List Int) → Option (Bool × Int × Bool × Int × Int × Bool × (List Int) × (List Int))) (next : (List Int) × Bool × Int × Bool × Int × Int × Bool × (List Int) × (List Int) × (List (List Int)) → Option ((Int × Bool × Int × Int × Bool × (List (List Int)) × (List Int) × (List Int)) ⊕ ((List (List Int))))) (x : (List Int) × Bool × Int × Bool × Int × Int × Bool × (List Int) × (List Int) × (List (List Int))) : Option ((Int × Bool × Int × Int × Bool × (List (List Int)) × (List Int) × (List Int)) ⊕ ((List (List Int)))) :=
  (cond (decide ((0 : Int) < (((List.length x.1) : Nat) : Int)))
  (Option.bind
  ((Option.bind
  ((cond (!x.2.1)
  (let v5 : Int := (wrapF .i64 ((4 : Int) - (((List.length x.2.2.2.2.2.2.2.1) : Nat) : Int)))
  (let v6 : Int := (((List.length x.1) : Nat) : Int)
  (let v7 : Int := (if v6 < v5 then v6 else v5)
  (cond ((decide ((0 : Int) ≤ v7)) && (decide (v7 ≤ (((List.length x.1) : Nat) : Int))))
  ((let v8 : List Int := (List.take (Int.toNat v7) (List.drop 0 x.1))
  (cond (fits 1 ((List.length x.2.2.2.2.2.2.2.1) + (List.length v8)))
  ((let v9 : List Int := (x.2.2.2.2.2.2.2.1 ++ v8)
  (cond (((decide ((0 : Int) ≤ v7)) && (decide (v7 ≤ (((List.length x.1) : Nat) : Int)))) && (decide ((((List.length x.1) : Nat) : Int) ≤ (((List.length x.1) : Nat) : Int))))
  ((let v11 : Int := (wrapF .i64 (x.2.2.2.2.2.1 + v7))
  (cond (decide ((((List.length v9) : Nat) : Int) < (4 : Int)))
  (some (.inr (.inl (x.2.2.1, x.2.2.2.1, x.2.2.2.2.1, v11, x.2.2.2.2.2.2.1, x.2.2.2.2.2.2.2.2.1, v9))))
  (Option.bind (f0 (x.2.2.1, x.2.2.2.1, x.2.2.2.2.1, v11, x.2.2.2.2.2.2.1, v9, x.2.2.2.2.2.2.2.2.1)) fun r14 =>
  (cond (!r14.1)
  (some (.inr (.inr (r14.2.2.2.2.2.2.2))))
  (some (.inl ((List.take ((List.length x.1) - (Int.toNat v7)) (List.drop (Int.toNat v7) x.1)), r14.2.1, r14.2.2.1, r14.2.2.2.1, r14.2.2.2.2.1, r14.2.2.2.2.2.1, r14.2.2.2.2.2.2.2, ([] : List Int)))))))))
  none)))
  none)))
  none))))
  (some (.inl (x.1, x.2.2.1, x.2.2.2.1, x.2.2.2.2.1, x.2.2.2.2.2.1, x.2.2.2.2.2.2.1, x.2.2.2.2.2.2.2.2.1, x.2.2.2.2.2.2.2.1)))) : Option (((List Int) × Int × Bool × Int × Int × Bool × (List Int) × (List Int)) ⊕ (Int × Bool × Int × Int × Bool × (List Int) × (List Int)) ⊕ ((List Int))))
  fun r16 =>
  (match r16 with
  | .inl y17 =>
  (let v19 : Int := (((List.length y17.1) : Nat) : Int)
  (let v20 : Int := (if v19 < y17.2.1 then v19 else y17.2.1)
  (cond ((decide ((0 : Int) ≤ v20)) && (decide (v20 ≤ (((List.length y17.1) : Nat) : Int))))
  ((let v21 : List Int := (List.take (Int.toNat v20) (List.drop 0 y17.1))
  (cond (fits 1 ((List.length y17.2.2.2.2.2.2.1) + (List.length v21)))
  ((let v22 : List Int := (y17.2.2.2.2.2.2.1 ++ v21)
  (cond (((decide ((0 : Int) ≤ v20)) && (decide (v20 ≤ (((List.length y17.1) : Nat) : Int)))) && (decide ((((List.length y17.1) : Nat) : Int) ≤ (((List.length y17.1) : Nat) : Int))))
  ((let v23 : List Int := (List.take ((List.length y17.1) - (Int.toNat v20)) (List.drop (Int.toNat v20) y17.1))
  (let v24 : Int := (wrapF .i64 (y17.2.1 - v20))
  (let v26 : Bool := (decide ((0 : Int) < v24))
  (Option.bind
  (cond v26
  (some true)
  (some (!y17.2.2.1)))
  fun r28 =>
  (cond r28
  (some (.inl (v23, v26, v24, y17.2.2.1, y17.2.2.2.1, (wrapF .i64 (y17.2.2.2.2.1 + v20)), y17.2.2.2.2.2.1, x.2.2.2.2.2.2.2.2.2, y17.2.2.2.2.2.2.2, v22)))
  (cond (fits 1 (List.length v22))
  ((let v30 : List (List Int) := ([v22] : List (List Int))
  (cond (fits 24 ((List.length x.2.2.2.2.2.2.2.2.2) + (List.length v30)))
  ((some (.inl (v23, v26, (0 : Int), false, (0 : Int), (0 : Int), false, (x.2.2.2.2.2.2.2.2.2 ++ v30), ([] : List Int), ([] : List Int)))))
  none)))
  none)))))))
  none)))
  none)))
  none)))
  | .inr z18 =>
  (match z18 with
  | .inl y32 =>
  (some (.inr (.inl (y32.1, y32.2.1, y32.2.2.1, y32.2.2.2.1, y32.2.2.2.2.1, y32.2.2.2.2.2.1, x.2.2.2.2.2.2.2.2.2, y32.2.2.2.2.2.2))))
  | .inr z33 =>
  (some (.inr (.inr ((z33, x.2.2.2.2.2.2.2.2.2)))))))) : Option (((List Int) × Bool × Int × Bool × Int × Int × Bool × (List (List Int)) × (List Int) × (List Int)) ⊕ (Int × Bool × Int × Int × Bool × (List Int) × (List (List Int)) × (List Int)) ⊕ ((List Int) × (List (List Int)))))
  fun r34 =>
  (match r34 with
  | .inl y35 =>
  (next (y35.1, y35.2.1, y35.2.2.1, y35.2.2.2.1, y35.2.2.2.2.1, y35.2.2.2.2.2.1, y35.2.2.2.2.2.2.1, y35.2.2.2.2.2.2.2.2.1, y35.2.2.2.2.2.2.2.2.2, y35.2.2.2.2.2.2.2.1))
  | .inr z36 =>
  (match z36 with
  | .inl y37 =>
  (some (.inl (y37.1, y37.2.1, y37.2.2.1, y37.2.2.2.1, y37.2.2.2.2.1, y37.2.2.2.2.2.2.1, y37.2.2.2.2.2.2.2, y37.2.2.2.2.2.1)))
  | .inr z38 =>
  (some (.inr (z38.2))))))
  (some (.inl (x.2.2.1, x.2.2.2.1, x.2.2.2.2.1, x.2.2.2.2.2.1, x.2.2.2.2.2.2.1, x.2.2.2.2.2.2.2.2.2, x.2.2.2.2.2.2.2.1, x.2.2.2.2.2.2.2.2.1))))
theorem rpc_Framer_Feed_v1_f1 (N : Nat) (f0 : Int × Bool × Int × Int × Bool × (List Int) × (List Int) → Option (Bool × Int × Bool × Int × Int × Bool × (List Int) × (List Int))) (next) (x) : rpc_Framer_Feed_v1_a1 N f0 next x = loopStep Γ (rpc_Framer_Feed_v1_CA N f0) (rpc_Framer_Feed_v1_J N) 0 135 rpc_Framer_Feed_v1_d1 rpc_Framer_Feed_v1_c1 next x := by kernel_rfl
theorem rpc_Framer_Feed_v1_e1 (N : Nat) (next) (x) : rpc_Framer_Feed_v1_b1 N next x = loopStep Γ (rpc_Framer_Feed_v1_C N) (rpc_Framer_Feed_v1_J N) 0 135 rpc_Framer_Feed_v1_d1 rpc_Framer_Feed_v1_c1 next x := by
  rw [← rpc_Framer_Feed_v1_CE N]
  exact Eq.trans (by kernel_rfl) (rpc_Framer_Feed_v1_f1 N (rpc_Framer_begins_v1 N) next x)
theorem rpc_Framer_Feed_v1_k1 (N : Nat) : LoopOK Try.prog 135 rpc_Framer_Feed_v1_c1 ⟨rpc_Framer_Feed_v1_d1, loopF (rpc_Framer_Feed_v1_b1 N) N⟩ := loop_ok tabOK (rpc_Framer_Feed_v1_t N) mixedOK (J := rpc_Framer_Feed_v1_J N) (cx := 0) (body := rpc_Framer_Feed_v1_c1) (nt := 135) (l := rpc_Framer_Feed_v1_d1) (b := rpc_Framer_Feed_v1_b1 N) (jok_from rpc_Framer_Feed_v1_i1 ⟨trivial, trivial⟩) (rpc_Framer_Feed_v1_e1 N) N
theorem rpc_Framer_Feed_v1_i : loopsOf rpc_Framer_Feed_v1_c = [(1, rpc_Framer_Feed_v1_c1)] := by kernel_rfl
noncomputable def rpc_Framer_Feed_v1_a (N : Nat) (f0 : Int × Bool × Int × Int × Bool × (List Int) × (List Int) → Option (Bool × Int × Bool × Int × Int × Bool × (List Int) × (List Int))) (x : (List Int) × Int × Bool × Int × Int × Bool × (List Int) × (List Int)) : Option (Int × Int × Bool × Int × Int × Bool × (List (List Int)) × (List Int) × (List Int)) :=
  (cond x.2.2.2.2.2.1
  (some ((210 : Int), x.2.1, x.2.2.1, x.2.2.2.1, x.2.2.2.2.1, x.2.2.2.2.2.1, ([] : List (List Int)), x.2.2.2.2.2.2.1, x.2.2.2.2.2.2.2))
  (Option.bind (rpc_Framer_Feed_v1_l1 N (x.1, (decide ((0 : Int) < x.2.1)), x.2.1, x.2.2.1, x.2.2.2.1, x.2.2.2.2.1, x.2.2.2.2.2.1, x.2.2.2.2.2.2.1, x.2.2.2.2.2.2.2, ([] : List (List Int)))) fun r2 =>
  (match r2 with
  | .inl y3 =>
  (some ((0 : Int), y3.1, y3.2.1, y3.2.2.1, y3.2.2.2.1, y3.2.2.2.2.1, y3.2.2.2.2.2.1, y3.2.2.2.2.2.2.1, y3.2.2.2.2.2.2.2))
  | .inr z4 =>
  (some ((210 : Int), (0 : Int), false, (0 : Int), (0 : Int), true, z4, ([] : List Int), ([] : List Int))))))
theorem rpc_Framer_Feed_v1_f (N : Nat) (f0 : Int × Bool × Int × Int × Bool × (List Int) × (List Int) → Option (Bool × Int × Bool × Int × Int × Bool × (List Int) × (List Int))) (x) : rpc_Framer_Feed_v1_a N f0 x = fnStep Γ (rpc_Framer_Feed_v1_CA N f0) (rpc_Framer_Feed_v1_J N) 135 Try.f20.results.toList (rpc_Framer_Feed_v1_g N) rpc_Framer_Feed_v1_o rpc_Framer_Feed_v1_c x := by kernel_rfl
theorem rpc_Framer_Feed_v1_e (N : Nat) (x) : (rpc_Framer_Feed_v1_g N).F x = fnStep Γ (rpc_Framer_Feed_v1_C N) (rpc_Framer_Feed_v1_J N) 135 Try.f20.results.toList (rpc_Framer_Feed_v1_g N) rpc_Framer_Feed_v1_o rpc_Framer_Feed_v1_c x := by
  rw [← rpc_Framer_Feed_v1_CE N]
  exact Eq.trans (by kernel_rfl) (rpc_Framer_Feed_v1_f N (rpc_Framer_begins_v1 N) x)
theorem rpc_Framer_Feed_v1_y : Try.f20.body = some rpc_Framer_Feed_v1_c := by kernel_rfl
theorem rpc_Framer_Feed_v1_n : (Try.f20.name == "runtime.NumGoroutine") = false := by kernel_rfl
theorem rpc_Framer_Feed_v1_ok (N : Nat) : FnDoes Try.prog 20 (rpc_Framer_Feed_v1_g N) := fn_ok tabOK (rpc_Framer_Feed_v1_t N) mixedOK (J := rpc_Framer_Feed_v1_J N) (body := rpc_Framer_Feed_v1_c) Try.func20 rpc_Framer_Feed_v1_y rpc_Framer_Feed_v1_n Try.ntmps20 (jok_from rpc_Framer_Feed_v1_i ⟨⟨.inr ⟨_, rfl, rpc_Framer_Feed_v1_k1 N⟩, trivial⟩, trivial⟩) rfl rfl (le_of_ble rfl) (rpc_Framer_Feed_v1_e N)
noncomputable def xdr_NewWriter_c : Code := codeOf Try.f56.body
noncomputable def xdr_NewWriter_J (N : Nat) : Nat → Hint := fun cx => hintOf cx []
noncomputable def xdr_NewWriter_C (N : Nat) : Nat → List GS := fun k => tabOf k []
def xdr_NewWriter_o : List (Shp × List Nat) := [(⟨[(0, (.av (.one (.const (.ptr ⟨0, 0, 0, 0⟩)))))], [(.sh (.one (.const .nils)), true), (.sh (.one (.const (.int .i64 (0 : Int)))), false)]⟩, [])]
noncomputable def xdr_NewWriter_g (N : Nat) : GS := { ins := ⟨[], []⟩, lend := [], outs := xdr_NewWriter_o.map fun s => ssOf s.1, its := [], ots := [[]], F := xdr_NewWriter }
theorem xdr_NewWriter_t (N : Nat) : TabC Try.prog (xdr_NewWriter_C N) := tab_ok trivial
theorem xdr_NewWriter_i : loopsOf xdr_NewWriter_c = [] := by kernel_rfl
theorem xdr_NewWriter_e (N : Nat) (x) : (xdr_NewWriter_g N).F x = fnStep Γ (xdr_NewWriter_C N) (xdr_NewWriter_J N) 3 Try.f56.results.toList (xdr_NewWriter_g N) xdr_NewWriter_o xdr_NewWriter_c x := by kernel_rfl
theorem xdr_NewWriter_y : Try.f56.body = some xdr_NewWriter_c := by kernel_rfl
theorem xdr_NewWriter_n : (Try.f56.name == "runtime.NumGoroutine") = false := by kernel_rfl
theorem xdr_NewWriter_ok (N : Nat) : FnDoes Try.prog 56 (xdr_NewWriter_g N) := fn_ok tabOK (xdr_NewWriter_t N) mixedOK (J := xdr_NewWriter_J N) (body := xdr_NewWriter_c) Try.func56 xdr_NewWriter_y xdr_NewWriter_n Try.ntmps56 (jok_from xdr_NewWriter_i trivial) rfl rfl (le_of_ble rfl) (xdr_NewWriter_e N)
noncomputable def xdr_Writer_bad_c : Code := codeOf Try.f84.body
noncomputable def xdr_Writer_bad_J (N : Nat) : Nat → Hint := fun cx => hintOf cx [(0, { reg := fun k => assoc0 k [], cnd := fun k => assoc0 k [], loop := fun k => assoc0 k [], nil := fun k => assoc0 k [], unr := fun k => assocN k [], blk := fun k => assoc0 k [] })]
noncomputable def xdr_Writer_bad_C (N : Nat) : Nat → List GS := fun k => tabOf k []
def xdr_Writer_bad_o : List (Shp × List Nat) := [(⟨[(0, (.av (.one .bool)))], [(.sh (.one (.const .nils)), true), (.sh (.one (.int .i64)), false)]⟩, [])]
noncomputable def xdr_Writer_bad_g (N : Nat) : GS := { ins := ⟨[(0, (.av (.one (.const (.ptr ⟨0, 0, 0, 0⟩)))))], [(some (.one (.const .nils)), true), (some (.one (.int .i64)), false)]⟩, lend := [.keep], outs := xdr_Writer_bad_o.map fun s => ssOf s.1, its := [.int], ots := [[.bool, .int]], F := xdr_Writer_bad }
theorem xdr_Writer_bad_t (N : Nat) : TabC Try.prog (xdr_Writer_bad_C N) := tab_ok trivial
theorem xdr_Writer_bad_i : loopsOf xdr_Writer_bad_c = [] := by kernel_rfl
theorem xdr_Writer_bad_e (N : Nat) (x) : (xdr_Writer_bad_g N).F x = fnStep Γ (xdr_Writer_bad_C N) (xdr_Writer_bad_J N) 12 Try.f84.results.toList (xdr_Writer_bad_g N) xdr_Writer_bad_o xdr_Writer_bad_c x := by kernel_rfl
theorem xdr_Writer_bad_y : Try.f84.body = some xdr_Writer_bad_c := by kernel_rfl
theorem xdr_Writer_bad_n : (Try.f84.name == "runtime.NumGoroutine") = false := by kernel_rfl
theorem xdr_Writer_bad_ok (N : Nat) : FnDoes Try.prog 84 (xdr_Writer_bad_g N) := fn_ok tabOK (xdr_Writer_bad_t N) mixedOK (J := xdr_Writer_bad_J N) (body := xdr_Writer_bad_c) Try.func84 xdr_Writer_bad_y xdr_Writer_bad_n Try.ntmps84 (jok_from xdr_Writer_bad_i ⟨trivial, trivial⟩) rfl rfl (le_of_ble rfl) (xdr_Writer_bad_e N)
noncomputable def octet_Lay_c : Code := codeOf Try.f75.body
noncomputable def octet_Lay_c0 : Code := codeOf (getLoop 0 octet_Lay_c)
def octet_Lay_d0 : LD := { ins := ⟨[(0, (.av (.one (.sl 0 1)))), (1, (.av (.one (.int .u64)))), (4, (.av (.one (.int .i64))))], [(.sh (.arr (.int .u8) none), false)]⟩, mov := [], wr := [0], outs := [(.exit 0, ⟨[], [(.sh (.arr (.int .u8) none), false)]⟩)], its := [.nat, .nat, .int, .int, .lst (.int .u8)], ots := [[.lst (.int .u8)]] }
noncomputable def octet_Lay_J (N : Nat) : Nat → Hint := fun cx => hintOf cx [(0, { reg := fun k => assoc0 k [], cnd := fun k => assoc0 k [], loop := fun k => assoc0 k [(0, ⟨octet_Lay_d0, loopF (octet_Lay_b0 N) N⟩)], nil := fun k => assoc0 k [], unr := fun k => assocN k [], blk := fun k => assoc0 k [] })]
noncomputable def octet_Lay_C (N : Nat) : Nat → List GS := fun k => tabOf k []
def octet_Lay_o : List (Shp × List Nat) := [(⟨[(0, (.tup []))], [(.sh (.arr (.int .u8) none), false)]⟩, [])]
noncomputable def octet_Lay_g (N : Nat) : GS := { ins := ⟨[(0, (.av (.one (.sl 0 1)))), (1, (.av (.one (.int .u64))))], [(some (.arr (.int .u8) none), false)]⟩, lend := [.keep, .keep], outs := octet_Lay_o.map fun s => ssOf s.1, its := [.nat, .nat, .int, .lst (.int .u8)], ots := [[.lst (.int .u8)]], F := octet_Lay N }
theorem octet_Lay_t (N : Nat) : TabC Try.prog (octet_Lay_C N) := tab_ok trivial
theorem octet_Lay_i0 : loopsOf octet_Lay_c0 = [] := by kernel_rfl
theorem octet_Lay_e0 (N : Nat) (next) (x) : octet_Lay_b0 N next x = loopStep Γ (octet_Lay_C N) (octet_Lay_J N) 0 19 octet_Lay_d0 octet_Lay_c0 next x := by kernel_rfl
theorem octet_Lay_k0 (N : Nat) : LoopOK Try.prog 19 octet_Lay_c0 ⟨octet_Lay_d0, loopF (octet_Lay_b0 N) N⟩ := loop_ok tabOK (octet_Lay_t N) mixedOK (J := octet_Lay_J N) (cx := 0) (body := octet_Lay_c0) (nt := 19) (l := octet_Lay_d0) (b := octet_Lay_b0 N) (jok_from octet_Lay_i0 ⟨trivial, trivial⟩) (octet_Lay_e0 N) N
theorem octet_Lay_i : loopsOf octet_Lay_c = [(0, octet_Lay_c0)] := by kernel_rfl
theorem octet_Lay_e (N : Nat) (x) : (octet_Lay_g N).F x = fnStep Γ (octet_Lay_C N) (octet_Lay_J N) 19 Try.f75.results.toList (octet_Lay_g N) octet_Lay_o octet_Lay_c x := by kernel_rfl
theorem octet_Lay_y : Try.f75.body = some octet_Lay_c := by kernel_rfl
theorem octet_Lay_n : (Try.f75.name == "runtime.NumGoroutine") = false := by kernel_rfl
theorem octet_Lay_ok (N : Nat) : FnDoes Try.prog 75 (octet_Lay_g N) := fn_ok tabOK (octet_Lay_t N) mixedOK (J := octet_Lay_J N) (body := octet_Lay_c) Try.func75 octet_Lay_y octet_Lay_n Try.ntmps75 (jok_from octet_Lay_i ⟨⟨.inr ⟨_, rfl, octet_Lay_k0 N⟩, trivial⟩, trivial⟩) rfl rfl (le_of_ble rfl) (octet_Lay_e N)
noncomputable def octet_Put_c : Code := codeOf Try.f43.body
noncomputable def octet_Put_J (N : Nat) : Nat → Hint := fun cx => hintOf cx []
noncomputable def octet_Put_C (N : Nat) : Nat → List GS := fun k => tabOf k [(75, [octet_Lay_g N])]
def octet_Put_o : List (Shp × List Nat) := [(⟨[(0, (.av (.one (.const (.slw 0 1)))))], [(.sh (.arr (.int .u8) none), false)]⟩, [])]
noncomputable def octet_Put_g (N : Nat) : GS := { ins := ⟨[(0, (.av (.one (.const .nils)))), (1, (.av (.one (.int .u64)))), (2, (.av (.one (.int .i64))))], []⟩, lend := [.keep, .keep, .keep], outs := octet_Put_o.map fun s => ssOf s.1, its := [.int, .int], ots := [[.lst (.int .u8)]], F := octet_Put N }
noncomputable def octet_Put_CA (N : Nat) (f0 : Nat × Nat × Int × (List Int) → Option ((List Int))) : Nat → List GS := fun k => tabOf k [(75, [{ octet_Lay_g N with F := f0 }])]
theorem octet_Put_CE (N : Nat) : octet_Put_CA N (octet_Lay N) = octet_Put_C N := by kernel_rfl
theorem octet_Put_t (N : Nat) : TabC Try.prog (octet_Put_C N) := tab_ok ⟨⟨octet_Lay_ok N, trivial⟩, trivial⟩
theorem octet_Put_i : loopsOf octet_Put_c = [] := by kernel_rfl
noncomputable def octet_Put_a (N : Nat) (f0 : Nat × Nat × Int × (List Int) → Option ((List Int))) (x : Int × Int) : Option ((List Int)) :=
  (cond (((decide ((0 : Int) ≤ x.2)) && (fits 1 (Int.toNat x.2))) && (fits 1 (List.length (List.replicate (Int.toNat x.2) (EK.dflt (.int .u8))))))
  ((let v1 : List Int := (List.replicate (Int.toNat x.2) (EK.dflt (.int .u8)))
  (let v3 : Int := (wrapF .i64 ((((List.length v1) : Nat) : Int) - x.2))
  (cond (((decide ((0 : Int) ≤ v3)) && (decide (v3 ≤ (((List.length v1) : Nat) : Int)))) && (decide ((((List.length v1) : Nat) : Int) ≤ (((List.length v1) : Nat) : Int))))
  ((Option.bind (f0 ((Int.toNat v3), ((List.length v1) - (Int.toNat v3)), x.1, v1)) fun r6 =>
  (some r6)))
  none))))
  none)
theorem octet_Put_f (N : Nat) (f0 : Nat × Nat × Int × (List Int) → Option ((List Int))) (x) : octet_Put_a N f0 x = fnStep Γ (octet_Put_CA N f0) (octet_Put_J N) 19 Try.f43.results.toList (octet_Put_g N) octet_Put_o octet_Put_c x := by kernel_rfl
theorem octet_Put_e (N : Nat) (x) : (octet_Put_g N).F x = fnStep Γ (octet_Put_C N) (octet_Put_J N) 19 Try.f43.results.toList (octet_Put_g N) octet_Put_o octet_Put_c x := by
  rw [← octet_Put_CE N]
  exact Eq.trans (by kernel_rfl) (octet_Put_f N (octet_Lay N) x)
theorem octet_Put_y : Try.f43.body = some octet_Put_c := by kernel_rfl
theorem octet_Put_n : (Try.f43.name == "runtime.NumGoroutine") = false := by kernel_rfl
theorem octet_Put_ok (N : Nat) : FnDoes Try.prog 43 (octet_Put_g N) := fn_ok tabOK (octet_Put_t N) mixedOK (J := octet_Put_J N) (body := octet_Put_c) Try.func43 octet_Put_y octet_Put_n Try.ntmps43 (jok_from octet_Put_i trivial) rfl rfl (le_of_ble rfl) (octet_Put_e N)
noncomputable def xdr_Writer_Uint_c : Code := codeOf Try.f57.body
noncomputable def xdr_Writer_Uint_J (N : Nat) : Nat → Hint := fun cx => hintOf cx [(0, { reg := fun k => assoc0 k [], cnd := fun k => assoc0 k [(6, ⟨[], [0], [(.normal, ⟨[], [(.sh (.one (.const (.slw 2 1))), true), (.keep, false), (.sh (.arr (.int .u8) none), false)]⟩)], [[.lst (.int .u8)]]⟩)], loop := fun k => assoc0 k [], nil := fun k => assoc0 k [], unr := fun k => assocN k [], blk := fun k => assoc0 k [] })]
noncomputable def xdr_Writer_Uint_C (N : Nat) : Nat → List GS := fun k => tabOf k [(84, [xdr_Writer_bad_g N]), (43, [octet_Put_g N])]
def xdr_Writer_Uint_o : List (Shp × List Nat) := [(⟨[(0, (.tup []))], [(.sh (.one (.const (.slw 2 1))), true), (.sh (.one (.int .i64)), false), (.sh (.arr (.int .u8) none), false)]⟩, [])]
noncomputable def xdr_Writer_Uint_g (N : Nat) : GS := { ins := ⟨[(0, (.av (.one (.const (.ptr ⟨0, 0, 0, 0⟩))))), (1, (.av (.one (.int .u32))))], [(some (.one (.const .nils)), true), (some (.one (.int .i64)), false)]⟩, lend := [.keep, .keep], outs := xdr_Writer_Uint_o.map fun s => ssOf s.1, its := [.int, .int], ots := [[.int, .lst (.int .u8)]], F := xdr_Writer_Uint N }
noncomputable def xdr_Writer_Uint_CA (N : Nat) (f0 : Int → Option (Bool × Int)) (f1 : Int × Int → Option ((List Int))) : Nat → List GS := fun k => tabOf k [(84, [{ xdr_Writer_bad_g N with F := f0 }]), (43, [{ octet_Put_g N with F := f1 }])]
theorem xdr_Writer_Uint_CE (N : Nat) : xdr_Writer_Uint_CA N (xdr_Writer_bad) (octet_Put N) = xdr_Writer_Uint_C N := by kernel_rfl
theorem xdr_Writer_Uint_t (N : Nat) : TabC Try.prog (xdr_Writer_Uint_C N) := tab_ok ⟨⟨xdr_Writer_bad_ok N, trivial⟩, ⟨octet_Put_ok N, trivial⟩, trivial⟩
theorem xdr_Writer_Uint_i : loopsOf xdr_Writer_Uint_c = [] := by kernel_rfl
noncomputable def xdr_Writer_Uint_a (N : Nat) (f0 : Int → Option (Bool × Int)) (f1 : Int × Int → Option ((List Int))) (x : Int × Int) : Option (Int × (List Int)) :=
  (Option.bind (f0 x.2) fun r1 =>
  (Option.bind
  (cond (!r1.1)
  (Option.bind (f1 ((wrapF .u64 x.1), (4 : Int))) fun r4 =>
  (some r4))
  (some ([] : List Int)))
  fun r5 =>
  (some (r1.2, r5))))
theorem xdr_Writer_Uint_f (N : Nat) (f0 : Int → Option (Bool × Int)) (f1 : Int × Int → Option ((List Int))) (x) : xdr_Writer_Uint_a N f0 f1 x = fnStep Γ (xdr_Writer_Uint_CA N f0 f1) (xdr_Writer_Uint_J N) 17 Try.f57.results.toList (xdr_Writer_Uint_g N) xdr_Writer_Uint_o xdr_Writer_Uint_c x := by kernel_rfl
theorem xdr_Writer_Uint_e (N : Nat) (x) : (xdr_Writer_Uint_g N).F x = fnStep Γ (xdr_Writer_Uint_C N) (xdr_Writer_Uint_J N) 17 Try.f57.results.toList (xdr_Writer_Uint_g N) xdr_Writer_Uint_o xdr_Writer_Uint_c x := by
  rw [← xdr_Writer_Uint_CE N]
  exact Eq.trans (by kernel_rfl) (xdr_Writer_Uint_f N (xdr_Writer_bad) (octet_Put N) x)
theorem xdr_Writer_Uint_y : Try.f57.body = some xdr_Writer_Uint_c := by kernel_rfl
theorem xdr_Writer_Uint_n : (Try.f57.name == "runtime.NumGoroutine") = false := by kernel_rfl
theorem xdr_Writer_Uint_ok (N : Nat) : FnDoes Try.prog 57 (xdr_Writer_Uint_g N) := fn_ok tabOK (xdr_Writer_Uint_t N) mixedOK (J := xdr_Writer_Uint_J N) (body := xdr_Writer_Uint_c) Try.func57 xdr_Writer_Uint_y xdr_Writer_Uint_n Try.ntmps57 (jok_from xdr_Writer_Uint_i ⟨trivial, trivial⟩) rfl rfl (le_of_ble rfl) (xdr_Writer_Uint_e N)
noncomputable def xdr_Writer_bad_v1_c : Code := codeOf Try.f84.body
noncomputable def xdr_Writer_bad_v1_J (N : Nat) : Nat → Hint := fun cx => hintOf cx [(0, { reg := fun k => assoc0 k [], cnd := fun k => assoc0 k [], loop := fun k => assoc0 k [], nil := fun k => assoc0 k [], unr := fun k => assocN k [], blk := fun k => assoc0 k [] })]
noncomputable def xdr_Writer_bad_v1_C (N : Nat) : Nat → List GS := fun k => tabOf k []
def xdr_Writer_bad_v1_o : List (Shp × List Nat) := [(⟨[(0, (.av (.one .bool)))], [(.sh (.one (.const (.slw 2 1))), true), (.sh (.one (.int .i64)), false), (.sh (.arr (.int .u8) none), false)]⟩, [])]
noncomputable def xdr_Writer_bad_v1_g (N : Nat) : GS := { ins := ⟨[(0, (.av (.one (.const (.ptr ⟨0, 0, 0, 0⟩)))))], [(some (.one (.const (.slw 2 1))), true), (some (.one (.int .i64)), false), (some (.arr (.int .u8) none), false)]⟩, lend := [.keep], outs := xdr_Writer_bad_v1_o.map fun s => ssOf s.1, its := [.int, .lst (.int .u8)], ots := [[.bool, .int, .lst (.int .u8)]], F := xdr_Writer_bad_v1 }
theorem xdr_Writer_bad_v1_t (N : Nat) : TabC Try.prog (xdr_Writer_bad_v1_C N) := tab_ok trivial
theorem xdr_Writer_bad_v1_i : loopsOf xdr_Writer_bad_v1_c = [] := by kernel_rfl
theorem xdr_Writer_bad_v1_e (N : Nat) (x) : (xdr_Writer_bad_v1_g N).F x = fnStep Γ (xdr_Writer_bad_v1_C N) (xdr_Writer_bad_v1_J N) 12 Try.f84.results.toList (xdr_Writer_bad_v1_g N) xdr_Writer_bad_v1_o xdr_Writer_bad_v1_c x := by kernel_rfl
theorem xdr_Writer_bad_v1_y : Try.f84.body = some xdr_Writer_bad_v1_c := by kernel_rfl
theorem xdr_Writer_bad_v1_n : (Try.f84.name == "runtime.NumGoroutine") = false := by kernel_rfl
theorem xdr_Writer_bad_v1_ok (N : Nat) : FnDoes Try.prog 84 (xdr_Writer_bad_v1_g N) := fn_ok tabOK (xdr_Writer_bad_v1_t N) mixedOK (J := xdr_Writer_bad_v1_J N) (body := xdr_Writer_bad_v1_c) Try.func84 xdr_Writer_bad_v1_y xdr_Writer_bad_v1_n Try.ntmps84 (jok_from xdr_Writer_bad_v1_i ⟨trivial, trivial⟩) rfl rfl (le_of_ble rfl) (xdr_Writer_bad_v1_e N)
noncomputable def octet_Put_v1_c : Code := codeOf Try.f43.body
noncomputable def octet_Put_v1_J (N : Nat) : Nat → Hint := fun cx => hintOf cx []
noncomputable def octet_Put_v1_C (N : Nat) : Nat → List GS := fun k => tabOf k [(75, [octet_Lay_g N])]
def octet_Put_v1_o : List (Shp × List Nat) := [(⟨[(0, (.av (.one (.const (.slw 1 1)))))], [(.dead, false), (.sh (.arr (.int .u8) none), false)]⟩, [])]
noncomputable def octet_Put_v1_g (N : Nat) : GS := { ins := ⟨[(0, (.av (.one (.const (.slw 0 1))))), (1, (.av (.one (.int .u64)))), (2, (.av (.one (.int .i64))))], [(some (.arr (.int .u8) none), false)]⟩, lend := [.keep, .keep, .keep], outs := octet_Put_v1_o.map fun s => ssOf s.1, its := [.int, .int, .lst (.int .u8)], ots := [[.lst (.int .u8)]], F := octet_Put_v1 N }
noncomputable def octet_Put_v1_CA (N : Nat) (f0 : Nat × Nat × Int × (List Int) → Option ((List Int))) : Nat → List GS := fun k => tabOf k [(75, [{ octet_Lay_g N with F := f0 }])]
theorem octet_Put_v1_CE (N : Nat) : octet_Put_v1_CA N (octet_Lay N) = octet_Put_v1_C N := by kernel_rfl
theorem octet_Put_v1_t (N : Nat) : TabC Try.prog (octet_Put_v1_C N) := tab_ok ⟨⟨octet_Lay_ok N, trivial⟩, trivial⟩
theorem octet_Put_v1_i : loopsOf octet_Put_v1_c = [] := by kernel_rfl
noncomputable def octet_Put_v1_a (N : Nat) (f0 : Nat × Nat × Int × (List Int) → Option ((List Int))) (x : Int × Int × (List Int)) : Option ((List Int)) :=
  (cond (((decide ((0 : Int) ≤ x.2.1)) && (fits 1 (Int.toNat x.2.1))) && (fits 1 ((List.length x.2.2) + (List.length (List.replicate (Int.toNat x.2.1) (EK.dflt (.int .u8)))))))
  ((let v1 : List Int := (x.2.2 ++ (List.replicate (Int.toNat x.2.1) (EK.dflt (.int .u8))))
  (let v3 : Int := (wrapF .i64 ((((List.length v1) : Nat) : Int) - x.2.1))
  (cond (((decide ((0 : Int) ≤ v3)) && (decide (v3 ≤ (((List.length v1) : Nat) : Int)))) && (decide ((((List.length v1) : Nat) : Int) ≤ (((List.length v1) : Nat) : Int))))
  ((Option.bind (f0 ((Int.toNat v3), ((List.length v1) - (Int.toNat v3)), x.1, v1)) fun r6 =>
  (some r6)))
  none))))
  none)
theorem octet_Put_v1_f (N : Nat) (f0 : Nat × Nat × Int × (List Int) → Option ((List Int))) (x) : octet_Put_v1_a N f0 x = fnStep Γ (octet_Put_v1_CA N f0) (octet_Put_v1_J N) 19 Try.f43.results.toList (octet_Put_v1_g N) octet_Put_v1_o octet_Put_v1_c x := by kernel_rfl
theorem octet_Put_v1_e (N : Nat) (x) : (octet_Put_v1_g N).F x = fnStep Γ (octet_Put_v1_C N) (octet_Put_v1_J N) 19 Try.f43.results.toList (octet_Put_v1_g N) octet_Put_v1_o octet_Put_v1_c x := by
  rw [← octet_Put_v1_CE N]
  exact Eq.trans (by kernel_rfl) (octet_Put_v1_f N (octet_Lay N) x)
theorem octet_Put_v1_y : Try.f43.body = some octet_Put_v1_c := by kernel_rfl
theorem octet_Put_v1_n : (Try.f43.name == "runtime.NumGoroutine") = false := by kernel_rfl
theorem octet_Put_v1_ok (N : Nat) : FnDoes Try.prog 43 (octet_Put_v1_g N) := fn_ok tabOK (octet_Put_v1_t N) mixedOK (J := octet_Put_v1_J N) (body := octet_Put_v1_c) Try.func43 octet_Put_v1_y octet_Put_v1_n Try.ntmps43 (jok_from octet_Put_v1_i trivial) rfl rfl (le_of_ble rfl) (octet_Put_v1_e N)
noncomputable def xdr_Writer_Uint_v1_c : Code := codeOf Try.f57.body
noncomputable def xdr_Writer_Uint_v1_J (N : Nat) : Nat → Hint := fun cx => hintOf cx [(0, { reg := fun k => assoc0 k [], cnd := fun k => assoc0 k [(6, ⟨[2], [0], [(.normal, ⟨[], [(.sh (.one (.const (.slw 3 1))), true), (.keep, false), (.dead, false), (.sh (.arr (.int .u8) none), false)]⟩)], [[.lst (.int .u8)]]⟩)], loop := fun k => assoc0 k [], nil := fun k => assoc0 k [], unr := fun k => assocN k [], blk := fun k => assoc0 k [] })]
noncomputable def xdr_Writer_Uint_v1_C (N : Nat) : Nat → List GS := fun k => tabOf k [(84, [xdr_Writer_bad_v1_g N]), (43, [octet_Put_v1_g N])]
def xdr_Writer_Uint_v1_o : List (Shp × List Nat) := [(⟨[(0, (.tup []))], [(.sh (.one (.const (.slw 3 1))), true), (.sh (.one (.int .i64)), false), (.dead, false), (.sh (.arr (.int .u8) none), false)]⟩, [])]
noncomputable def xdr_Writer_Uint_v1_g (N : Nat) : GS := { ins := ⟨[(0, (.av (.one (.const (.ptr ⟨0, 0, 0, 0⟩))))), (1, (.av (.one (.int .u32))))], [(some (.one (.const (.slw 2 1))), true), (some (.one (.int .i64)), false), (some (.arr (.int .u8) none), false)]⟩, lend := [.keep, .keep], outs := xdr_Writer_Uint_v1_o.map fun s => ssOf s.1, its := [.int, .int, .lst (.int .u8)], ots := [[.int, .lst (.int .u8)]], F := xdr_Writer_Uint_v1 N }
noncomputable def xdr_Writer_Uint_v1_CA (N : Nat) (f0 : Int × (List Int) → Option (Bool × Int × (List Int))) (f1 : Int × Int × (List Int) → Option ((List Int))) : Nat → List GS := fun k => tabOf k [(84, [{ xdr_Writer_bad_v1_g N with F := f0 }]), (43, [{ octet_Put_v1_g N with F := f1 }])]
theorem xdr_Writer_Uint_v1_CE (N : Nat) : xdr_Writer_Uint_v1_CA N (xdr_Writer_bad_v1) (octet_Put_v1 N) = xdr_Writer_Uint_v1_C N := by kernel_rfl
theorem xdr_Writer_Uint_v1_t (N : Nat) : TabC Try.prog (xdr_Writer_Uint_v1_C N) := tab_ok ⟨⟨xdr_Writer_bad_v1_ok N, trivial⟩, ⟨octet_Put_v1_ok N, trivial⟩, trivial⟩
theorem xdr_Writer_Uint_v1_i : loopsOf xdr_Writer_Uint_v1_c = [] := by kernel_rfl
noncomputable def xdr_Writer_Uint_v1_a (N : Nat) (f0 : Int × (List Int) → Option (Bool × Int × (List Int))) (f1 : Int × Int × (List Int) → Option ((List Int))) (x : Int × Int × (List Int)) : Option (Int × (List Int)) :=
  (Option.bind (f0 (x.2.1, x.2.2)) fun r1 =>
  (Option.bind
  (cond (!r1.1)
  (Option.bind (f1 ((wrapF .u64 x.1), (4 : Int), r1.2.2)) fun r4 =>
  (some r4))
  (some r1.2.2))
  fun r5 =>
  (some (r1.2.1, r5))))
theorem xdr_Writer_Uint_v1_f (N : Nat) (f0 : Int × (List Int) → Option (Bool × Int × (List Int))) (f1 : Int × Int × (List Int) → Option ((List Int))) (x) : xdr_Writer_Uint_v1_a N f0 f1 x = fnStep Γ (xdr_Writer_Uint_v1_CA N f0 f1) (xdr_Writer_Uint_v1_J N) 17 Try.f57.results.toList (xdr_Writer_Uint_v1_g N) xdr_Writer_Uint_v1_o xdr_Writer_Uint_v1_c x := by kernel_rfl
theorem xdr_Writer_Uint_v1_e (N : Nat) (x) : (xdr_Writer_Uint_v1_g N).F x = fnStep Γ (xdr_Writer_Uint_v1_C N) (xdr_Writer_Uint_v1_J N) 17 Try.f57.results.toList (xdr_Writer_Uint_v1_g N) xdr_Writer_Uint_v1_o xdr_Writer_Uint_v1_c x := by
  rw [← xdr_Writer_Uint_v1_CE N]
  exact Eq.trans (by kernel_rfl) (xdr_Writer_Uint_v1_f N (xdr_Writer_bad_v1) (octet_Put_v1 N) x)
theorem xdr_Writer_Uint_v1_y : Try.f57.body = some xdr_Writer_Uint_v1_c := by kernel_rfl
theorem xdr_Writer_Uint_v1_n : (Try.f57.name == "runtime.NumGoroutine") = false := by kernel_rfl
theorem xdr_Writer_Uint_v1_ok (N : Nat) : FnDoes Try.prog 57 (xdr_Writer_Uint_v1_g N) := fn_ok tabOK (xdr_Writer_Uint_v1_t N) mixedOK (J := xdr_Writer_Uint_v1_J N) (body := xdr_Writer_Uint_v1_c) Try.func57 xdr_Writer_Uint_v1_y xdr_Writer_Uint_v1_n Try.ntmps57 (jok_from xdr_Writer_Uint_v1_i ⟨trivial, trivial⟩) rfl rfl (le_of_ble rfl) (xdr_Writer_Uint_v1_e N)
noncomputable def xdr_Writer_fits_c : Code := codeOf Try.f86.body
noncomputable def xdr_Writer_fits_J (N : Nat) : Nat → Hint := fun cx => hintOf cx [(0, { reg := fun k => assoc0 k [], cnd := fun k => assoc0 k [(11, ⟨[], [1], [(.normal, ⟨[], [(.keep, true), (.sh (.one (.int .i64)), false), (.keep, false)]⟩)], [[.int]]⟩)], loop := fun k => assoc0 k [], nil := fun k => assoc0 k [], unr := fun k => assocN k [], blk := fun k => assoc0 k [] })]
noncomputable def xdr_Writer_fits_C (N : Nat) : Nat → List GS := fun k => tabOf k [(84, [xdr_Writer_bad_v1_g N])]
def xdr_Writer_fits_o : List (Shp × List Nat) := [(⟨[(0, (.av (.one .bool)))], [(.sh (.one (.const (.slw 2 1))), true), (.sh (.one (.int .i64)), false), (.sh (.arr (.int .u8) none), false)]⟩, [])]
noncomputable def xdr_Writer_fits_g (N : Nat) : GS := { ins := ⟨[(0, (.av (.one (.const (.ptr ⟨0, 0, 0, 0⟩))))), (1, (.av (.one (.int .i64)))), (2, (.av (.one (.int .i64))))], [(some (.one (.const (.slw 2 1))), true), (some (.one (.int .i64)), false), (some (.arr (.int .u8) none), false)]⟩, lend := [.keep, .keep, .keep], outs := xdr_Writer_fits_o.map fun s => ssOf s.1, its := [.int, .int, .int, .lst (.int .u8)], ots := [[.bool, .int, .lst (.int .u8)]], F := xdr_Writer_fits }
noncomputable def xdr_Writer_fits_CA (N : Nat) (f0 : Int × (List Int) → Option (Bool × Int × (List Int))) : Nat → List GS := fun k => tabOf k [(84, [{ xdr_Writer_bad_v1_g N with F := f0 }])]
theorem xdr_Writer_fits_CE (N : Nat) : xdr_Writer_fits_CA N (xdr_Writer_bad_v1) = xdr_Writer_fits_C N := by kernel_rfl
theorem xdr_Writer_fits_t (N : Nat) : TabC Try.prog (xdr_Writer_fits_C N) := tab_ok ⟨⟨xdr_Writer_bad_v1_ok N, trivial⟩, trivial⟩
theorem xdr_Writer_fits_i : loopsOf xdr_Writer_fits_c = [] := by kernel_rfl
noncomputable def xdr_Writer_fits_a (N : Nat) (f0 : Int × (List Int) → Option (Bool × Int × (List Int))) (x : Int × Int × Int × (List Int)) : Option (Bool × Int × (List Int)) :=
  (Option.bind (f0 (x.2.2.1, x.2.2.2)) fun r1 =>
  (cond r1.1
  (some (false, r1.2.1, r1.2.2))
  (Option.bind
  (cond (decide (x.2.1 < x.1))
  (some (1 : Int))
  (some r1.2.1))
  fun r3 =>
  (some ((decide (x.1 ≤ x.2.1)), r3, r1.2.2)))))
theorem xdr_Writer_fits_f (N : Nat) (f0 : Int × (List Int) → Option (Bool × Int × (List Int))) (x) : xdr_Writer_fits_a N f0 x = fnStep Γ (xdr_Writer_fits_CA N f0) (xdr_Writer_fits_J N) 18 Try.f86.results.toList (xdr_Writer_fits_g N) xdr_Writer_fits_o xdr_Writer_fits_c x := by kernel_rfl
theorem xdr_Writer_fits_e (N : Nat) (x) : (xdr_Writer_fits_g N).F x = fnStep Γ (xdr_Writer_fits_C N) (xdr_Writer_fits_J N) 18 Try.f86.results.toList (xdr_Writer_fits_g N) xdr_Writer_fits_o xdr_Writer_fits_c x := by
  rw [← xdr_Writer_fits_CE N]
  exact Eq.trans (by kernel_rfl) (xdr_Writer_fits_f N (xdr_Writer_bad_v1) x)
theorem xdr_Writer_fits_y : Try.f86.body = some xdr_Writer_fits_c := by kernel_rfl
theorem xdr_Writer_fits_n : (Try.f86.name == "runtime.NumGoroutine") = false := by kernel_rfl
theorem xdr_Writer_fits_ok (N : Nat) : FnDoes Try.prog 86 (xdr_Writer_fits_g N) := fn_ok tabOK (xdr_Writer_fits_t N) mixedOK (J := xdr_Writer_fits_J N) (body := xdr_Writer_fits_c) Try.func86 xdr_Writer_fits_y xdr_Writer_fits_n Try.ntmps86 (jok_from xdr_Writer_fits_i ⟨trivial, trivial⟩) rfl rfl (le_of_ble rfl) (xdr_Writer_fits_e N)
noncomputable def xdr_padding_c : Code := codeOf Try.f94.body
noncomputable def xdr_padding_J (N : Nat) : Nat → Hint := fun cx => hintOf cx []
noncomputable def xdr_padding_C (N : Nat) : Nat → List GS := fun k => tabOf k []
def xdr_padding_o : List (Shp × List Nat) := [(⟨[(0, (.av (.one (.int .i64))))], []⟩, [])]
noncomputable def xdr_padding_g (N : Nat) : GS := { ins := ⟨[(0, (.av (.one (.int .i64))))], []⟩, lend := [.keep], outs := xdr_padding_o.map fun s => ssOf s.1, its := [.int], ots := [[.int]], F := xdr_padding }
theorem xdr_padding_t (N : Nat) : TabC Try.prog (xdr_padding_C N) := tab_ok trivial
theorem xdr_padding_i : loopsOf xdr_padding_c = [] := by kernel_rfl
theorem xdr_padding_e (N : Nat) (x) : (xdr_padding_g N).F x = fnStep Γ (xdr_padding_C N) (xdr_padding_J N) 7 Try.f94.results.toList (xdr_padding_g N) xdr_padding_o xdr_padding_c x := by kernel_rfl
theorem xdr_padding_y : Try.f94.body = some xdr_padding_c := by kernel_rfl
theorem xdr_padding_n : (Try.f94.name == "runtime.NumGoroutine") = false := by kernel_rfl
theorem xdr_padding_ok (N : Nat) : FnDoes Try.prog 94 (xdr_padding_g N) := fn_ok tabOK (xdr_padding_t N) mixedOK (J := xdr_padding_J N) (body := xdr_padding_c) Try.func94 xdr_padding_y xdr_padding_n Try.ntmps94 (jok_from xdr_padding_i trivial) rfl rfl (le_of_ble rfl) (xdr_padding_e N)
noncomputable def xdr_Writer_Fixed_c : Code := codeOf Try.f93.body
noncomputable def xdr_Writer_Fixed_c0 : Code := codeOf (getLoop 0 xdr_Writer_Fixed_c)
def xdr_Writer_Fixed_d0 : LD := { ins := ⟨[(0, (.av (.one (.const (.ptr ⟨0, 0, 0, 0⟩))))), (17, (.av (.one (.int .i64)))), (18, (.av (.one (.int .i64))))], [(.sh (.one (.const (.slw 3 1))), true), (.keep, false), (.keep, false), (.sh (.arr (.int .u8) none), false)]⟩, mov := [3], wr := [0], outs := [(.exit 0, ⟨[], [(.sh (.one (.const (.slw 4 1))), true), (.keep, false), (.keep, false), (.dead, false), (.sh (.arr (.int .u8) none), false)]⟩)], its := [.int, .int, .lst (.int .u8)], ots := [[.lst (.int .u8)]] }
noncomputable def xdr_Writer_Fixed_J (N : Nat) : Nat → Hint := fun cx => hintOf cx [(0, { reg := fun k => assoc0 k [], cnd := fun k => assoc0 k [], loop := fun k => assoc0 k [(0, ⟨xdr_Writer_Fixed_d0, loopF (xdr_Writer_Fixed_b0 N) N⟩)], nil := fun k => assoc0 k [], unr := fun k => assocN k [], blk := fun k => assoc0 k [] })]
noncomputable def xdr_Writer_Fixed_C (N : Nat) : Nat → List GS := fun k => tabOf k [(84, [xdr_Writer_bad_v1_g N]), (94, [xdr_padding_g N])]
def xdr_Writer_Fixed_o : List (Shp × List Nat) := [(⟨[(0, (.tup []))], [(.sh (.one (.const (.slw 3 1))), true), (.sh (.one (.int .i64)), false), (.dead, false), (.sh (.arr (.int .u8) none), false)]⟩, [2])]
noncomputable def xdr_Writer_Fixed_g (N : Nat) : GS := { ins := ⟨[(0, (.av (.one (.const (.ptr ⟨0, 0, 0, 0⟩))))), (1, (.av (.one (.rsl (.int .u8)))))], [(some (.one (.const (.slw 2 1))), true), (some (.one (.int .i64)), false), (some (.arr (.int .u8) none), false)]⟩, lend := [.keep, .keep], outs := xdr_Writer_Fixed_o.map fun s => ssOf s.1, its := [.lst (.int .u8), .int, .lst (.int .u8)], ots := [[.int, .lst (.int .u8)]], F := xdr_Writer_Fixed N }
noncomputable def xdr_Writer_Fixed_CA (N : Nat) (f0 : Int × (List Int) → Option (Bool × Int × (List Int))) (f1 : Int → Option (Int)) : Nat → List GS := fun k => tabOf k [(84, [{ xdr_Writer_bad_v1_g N with F := f0 }]), (94, [{ xdr_padding_g N with F := f1 }])]
theorem xdr_Writer_Fixed_CE (N : Nat) : xdr_Writer_Fixed_CA N (xdr_Writer_bad_v1) (xdr_padding) = xdr_Writer_Fixed_C N := by kernel_rfl
theorem xdr_Writer_Fixed_t (N : Nat) : TabC Try.prog (xdr_Writer_Fixed_C N) := tab_ok ⟨⟨xdr_Writer_bad_v1_ok N, trivial⟩, ⟨xdr_padding_ok N, trivial⟩, trivial⟩
theorem xdr_Writer_Fixed_i0 : loopsOf xdr_Writer_Fixed_c0 = [] := by kernel_rfl
noncomputable def xdr_Writer_Fixed_a0 (N : Nat) (f0 : Int × (List Int) → Option (Bool × Int × (List Int))) (f1 : Int → Option (Int)) (next : Int × Int × (List Int) → Option (((List Int)))) (x : Int × Int × (List Int)) : Option (((List Int))) :=
  (cond (decide (x.2.1 < x.1))
  (let v2 : List Int := ([(0 : Int)] : List Int)
  (cond ((decide (1 ≤ (List.length v2))) && (fits 1 ((List.length x.2.2) + (List.length (List.take 1 (List.drop 0 v2))))))
  ((next (x.1, (wrapF .i64 (x.2.1 + (1 : Int))), (x.2.2 ++ (List.take 1 (List.drop 0 v2))))))
  none))
  (some x.2.2))
theorem xdr_Writer_Fixed_f0 (N : Nat) (f0 : Int × (List Int) → Option (Bool × Int × (List Int))) (f1 : Int → Option (Int)) (next) (x) : xdr_Writer_Fixed_a0 N f0 f1 next x = loopStep Γ (xdr_Writer_Fixed_CA N f0 f1) (xdr_Writer_Fixed_J N) 0 30 xdr_Writer_Fixed_d0 xdr_Writer_Fixed_c0 next x := by kernel_rfl
theorem xdr_Writer_Fixed_e0 (N : Nat) (next) (x) : xdr_Writer_Fixed_b0 N next x = loopStep Γ (xdr_Writer_Fixed_C N) (xdr_Writer_Fixed_J N) 0 30 xdr_Writer_Fixed_d0 xdr_Writer_Fixed_c0 next x := by
  rw [← xdr_Writer_Fixed_CE N]
  exact Eq.trans (by kernel_rfl) (xdr_Writer_Fixed_f0 N (xdr_Writer_bad_v1) (xdr_padding) next x)
theorem xdr_Writer_Fixed_k0 (N : Nat) : LoopOK Try.prog 30 xdr_Writer_Fixed_c0 ⟨xdr_Writer_Fixed_d0, loopF (xdr_Writer_Fixed_b0 N) N⟩ := loop_ok tabOK (xdr_Writer_Fixed_t N) mixedOK (J := xdr_Writer_Fixed_J N) (cx := 0) (body := xdr_Writer_Fixed_c0) (nt := 30) (l := xdr_Writer_Fixed_d0) (b := xdr_Writer_Fixed_b0 N) (jok_from xdr_Writer_Fixed_i0 ⟨trivial, trivial⟩) (xdr_Writer_Fixed_e0 N) N
theorem xdr_Writer_Fixed_i : loopsOf xdr_Writer_Fixed_c = [(0, xdr_Writer_Fixed_c0)] := by kernel_rfl
noncomputable def xdr_Writer_Fixed_a (N : Nat) (f0 : Int × (List Int) → Option (Bool × Int × (List Int))) (f1 : Int → Option (Int)) (x : (List Int) × Int × (List Int)) : Option (Int × (List Int)) :=
  (Option.bind (f0 (x.2.1, x.2.2)) fun r1 =>
  (cond r1.1
  (some (r1.2.1, r1.2.2))
  (cond (fits 1 ((List.length r1.2.2) + (List.length x.1)))
  ((Option.bind (f1 (((List.length x.1) : Nat) : Int)) fun r4 =>
  (Option.bind (xdr_Writer_Fixed_l0 N (r4, (0 : Int), (r1.2.2 ++ x.1))) fun r5 =>
  (some (r1.2.1, r5)))))
  none)))
theorem xdr_Writer_Fixed_f (N : Nat) (f0 : Int × (List Int) → Option (Bool × Int × (List Int))) (f1 : Int → Option (Int)) (x) : xdr_Writer_Fixed_a N f0 f1 x = fnStep Γ (xdr_Writer_Fixed_CA N f0 f1) (xdr_Writer_Fixed_J N) 30 Try.f93.results.toList (xdr_Writer_Fixed_g N) xdr_Writer_Fixed_o xdr_Writer_Fixed_c x := by kernel_rfl
theorem xdr_Writer_Fixed_e (N : Nat) (x) : (xdr_Writer_Fixed_g N).F x = fnStep Γ (xdr_Writer_Fixed_C N) (xdr_Writer_Fixed_J N) 30 Try.f93.results.toList (xdr_Writer_Fixed_g N) xdr_Writer_Fixed_o xdr_Writer_Fixed_c x := by
  rw [← xdr_Writer_Fixed_CE N]
  exact Eq.trans (by kernel_rfl) (xdr_Writer_Fixed_f N (xdr_Writer_bad_v1) (xdr_padding) x)
theorem xdr_Writer_Fixed_y : Try.f93.body = some xdr_Writer_Fixed_c := by kernel_rfl
theorem xdr_Writer_Fixed_n : (Try.f93.name == "runtime.NumGoroutine") = false := by kernel_rfl
theorem xdr_Writer_Fixed_ok (N : Nat) : FnDoes Try.prog 93 (xdr_Writer_Fixed_g N) := fn_ok tabOK (xdr_Writer_Fixed_t N) mixedOK (J := xdr_Writer_Fixed_J N) (body := xdr_Writer_Fixed_c) Try.func93 xdr_Writer_Fixed_y xdr_Writer_Fixed_n Try.ntmps93 (jok_from xdr_Writer_Fixed_i ⟨⟨.inr ⟨_, rfl, xdr_Writer_Fixed_k0 N⟩, trivial⟩, trivial⟩) rfl rfl (le_of_ble rfl) (xdr_Writer_Fixed_e N)
noncomputable def xdr_Writer_Opaque_c : Code := codeOf Try.f85.body
noncomputable def xdr_Writer_Opaque_J (N : Nat) : Nat → Hint := fun cx => hintOf cx [(0, { reg := fun k => assoc0 k [], cnd := fun k => assoc0 k [(10, ⟨[2], [0, 1], [(.normal, ⟨[], [(.sh (.one (.const (.slw 3 1))), true), (.sh (.one (.int .i64)), false), (.dead, false), (.sh (.arr (.int .u8) none), false)]⟩)], [[.int, .lst (.int .u8)]]⟩)], loop := fun k => assoc0 k [], nil := fun k => assoc0 k [], unr := fun k => assocN k [], blk := fun k => assoc0 k [] })]
noncomputable def xdr_Writer_Opaque_C (N : Nat) : Nat → List GS := fun k => tabOf k [(86, [xdr_Writer_fits_g N]), (57, [xdr_Writer_Uint_v1_g N]), (93, [xdr_Writer_Fixed_g N])]
def xdr_Writer_Opaque_o : List (Shp × List Nat) := [(⟨[(0, (.tup []))], [(.sh (.one (.const (.slw 3 1))), true), (.sh (.one (.int .i64)), false), (.dead, false), (.sh (.arr (.int .u8) none), false)]⟩, [])]
noncomputable def xdr_Writer_Opaque_g (N : Nat) : GS := { ins := ⟨[(0, (.av (.one (.const (.ptr ⟨0, 0, 0, 0⟩))))), (1, (.av (.one (.rsl (.int .u8))))), (2, (.av (.one (.int .i64))))], [(some (.one (.const (.slw 2 1))), true), (some (.one (.int .i64)), false), (some (.arr (.int .u8) none), false)]⟩, lend := [.keep, .keep, .keep], outs := xdr_Writer_Opaque_o.map fun s => ssOf s.1, its := [.lst (.int .u8), .int, .int, .lst (.int .u8)], ots := [[.int, .lst (.int .u8)]], F := xdr_Writer_Opaque N }
noncomputable def xdr_Writer_Opaque_CA (N : Nat) (f0 : Int × Int × Int × (List Int) → Option (Bool × Int × (List Int))) (f1 : Int × Int × (List Int) → Option (Int × (List Int))) (f2 : (List Int) × Int × (List Int) → Option (Int × (List Int))) : Nat → List GS := fun k => tabOf k [(86, [{ xdr_Writer_fits_g N with F := f0 }]), (57, [{ xdr_Writer_Uint_v1_g N with F := f1 }]), (93, [{ xdr_Writer_Fixed_g N with F := f2 }])]
theorem xdr_Writer_Opaque_CE (N : Nat) : xdr_Writer_Opaque_CA N (xdr_Writer_fits) (xdr_Writer_Uint_v1 N) (xdr_Writer_Fixed N) = xdr_Writer_Opaque_C N := by kernel_rfl
theorem xdr_Writer_Opaque_t (N : Nat) : TabC Try.prog (xdr_Writer_Opaque_C N) := tab_ok ⟨⟨xdr_Writer_fits_ok N, trivial⟩, ⟨xdr_Writer_Uint_v1_ok N, trivial⟩, ⟨xdr_Writer_Fixed_ok N, trivial⟩, trivial⟩
theorem xdr_Writer_Opaque_i : loopsOf xdr_Writer_Opaque_c = [] := by kernel_rfl
noncomputable def xdr_Writer_Opaque_a (N : Nat) (f0 : Int × Int × Int × (List Int) → Option (Bool × Int × (List Int))) (f1 : Int × Int × (List Int) → Option (Int × (List Int))) (f2 : (List Int) × Int × (List Int) → Option (Int × (List Int))) (x : (List Int) × Int × Int × (List Int)) : Option (Int × (List Int)) :=
  (Option.bind (f0 ((((List.length x.1) : Nat) : Int), x.2.1, x.2.2.1, x.2.2.2)) fun r2 =>
  (Option.bind
  (cond r2.1
  (Option.bind (f1 ((wrapF .u32 (((List.length x.1) : Nat) : Int)), r2.2.1, r2.2.2)) fun r5 =>
  (Option.bind (f2 (x.1, r5.1, r5.2)) fun r6 =>
  (some (r6.1, r6.2))))
  (some (r2.2.1, r2.2.2)))
  fun r7 =>
  (some (r7.1, r7.2))))
theorem xdr_Writer_Opaque_f (N : Nat) (f0 : Int × Int × Int × (List Int) → Option (Bool × Int × (List Int))) (f1 : Int × Int × (List Int) → Option (Int × (List Int))) (f2 : (List Int) × Int × (List Int) → Option (Int × (List Int))) (x) : xdr_Writer_Opaque_a N f0 f1 f2 x = fnStep Γ (xdr_Writer_Opaque_CA N f0 f1 f2) (xdr_Writer_Opaque_J N) 19 Try.f85.results.toList (xdr_Writer_Opaque_g N) xdr_Writer_Opaque_o xdr_Writer_Opaque_c x := by kernel_rfl
theorem xdr_Writer_Opaque_e (N : Nat) (x) : (xdr_Writer_Opaque_g N).F x = fnStep Γ (xdr_Writer_Opaque_C N) (xdr_Writer_Opaque_J N) 19 Try.f85.results.toList (xdr_Writer_Opaque_g N) xdr_Writer_Opaque_o xdr_Writer_Opaque_c x := by
  rw [← xdr_Writer_Opaque_CE N]
  exact Eq.trans (by kernel_rfl) (xdr_Writer_Opaque_f N (xdr_Writer_fits) (xdr_Writer_Uint_v1 N) (xdr_Writer_Fixed N) x)
theorem xdr_Writer_Opaque_y : Try.f85.body = some xdr_Writer_Opaque_c := by kernel_rfl
theorem xdr_Writer_Opaque_n : (Try.f85.name == "runtime.NumGoroutine") = false := by kernel_rfl
theorem xdr_Writer_Opaque_ok (N : Nat) : FnDoes Try.prog 85 (xdr_Writer_Opaque_g N) := fn_ok tabOK (xdr_Writer_Opaque_t N) mixedOK (J := xdr_Writer_Opaque_J N) (body := xdr_Writer_Opaque_c) Try.func85 xdr_Writer_Opaque_y xdr_Writer_Opaque_n Try.ntmps85 (jok_from xdr_Writer_Opaque_i ⟨trivial, trivial⟩) rfl rfl (le_of_ble rfl) (xdr_Writer_Opaque_e N)
noncomputable def rpc_putAuth_c : Code := codeOf Try.f58.body
noncomputable def rpc_putAuth_J (N : Nat) : Nat → Hint := fun cx => hintOf cx []
noncomputable def rpc_putAuth_C (N : Nat) : Nat → List GS := fun k => tabOf k [(57, [xdr_Writer_Uint_v1_g N]), (85, [xdr_Writer_Opaque_g N])]
def rpc_putAuth_o : List (Shp × List Nat) := [(⟨[(0, (.tup []))], [(.sh (.one (.const (.slw 3 1))), true), (.sh (.one (.int .i64)), false), (.dead, false), (.sh (.arr (.int .u8) none), false)]⟩, [])]
noncomputable def rpc_putAuth_g (N : Nat) : GS := { ins := ⟨[(0, (.av (.one (.const (.ptr ⟨0, 0, 0, 0⟩))))), (1, (.av (.agg [(.one (.int .u32)), (.one (.rsl (.int .u8)))])))], [(some (.one (.const (.slw 2 1))), true), (some (.one (.int .i64)), false), (some (.arr (.int .u8) none), false)]⟩, lend := [.keep, .keep], outs := rpc_putAuth_o.map fun s => ssOf s.1, its := [.int, .lst (.int .u8), .int, .lst (.int .u8)], ots := [[.int, .lst (.int .u8)]], F := rpc_putAuth N }
noncomputable def rpc_putAuth_CA (N : Nat) (f0 : Int × Int × (List Int) → Option (Int × (List Int))) (f1 : (List Int) × Int × Int × (List Int) → Option (Int × (List Int))) : Nat → List GS := fun k => tabOf k [(57, [{ xdr_Writer_Uint_v1_g N with F := f0 }]), (85, [{ xdr_Writer_Opaque_g N with F := f1 }])]
theorem rpc_putAuth_CE (N : Nat) : rpc_putAuth_CA N (xdr_Writer_Uint_v1 N) (xdr_Writer_Opaque N) = rpc_putAuth_C N := by kernel_rfl
theorem rpc_putAuth_t (N : Nat) : TabC Try.prog (rpc_putAuth_C N) := tab_ok ⟨⟨xdr_Writer_Uint_v1_ok N, trivial⟩, ⟨xdr_Writer_Opaque_ok N, trivial⟩, trivial⟩
theorem rpc_putAuth_i : loopsOf rpc_putAuth_c = [] := by kernel_rfl
noncomputable def rpc_putAuth_a (N : Nat) (f0 : Int × Int × (List Int) → Option (Int × (List Int))) (f1 : (List Int) × Int × Int × (List Int) → Option (Int × (List Int))) (x : Int × (List Int) × Int × (List Int)) : Option (Int × (List Int)) :=
  (Option.bind (f0 (x.1, x.2.2.1, x.2.2.2)) fun r1 =>
  (Option.bind (f1 (x.2.1, (400 : Int), r1.1, r1.2)) fun r2 =>
  (some (r2.1, r2.2))))
theorem rpc_putAuth_f (N : Nat) (f0 : Int × Int × (List Int) → Option (Int × (List Int))) (f1 : (List Int) × Int × Int × (List Int) → Option (Int × (List Int))) (x) : rpc_putAuth_a N f0 f1 x = fnStep Γ (rpc_putAuth_CA N f0 f1) (rpc_putAuth_J N) 12 Try.f58.results.toList (rpc_putAuth_g N) rpc_putAuth_o rpc_putAuth_c x := by kernel_rfl
theorem rpc_putAuth_e (N : Nat) (x) : (rpc_putAuth_g N).F x = fnStep Γ (rpc_putAuth_C N) (rpc_putAuth_J N) 12 Try.f58.results.toList (rpc_putAuth_g N) rpc_putAuth_o rpc_putAuth_c x := by
  rw [← rpc_putAuth_CE N]
  exact Eq.trans (by kernel_rfl) (rpc_putAuth_f N (xdr_Writer_Uint_v1 N) (xdr_Writer_Opaque N) x)
theorem rpc_putAuth_y : Try.f58.body = some rpc_putAuth_c := by kernel_rfl
theorem rpc_putAuth_n : (Try.f58.name == "runtime.NumGoroutine") = false := by kernel_rfl
theorem rpc_putAuth_ok (N : Nat) : FnDoes Try.prog 58 (rpc_putAuth_g N) := fn_ok tabOK (rpc_putAuth_t N) mixedOK (J := rpc_putAuth_J N) (body := rpc_putAuth_c) Try.func58 rpc_putAuth_y rpc_putAuth_n Try.ntmps58 (jok_from rpc_putAuth_i trivial) rfl rfl (le_of_ble rfl) (rpc_putAuth_e N)
noncomputable def xdr_Writer_Why_c : Code := codeOf Try.f59.body
noncomputable def xdr_Writer_Why_J (N : Nat) : Nat → Hint := fun cx => hintOf cx []
noncomputable def xdr_Writer_Why_C (N : Nat) : Nat → List GS := fun k => tabOf k []
def xdr_Writer_Why_o : List (Shp × List Nat) := [(⟨[(0, (.av (.one (.int .i64))))], [(.sh (.one (.const (.slw 2 1))), true), (.sh (.one (.int .i64)), false), (.sh (.arr (.int .u8) none), false)]⟩, [])]
noncomputable def xdr_Writer_Why_g (N : Nat) : GS := { ins := ⟨[(0, (.av (.one (.const (.ptr ⟨0, 0, 0, 0⟩)))))], [(some (.one (.const (.slw 2 1))), true), (some (.one (.int .i64)), false), (some (.arr (.int .u8) none), false)]⟩, lend := [.keep], outs := xdr_Writer_Why_o.map fun s => ssOf s.1, its := [.int, .lst (.int .u8)], ots := [[.int, .int, .lst (.int .u8)]], F := xdr_Writer_Why }
theorem xdr_Writer_Why_t (N : Nat) : TabC Try.prog (xdr_Writer_Why_C N) := tab_ok trivial
theorem xdr_Writer_Why_i : loopsOf xdr_Writer_Why_c = [] := by kernel_rfl
theorem xdr_Writer_Why_e (N : Nat) (x) : (xdr_Writer_Why_g N).F x = fnStep Γ (xdr_Writer_Why_C N) (xdr_Writer_Why_J N) 9 Try.f59.results.toList (xdr_Writer_Why_g N) xdr_Writer_Why_o xdr_Writer_Why_c x := by kernel_rfl
theorem xdr_Writer_Why_y : Try.f59.body = some xdr_Writer_Why_c := by kernel_rfl
theorem xdr_Writer_Why_n : (Try.f59.name == "runtime.NumGoroutine") = false := by kernel_rfl
theorem xdr_Writer_Why_ok (N : Nat) : FnDoes Try.prog 59 (xdr_Writer_Why_g N) := fn_ok tabOK (xdr_Writer_Why_t N) mixedOK (J := xdr_Writer_Why_J N) (body := xdr_Writer_Why_c) Try.func59 xdr_Writer_Why_y xdr_Writer_Why_n Try.ntmps59 (jok_from xdr_Writer_Why_i trivial) rfl rfl (le_of_ble rfl) (xdr_Writer_Why_e N)
noncomputable def slices_Clone_byte_byte_c : Code := codeOf Try.f76.body
noncomputable def slices_Clone_byte_byte_J (N : Nat) : Nat → Hint := fun cx => hintOf cx []
noncomputable def slices_Clone_byte_byte_C (N : Nat) : Nat → List GS := fun k => tabOf k []
def slices_Clone_byte_byte_o : List (Shp × List Nat) := [(⟨[(0, (.av (.one (.const (.slw 0 1)))))], [(.sh (.arr (.int .u8) none), false)]⟩, [])]
noncomputable def slices_Clone_byte_byte_g (N : Nat) : GS := { ins := ⟨[(0, (.av (.one (.rsl (.int .u8)))))], []⟩, lend := [.lend (.int .u8)], outs := slices_Clone_byte_byte_o.map fun s => ssOf s.1, its := [.lst (.int .u8)], ots := [[.lst (.int .u8)]], F := slices_Clone_byte_byte }
theorem slices_Clone_byte_byte_t (N : Nat) : TabC Try.prog (slices_Clone_byte_byte_C N) := tab_ok trivial
theorem slices_Clone_byte_byte_i : loopsOf slices_Clone_byte_byte_c = [] := by kernel_rfl
theorem slices_Clone_byte_byte_e (N : Nat) (x) : (slices_Clone_byte_byte_g N).F x = fnStep Γ (slices_Clone_byte_byte_C N) (slices_Clone_byte_byte_J N) 8 Try.f76.results.toList (slices_Clone_byte_byte_g N) slices_Clone_byte_byte_o slices_Clone_byte_byte_c x := by kernel_rfl
theorem slices_Clone_byte_byte_y : Try.f76.body = some slices_Clone_byte_byte_c := by kernel_rfl
theorem slices_Clone_byte_byte_n : (Try.f76.name == "runtime.NumGoroutine") = false := by kernel_rfl
theorem slices_Clone_byte_byte_ok (N : Nat) : FnDoes Try.prog 76 (slices_Clone_byte_byte_g N) := fn_ok tabOK (slices_Clone_byte_byte_t N) mixedOK (J := slices_Clone_byte_byte_J N) (body := slices_Clone_byte_byte_c) Try.func76 slices_Clone_byte_byte_y slices_Clone_byte_byte_n Try.ntmps76 (jok_from slices_Clone_byte_byte_i trivial) rfl rfl (le_of_ble rfl) (slices_Clone_byte_byte_e N)
noncomputable def xdr_Writer_Bytes_c : Code := codeOf Try.f60.body
noncomputable def xdr_Writer_Bytes_J (N : Nat) : Nat → Hint := fun cx => hintOf cx []
noncomputable def xdr_Writer_Bytes_C (N : Nat) : Nat → List GS := fun k => tabOf k [(76, [slices_Clone_byte_byte_g N])]
def xdr_Writer_Bytes_o : List (Shp × List Nat) := [(⟨[(0, (.av (.one (.const (.slw 3 1)))))], [(.sh (.one (.const (.slw 2 1))), true), (.sh (.one (.int .i64)), false), (.sh (.arr (.int .u8) none), false), (.sh (.arr (.int .u8) none), false)]⟩, [])]
noncomputable def xdr_Writer_Bytes_g (N : Nat) : GS := { ins := ⟨[(0, (.av (.one (.const (.ptr ⟨0, 0, 0, 0⟩)))))], [(some (.one (.const (.slw 2 1))), true), (some (.one (.int .i64)), false), (some (.arr (.int .u8) none), false)]⟩, lend := [.keep], outs := xdr_Writer_Bytes_o.map fun s => ssOf s.1, its := [.int, .lst (.int .u8)], ots := [[.int, .lst (.int .u8), .lst (.int .u8)]], F := xdr_Writer_Bytes }
noncomputable def xdr_Writer_Bytes_CA (N : Nat) (f0 : (List Int) → Option ((List Int))) : Nat → List GS := fun k => tabOf k [(76, [{ slices_Clone_byte_byte_g N with F := f0 }])]
theorem xdr_Writer_Bytes_CE (N : Nat) : xdr_Writer_Bytes_CA N (slices_Clone_byte_byte) = xdr_Writer_Bytes_C N := by kernel_rfl
theorem xdr_Writer_Bytes_t (N : Nat) : TabC Try.prog (xdr_Writer_Bytes_C N) := tab_ok ⟨⟨slices_Clone_byte_byte_ok N, trivial⟩, trivial⟩
theorem xdr_Writer_Bytes_i : loopsOf xdr_Writer_Bytes_c = [] := by kernel_rfl
noncomputable def xdr_Writer_Bytes_a (N : Nat) (f0 : (List Int) → Option ((List Int))) (x : Int × (List Int)) : Option (Int × (List Int) × (List Int)) :=
  (Option.bind (f0 x.2) fun r1 =>
  (some (x.1, x.2, r1)))
theorem xdr_Writer_Bytes_f (N : Nat) (f0 : (List Int) → Option ((List Int))) (x) : xdr_Writer_Bytes_a N f0 x = fnStep Γ (xdr_Writer_Bytes_CA N f0) (xdr_Writer_Bytes_J N) 10 Try.f60.results.toList (xdr_Writer_Bytes_g N) xdr_Writer_Bytes_o xdr_Writer_Bytes_c x := by kernel_rfl
theorem xdr_Writer_Bytes_e (N : Nat) (x) : (xdr_Writer_Bytes_g N).F x = fnStep Γ (xdr_Writer_Bytes_C N) (xdr_Writer_Bytes_J N) 10 Try.f60.results.toList (xdr_Writer_Bytes_g N) xdr_Writer_Bytes_o xdr_Writer_Bytes_c x := by
  rw [← xdr_Writer_Bytes_CE N]
  exact Eq.trans (by kernel_rfl) (xdr_Writer_Bytes_f N (slices_Clone_byte_byte) x)
theorem xdr_Writer_Bytes_y : Try.f60.body = some xdr_Writer_Bytes_c := by kernel_rfl
theorem xdr_Writer_Bytes_n : (Try.f60.name == "runtime.NumGoroutine") = false := by kernel_rfl
theorem xdr_Writer_Bytes_ok (N : Nat) : FnDoes Try.prog 60 (xdr_Writer_Bytes_g N) := fn_ok tabOK (xdr_Writer_Bytes_t N) mixedOK (J := xdr_Writer_Bytes_J N) (body := xdr_Writer_Bytes_c) Try.func60 xdr_Writer_Bytes_y xdr_Writer_Bytes_n Try.ntmps60 (jok_from xdr_Writer_Bytes_i trivial) rfl rfl (le_of_ble rfl) (xdr_Writer_Bytes_e N)
noncomputable def rpc_PutCall_c : Code := codeOf Try.f27.body
noncomputable def rpc_PutCall_c0 : Code := codeOf (getLoop 0 rpc_PutCall_c)
def rpc_PutCall_d0 : LD := { ins := ⟨[(1, (.av (.one (.const (.ptr ⟨0, 0, 0, 0⟩))))), (4, (.av (.one (.const (.ptr ⟨10, 0, 0, 0⟩))))), (18, (.av (.one (.sl 12 1)))), (19, (.av (.one (.const (.int .i64 (6 : Int)))))), (20, (.av (.one (.int .i64))))], [(.keep, false), (.keep, false), (.keep, false), (.keep, false), (.keep, false), (.keep, false), (.keep, false), (.keep, false), (.keep, false), (.keep, false), (.sh (.one (.const (.slw 13 1))), true), (.sh (.one (.int .i64)), false), (.sh (.arr (.int .u32) none), false), (.sh (.arr (.int .u8) none), false)]⟩, mov := [13], wr := [10, 11, 12], outs := [(.exit 0, ⟨[], [(.keep, false), (.keep, false), (.keep, false), (.keep, false), (.keep, false), (.keep, false), (.keep, false), (.keep, false), (.keep, false), (.keep, false), (.sh (.one (.const (.slw 14 1))), true), (.sh (.one (.int .i64)), false), (.sh (.arr (.int .u32) none), false), (.dead, false), (.sh (.arr (.int .u8) none), false)]⟩)], its := [.nat, .nat, .int, .int, .lst (.int .u32), .lst (.int .u8)], ots := [[.int, .lst (.int .u32), .lst (.int .u8)]] }
noncomputable def rpc_PutCall_J (N : Nat) : Nat → Hint := fun cx => hintOf cx [(0, { reg := fun k => assoc0 k [], cnd := fun k => assoc0 k [], loop := fun k => assoc0 k [(0, ⟨rpc_PutCall_d0, loopF (rpc_PutCall_b0 N) N⟩)], nil := fun k => assoc0 k [], unr := fun k => assocN k [], blk := fun k => assoc0 k [] })]
noncomputable def rpc_PutCall_C (N : Nat) : Nat → List GS := fun k => tabOf k [(56, [xdr_NewWriter_g N]), (57, [xdr_Writer_Uint_g N, xdr_Writer_Uint_v1_g N]), (58, [rpc_putAuth_g N]), (59, [xdr_Writer_Why_g N]), (60, [xdr_Writer_Bytes_g N])]
def rpc_PutCall_o : List (Shp × List Nat) := [(⟨[(0, (.tup [(.one (.const (.slw 0 1))), (.one (.int .i64))]))], [(.sh (.arr (.int .u8) none), false)]⟩, [])]
noncomputable def rpc_PutCall_g (N : Nat) : GS := { ins := ⟨[(0, (.av (.agg [(.one (.int .u32)), (.one (.int .u32)), (.one (.int .u32)), (.one (.int .u32)), (.one (.int .u32)), (.one (.int .u32)), (.one (.rsl (.int .u8))), (.one (.int .u32)), (.one (.rsl (.int .u8))), (.one (.rsl (.int .u8)))])))], []⟩, lend := [.keep], outs := rpc_PutCall_o.map fun s => ssOf s.1, its := [.int, .int, .int, .int, .int, .int, .lst (.int .u8), .int, .lst (.int .u8), .lst (.int .u8)], ots := [[.int, .lst (.int .u8)]], F := rpc_PutCall N }
noncomputable def rpc_PutCall_CA (N : Nat) (f0 : Unit → Option (Unit)) (f1 : Int × Int → Option (Int × (List Int))) (f2 : Int × Int × (List Int) → Option (Int × (List Int))) (f3 : Int × (List Int) × Int × (List Int) → Option (Int × (List Int))) (f4 : Int × (List Int) → Option (Int × Int × (List Int))) (f5 : Int × (List Int) → Option (Int × (List Int) × (List Int))) : Nat → List GS := fun k => tabOf k [(56, [{ xdr_NewWriter_g N with F := f0 }]), (57, [{ xdr_Writer_Uint_g N with F := f1 }, { xdr_Writer_Uint_v1_g N with F := f2 }]), (58, [{ rpc_putAuth_g N with F := f3 }]), (59, [{ xdr_Writer_Why_g N with F := f4 }]), (60, [{ xdr_Writer_Bytes_g N with F := f5 }])]
theorem rpc_PutCall_CE (N : Nat) : rpc_PutCall_CA N (xdr_NewWriter) (xdr_Writer_Uint N) (xdr_Writer_Uint_v1 N) (rpc_putAuth N) (xdr_Writer_Why) (xdr_Writer_Bytes) = rpc_PutCall_C N := by kernel_rfl
theorem rpc_PutCall_t (N : Nat) : TabC Try.prog (rpc_PutCall_C N) := tab_ok ⟨⟨xdr_NewWriter_ok N, trivial⟩, ⟨xdr_Writer_Uint_ok N, xdr_Writer_Uint_v1_ok N, trivial⟩, ⟨rpc_putAuth_ok N, trivial⟩, ⟨xdr_Writer_Why_ok N, trivial⟩, ⟨xdr_Writer_Bytes_ok N, trivial⟩, trivial⟩
theorem rpc_PutCall_i0 : loopsOf rpc_PutCall_c0 = [] := by kernel_rfl
noncomputable def rpc_PutCall_a0 (N : Nat) (f0 : Unit → Option (Unit)) (f1 : Int × Int → Option (Int × (List Int))) (f2 : Int × Int × (List Int) → Option (Int × (List Int))) (f3 : Int × (List Int) × Int × (List Int) → Option (Int × (List Int))) (f4 : Int × (List Int) → Option (Int × Int × (List Int))) (f5 : Int × (List Int) → Option (Int × (List Int) × (List Int))) (next : Nat × Nat × Int × Int × (List Int) × (List Int) → Option ((Int × (List Int) × (List Int)))) (x : Nat × Nat × Int × Int × (List Int) × (List Int)) : Option ((Int × (List Int) × (List Int))) :=
  (cond (decide (x.2.2.1 < (6 : Int)))
  (cond ((decide ((0 : Int) ≤ x.2.2.1)) && (decide (x.2.2.1 < ((x.2.1 : Nat) : Int))))
  ((let v2 : Nat := ((Int.toNat x.2.2.1) + x.1)
  (cond (decide (v2 < (List.length x.2.2.2.2.1)))
  ((Option.bind (f2 ((List.getD x.2.2.2.2.1 v2 (EK.dflt (.int .u32))), x.2.2.2.1, x.2.2.2.2.2)) fun r4 =>
  (next (x.1, x.2.1, (wrapF .i64 (x.2.2.1 + (1 : Int))), r4.1, x.2.2.2.2.1, r4.2))))
  none)))
  none)
  (some (x.2.2.2.1, x.2.2.2.2.1, x.2.2.2.2.2)))
theorem rpc_PutCall_f0 (N : Nat) (f0 : Unit → Option (Unit)) (f1 : Int × Int → Option (Int × (List Int))) (f2 : Int × Int × (List Int) → Option (Int × (List Int))) (f3 : Int × (List Int) × Int × (List Int) → Option (Int × (List Int))) (f4 : Int × (List Int) → Option (Int × Int × (List Int))) (f5 : Int × (List Int) → Option (Int × (List Int) × (List Int))) (next) (x) : rpc_PutCall_a0 N f0 f1 f2 f3 f4 f5 next x = loopStep Γ (rpc_PutCall_CA N f0 f1 f2 f3 f4 f5) (rpc_PutCall_J N) 0 46 rpc_PutCall_d0 rpc_PutCall_c0 next x := by kernel_rfl
theorem rpc_PutCall_e0 (N : Nat) (next) (x) : rpc_PutCall_b0 N next x = loopStep Γ (rpc_PutCall_C N) (rpc_PutCall_J N) 0 46 rpc_PutCall_d0 rpc_PutCall_c0 next x := by
  rw [← rpc_PutCall_CE N]
  exact Eq.trans (by kernel_rfl) (rpc_PutCall_f0 N (xdr_NewWriter) (xdr_Writer_Uint N) (xdr_Writer_Uint_v1 N) (rpc_putAuth N) (xdr_Writer_Why) (xdr_Writer_Bytes) next x)
theorem rpc_PutCall_k0 (N : Nat) : LoopOK Try.prog 46 rpc_PutCall_c0 ⟨rpc_PutCall_d0, loopF (rpc_PutCall_b0 N) N⟩ := loop_ok tabOK (rpc_PutCall_t N) mixedOK (J := rpc_PutCall_J N) (cx := 0) (body := rpc_PutCall_c0) (nt := 46) (l := rpc_PutCall_d0) (b := rpc_PutCall_b0 N) (jok_from rpc_PutCall_i0 ⟨trivial, trivial⟩) (rpc_PutCall_e0 N) N
theorem rpc_PutCall_i : loopsOf rpc_PutCall_c = [(0, rpc_PutCall_c0)] := by kernel_rfl
noncomputable def rpc_PutCall_a (N : Nat) (f0 : Unit → Option (Unit)) (f1 : Int × Int → Option (Int × (List Int))) (f2 : Int × Int × (List Int) → Option (Int × (List Int))) (f3 : Int × (List Int) × Int × (List Int) → Option (Int × (List Int))) (f4 : Int × (List Int) → Option (Int × Int × (List Int))) (f5 : Int × (List Int) → Option (Int × (List Int) × (List Int))) (x : Int × Int × Int × Int × Int × Int × (List Int) × Int × (List Int) × (List Int)) : Option (Int × (List Int)) :=
  (Option.bind (f0 ()) fun r1 =>
  (Option.bind (rpc_PutCall_l0 N (0, 6, (0 : Int), (0 : Int), ([x.1, (0 : Int), x.2.1, x.2.2.1, x.2.2.2.1, x.2.2.2.2.1] : List Int), ([] : List Int))) fun r3 =>
  (Option.bind (f3 (x.2.2.2.2.2.1, x.2.2.2.2.2.2.1, r3.1, r3.2.2)) fun r4 =>
  (Option.bind (f3 (x.2.2.2.2.2.2.2.1, x.2.2.2.2.2.2.2.2.1, r4.1, r4.2)) fun r5 =>
  (Option.bind (f4 (r5.1, r5.2)) fun r6 =>
  (cond (!(decide (r6.1 = (0 : Int))))
  (Option.bind (f4 (r6.2.1, r6.2.2)) fun r8 =>
  (some (r8.1, ([] : List Int))))
  (Option.bind (f5 (r6.2.1, r6.2.2)) fun r9 =>
  (cond (fits 1 ((List.length r9.2.2) + (List.length x.2.2.2.2.2.2.2.2.2)))
  ((some ((0 : Int), (r9.2.2 ++ x.2.2.2.2.2.2.2.2.2))))
  none))))))))
theorem rpc_PutCall_f (N : Nat) (f0 : Unit → Option (Unit)) (f1 : Int × Int → Option (Int × (List Int))) (f2 : Int × Int × (List Int) → Option (Int × (List Int))) (f3 : Int × (List Int) × Int × (List Int) → Option (Int × (List Int))) (f4 : Int × (List Int) → Option (Int × Int × (List Int))) (f5 : Int × (List Int) → Option (Int × (List Int) × (List Int))) (x) : rpc_PutCall_a N f0 f1 f2 f3 f4 f5 x = fnStep Γ (rpc_PutCall_CA N f0 f1 f2 f3 f4 f5) (rpc_PutCall_J N) 46 Try.f27.results.toList (rpc_PutCall_g N) rpc_PutCall_o rpc_PutCall_c x := by kernel_rfl
theorem rpc_PutCall_e (N : Nat) (x) : (rpc_PutCall_g N).F x = fnStep Γ (rpc_PutCall_C N) (rpc_PutCall_J N) 46 Try.f27.results.toList (rpc_PutCall_g N) rpc_PutCall_o rpc_PutCall_c x := by
  rw [← rpc_PutCall_CE N]
  exact Eq.trans (by kernel_rfl) (rpc_PutCall_f N (xdr_NewWriter) (xdr_Writer_Uint N) (xdr_Writer_Uint_v1 N) (rpc_putAuth N) (xdr_Writer_Why) (xdr_Writer_Bytes) x)
theorem rpc_PutCall_y : Try.f27.body = some rpc_PutCall_c := by kernel_rfl
theorem rpc_PutCall_n : (Try.f27.name == "runtime.NumGoroutine") = false := by kernel_rfl
theorem rpc_PutCall_ok (N : Nat) : FnDoes Try.prog 27 (rpc_PutCall_g N) := fn_ok tabOK (rpc_PutCall_t N) mixedOK (J := rpc_PutCall_J N) (body := rpc_PutCall_c) Try.func27 rpc_PutCall_y rpc_PutCall_n Try.ntmps27 (jok_from rpc_PutCall_i ⟨⟨.inr ⟨_, rfl, rpc_PutCall_k0 N⟩, trivial⟩, trivial⟩) rfl rfl (le_of_ble rfl) (rpc_PutCall_e N)
noncomputable def slices_Clone_byte_byte_v1_c : Code := codeOf Try.f76.body
noncomputable def slices_Clone_byte_byte_v1_J (N : Nat) : Nat → Hint := fun cx => hintOf cx []
noncomputable def slices_Clone_byte_byte_v1_C (N : Nat) : Nat → List GS := fun k => tabOf k []
def slices_Clone_byte_byte_v1_o : List (Shp × List Nat) := [(⟨[(0, (.av (.one (.const (.slw 0 1)))))], [(.sh (.arr (.int .u8) none), false)]⟩, [])]
noncomputable def slices_Clone_byte_byte_v1_g (N : Nat) : GS := { ins := ⟨[(0, (.av (.one (.rsl (.int .u8)))))], []⟩, lend := [.keep], outs := slices_Clone_byte_byte_v1_o.map fun s => ssOf s.1, its := [.lst (.int .u8)], ots := [[.lst (.int .u8)]], F := slices_Clone_byte_byte_v1 }
theorem slices_Clone_byte_byte_v1_t (N : Nat) : TabC Try.prog (slices_Clone_byte_byte_v1_C N) := tab_ok trivial
theorem slices_Clone_byte_byte_v1_i : loopsOf slices_Clone_byte_byte_v1_c = [] := by kernel_rfl
theorem slices_Clone_byte_byte_v1_e (N : Nat) (x) : (slices_Clone_byte_byte_v1_g N).F x = fnStep Γ (slices_Clone_byte_byte_v1_C N) (slices_Clone_byte_byte_v1_J N) 8 Try.f76.results.toList (slices_Clone_byte_byte_v1_g N) slices_Clone_byte_byte_v1_o slices_Clone_byte_byte_v1_c x := by kernel_rfl
theorem slices_Clone_byte_byte_v1_y : Try.f76.body = some slices_Clone_byte_byte_v1_c := by kernel_rfl
theorem slices_Clone_byte_byte_v1_n : (Try.f76.name == "runtime.NumGoroutine") = false := by kernel_rfl
theorem slices_Clone_byte_byte_v1_ok (N : Nat) : FnDoes Try.prog 76 (slices_Clone_byte_byte_v1_g N) := fn_ok tabOK (slices_Clone_byte_byte_v1_t N) mixedOK (J := slices_Clone_byte_byte_v1_J N) (body := slices_Clone_byte_byte_v1_c) Try.func76 slices_Clone_byte_byte_v1_y slices_Clone_byte_byte_v1_n Try.ntmps76 (jok_from slices_Clone_byte_byte_v1_i trivial) rfl rfl (le_of_ble rfl) (slices_Clone_byte_byte_v1_e N)
noncomputable def xdr_NewReader_c : Code := codeOf Try.f45.body
noncomputable def xdr_NewReader_J (N : Nat) : Nat → Hint := fun cx => hintOf cx []
noncomputable def xdr_NewReader_C (N : Nat) : Nat → List GS := fun k => tabOf k [(76, [slices_Clone_byte_byte_v1_g N])]
def xdr_NewReader_o : List (Shp × List Nat) := [(⟨[(0, (.av (.one (.const (.ptr ⟨0, 0, 0, 0⟩)))))], [(.sh (.one (.const (.slw 4 1))), true), (.sh (.one (.const (.int .i64 (0 : Int)))), true), (.sh (.one (.const (.int .i64 (0 : Int)))), true), (.sh (.one (.const (.int .i64 (0 : Int)))), false), (.sh (.arr (.int .u8) none), false)]⟩, [])]
noncomputable def xdr_NewReader_g (N : Nat) : GS := { ins := ⟨[(0, (.av (.one (.rsl (.int .u8)))))], []⟩, lend := [.keep], outs := xdr_NewReader_o.map fun s => ssOf s.1, its := [.lst (.int .u8)], ots := [[.lst (.int .u8)]], F := xdr_NewReader }
noncomputable def xdr_NewReader_CA (N : Nat) (f0 : (List Int) → Option ((List Int))) : Nat → List GS := fun k => tabOf k [(76, [{ slices_Clone_byte_byte_v1_g N with F := f0 }])]
theorem xdr_NewReader_CE (N : Nat) : xdr_NewReader_CA N (slices_Clone_byte_byte_v1) = xdr_NewReader_C N := by kernel_rfl
theorem xdr_NewReader_t (N : Nat) : TabC Try.prog (xdr_NewReader_C N) := tab_ok ⟨⟨slices_Clone_byte_byte_v1_ok N, trivial⟩, trivial⟩
theorem xdr_NewReader_i : loopsOf xdr_NewReader_c = [] := by kernel_rfl
noncomputable def xdr_NewReader_a (N : Nat) (f0 : (List Int) → Option ((List Int))) (x : (List Int)) : Option ((List Int)) :=
  (Option.bind (f0 x) fun r1 =>
  (some r1))
theorem xdr_NewReader_f (N : Nat) (f0 : (List Int) → Option ((List Int))) (x) : xdr_NewReader_a N f0 x = fnStep Γ (xdr_NewReader_CA N f0) (xdr_NewReader_J N) 7 Try.f45.results.toList (xdr_NewReader_g N) xdr_NewReader_o xdr_NewReader_c x := by kernel_rfl
theorem xdr_NewReader_e (N : Nat) (x) : (xdr_NewReader_g N).F x = fnStep Γ (xdr_NewReader_C N) (xdr_NewReader_J N) 7 Try.f45.results.toList (xdr_NewReader_g N) xdr_NewReader_o xdr_NewReader_c x := by
  rw [← xdr_NewReader_CE N]
  exact Eq.trans (by kernel_rfl) (xdr_NewReader_f N (slices_Clone_byte_byte_v1) x)
theorem xdr_NewReader_y : Try.f45.body = some xdr_NewReader_c := by kernel_rfl
theorem xdr_NewReader_n : (Try.f45.name == "runtime.NumGoroutine") = false := by kernel_rfl
theorem xdr_NewReader_ok (N : Nat) : FnDoes Try.prog 45 (xdr_NewReader_g N) := fn_ok tabOK (xdr_NewReader_t N) mixedOK (J := xdr_NewReader_J N) (body := xdr_NewReader_c) Try.func45 xdr_NewReader_y xdr_NewReader_n Try.ntmps45 (jok_from xdr_NewReader_i trivial) rfl rfl (le_of_ble rfl) (xdr_NewReader_e N)
noncomputable def xdr_Reader_At_c : Code := codeOf Try.f78.body
noncomputable def xdr_Reader_At_J (N : Nat) : Nat → Hint := fun cx => hintOf cx []
noncomputable def xdr_Reader_At_C (N : Nat) : Nat → List GS := fun k => tabOf k []
def xdr_Reader_At_o : List (Shp × List Nat) := [(⟨[(0, (.av (.one (.int .i64))))], [(.sh (.one (.const (.slw 4 1))), true), (.sh (.one (.int .i64)), true), (.sh (.one (.int .i64)), true), (.sh (.one (.int .i64)), false), (.sh (.arr (.int .u8) none), false)]⟩, [])]
noncomputable def xdr_Reader_At_g (N : Nat) : GS := { ins := ⟨[(0, (.av (.one (.const (.ptr ⟨0, 0, 0, 0⟩)))))], [(some (.one (.const (.slw 4 1))), true), (some (.one (.int .i64)), true), (some (.one (.int .i64)), true), (some (.one (.int .i64)), false), (some (.arr (.int .u8) none), false)]⟩, lend := [.keep], outs := xdr_Reader_At_o.map fun s => ssOf s.1, its := [.int, .int, .int, .lst (.int .u8)], ots := [[.int, .int, .int, .int, .lst (.int .u8)]], F := xdr_Reader_At }
theorem xdr_Reader_At_t (N : Nat) : TabC Try.prog (xdr_Reader_At_C N) := tab_ok trivial
theorem xdr_Reader_At_i : loopsOf xdr_Reader_At_c = [] := by kernel_rfl
theorem xdr_Reader_At_e (N : Nat) (x) : (xdr_Reader_At_g N).F x = fnStep Γ (xdr_Reader_At_C N) (xdr_Reader_At_J N) 9 Try.f78.results.toList (xdr_Reader_At_g N) xdr_Reader_At_o xdr_Reader_At_c x := by kernel_rfl
theorem xdr_Reader_At_y : Try.f78.body = some xdr_Reader_At_c := by kernel_rfl
theorem xdr_Reader_At_n : (Try.f78.name == "runtime.NumGoroutine") = false := by kernel_rfl
theorem xdr_Reader_At_ok (N : Nat) : FnDoes Try.prog 78 (xdr_Reader_At_g N) := fn_ok tabOK (xdr_Reader_At_t N) mixedOK (J := xdr_Reader_At_J N) (body := xdr_Reader_At_c) Try.func78 xdr_Reader_At_y xdr_Reader_At_n Try.ntmps78 (jok_from xdr_Reader_At_i trivial) rfl rfl (le_of_ble rfl) (xdr_Reader_At_e N)
noncomputable def xdr_Reader_bad_c : Code := codeOf Try.f89.body
noncomputable def xdr_Reader_bad_J (N : Nat) : Nat → Hint := fun cx => hintOf cx [(0, { reg := fun k => assoc0 k [], cnd := fun k => assoc0 k [], loop := fun k => assoc0 k [], nil := fun k => assoc0 k [], unr := fun k => assocN k [], blk := fun k => assoc0 k [] })]
noncomputable def xdr_Reader_bad_C (N : Nat) : Nat → List GS := fun k => tabOf k []
def xdr_Reader_bad_o : List (Shp × List Nat) := [(⟨[(0, (.av (.one .bool)))], [(.sh (.one (.const (.slw 4 1))), true), (.sh (.one (.int .i64)), true), (.sh (.one (.int .i64)), true), (.sh (.one (.int .i64)), false), (.sh (.arr (.int .u8) none), false)]⟩, [])]
noncomputable def xdr_Reader_bad_g (N : Nat) : GS := { ins := ⟨[(0, (.av (.one (.const (.ptr ⟨0, 0, 0, 0⟩)))))], [(some (.one (.const (.slw 4 1))), true), (some (.one (.int .i64)), true), (some (.one (.int .i64)), true), (some (.one (.int .i64)), false), (some (.arr (.int .u8) none), false)]⟩, lend := [.keep], outs := xdr_Reader_bad_o.map fun s => ssOf s.1, its := [.int, .int, .int, .lst (.int .u8)], ots := [[.bool, .int, .int, .int, .lst (.int .u8)]], F := xdr_Reader_bad }
theorem xdr_Reader_bad_t (N : Nat) : TabC Try.prog (xdr_Reader_bad_C N) := tab_ok trivial
theorem xdr_Reader_bad_i : loopsOf xdr_Reader_bad_c = [] := by kernel_rfl
theorem xdr_Reader_bad_e (N : Nat) (x) : (xdr_Reader_bad_g N).F x = fnStep Γ (xdr_Reader_bad_C N) (xdr_Reader_bad_J N) 12 Try.f89.results.toList (xdr_Reader_bad_g N) xdr_Reader_bad_o xdr_Reader_bad_c x := by kernel_rfl
theorem xdr_Reader_bad_y : Try.f89.body = some xdr_Reader_bad_c := by kernel_rfl
theorem xdr_Reader_bad_n : (Try.f89.name == "runtime.NumGoroutine") = false := by kernel_rfl
theorem xdr_Reader_bad_ok (N : Nat) : FnDoes Try.prog 89 (xdr_Reader_bad_g N) := fn_ok tabOK (xdr_Reader_bad_t N) mixedOK (J := xdr_Reader_bad_J N) (body := xdr_Reader_bad_c) Try.func89 xdr_Reader_bad_y xdr_Reader_bad_n Try.ntmps89 (jok_from xdr_Reader_bad_i ⟨trivial, trivial⟩) rfl rfl (le_of_ble rfl) (xdr_Reader_bad_e N)
noncomputable def xdr_Reader_fails_c : Code := codeOf Try.f91.body
noncomputable def xdr_Reader_fails_J (N : Nat) : Nat → Hint := fun cx => hintOf cx [(0, { reg := fun k => assoc0 k [], cnd := fun k => assoc0 k [(8, ⟨[], [1, 2, 3], [(.normal, ⟨[], [(.keep, true), (.sh (.one (.int .i64)), true), (.sh (.one (.int .i64)), true), (.sh (.one (.int .i64)), false), (.keep, false)]⟩)], [[.int, .int, .int]]⟩)], loop := fun k => assoc0 k [], nil := fun k => assoc0 k [], unr := fun k => assocN k [], blk := fun k => assoc0 k [] })]
noncomputable def xdr_Reader_fails_C (N : Nat) : Nat → List GS := fun k => tabOf k [(89, [xdr_Reader_bad_g N])]
def xdr_Reader_fails_o : List (Shp × List Nat) := [(⟨[(0, (.tup []))], [(.sh (.one (.const (.slw 4 1))), true), (.sh (.one (.int .i64)), true), (.sh (.one (.int .i64)), true), (.sh (.one (.int .i64)), false), (.sh (.arr (.int .u8) none), false)]⟩, [])]
noncomputable def xdr_Reader_fails_g (N : Nat) : GS := { ins := ⟨[(0, (.av (.one (.const (.ptr ⟨0, 0, 0, 0⟩))))), (1, (.av (.one (.int .i64)))), (2, (.av (.one (.int .i64))))], [(some (.one (.const (.slw 4 1))), true), (some (.one (.int .i64)), true), (some (.one (.int .i64)), true), (some (.one (.int .i64)), false), (some (.arr (.int .u8) none), false)]⟩, lend := [.keep, .keep, .keep], outs := xdr_Reader_fails_o.map fun s => ssOf s.1, its := [.int, .int, .int, .int, .int, .lst (.int .u8)], ots := [[.int, .int, .int, .lst (.int .u8)]], F := xdr_Reader_fails }
noncomputable def xdr_Reader_fails_CA (N : Nat) (f0 : Int × Int × Int × (List Int) → Option (Bool × Int × Int × Int × (List Int))) : Nat → List GS := fun k => tabOf k [(89, [{ xdr_Reader_bad_g N with F := f0 }])]
theorem xdr_Reader_fails_CE (N : Nat) : xdr_Reader_fails_CA N (xdr_Reader_bad) = xdr_Reader_fails_C N := by kernel_rfl
theorem xdr_Reader_fails_t (N : Nat) : TabC Try.prog (xdr_Reader_fails_C N) := tab_ok ⟨⟨xdr_Reader_bad_ok N, trivial⟩, trivial⟩
theorem xdr_Reader_fails_i : loopsOf xdr_Reader_fails_c = [] := by kernel_rfl
noncomputable def xdr_Reader_fails_a (N : Nat) (f0 : Int × Int × Int × (List Int) → Option (Bool × Int × Int × Int × (List Int))) (x : Int × Int × Int × Int × Int × (List Int)) : Option (Int × Int × Int × (List Int)) :=
  (Option.bind (f0 (x.2.2.1, x.2.2.2.1, x.2.2.2.2.1, x.2.2.2.2.2)) fun r1 =>
  (Option.bind
  (cond (!r1.1)
  (some (x.2.1, x.1, x.2.1))
  (some (r1.2.1, r1.2.2.1, r1.2.2.2.1)))
  fun r3 =>
  (some (r3.1, r3.2.1, r3.2.2, r1.2.2.2.2))))
theorem xdr_Reader_fails_f (N : Nat) (f0 : Int × Int × Int × (List Int) → Option (Bool × Int × Int × Int × (List Int))) (x) : xdr_Reader_fails_a N f0 x = fnStep Γ (xdr_Reader_fails_CA N f0) (xdr_Reader_fails_J N) 21 Try.f91.results.toList (xdr_Reader_fails_g N) xdr_Reader_fails_o xdr_Reader_fails_c x := by kernel_rfl
theorem xdr_Reader_fails_e (N : Nat) (x) : (xdr_Reader_fails_g N).F x = fnStep Γ (xdr_Reader_fails_C N) (xdr_Reader_fails_J N) 21 Try.f91.results.toList (xdr_Reader_fails_g N) xdr_Reader_fails_o xdr_Reader_fails_c x := by
  rw [← xdr_Reader_fails_CE N]
  exact Eq.trans (by kernel_rfl) (xdr_Reader_fails_f N (xdr_Reader_bad) x)
theorem xdr_Reader_fails_y : Try.f91.body = some xdr_Reader_fails_c := by kernel_rfl
theorem xdr_Reader_fails_n : (Try.f91.name == "runtime.NumGoroutine") = false := by kernel_rfl
theorem xdr_Reader_fails_ok (N : Nat) : FnDoes Try.prog 91 (xdr_Reader_fails_g N) := fn_ok tabOK (xdr_Reader_fails_t N) mixedOK (J := xdr_Reader_fails_J N) (body := xdr_Reader_fails_c) Try.func91 xdr_Reader_fails_y xdr_Reader_fails_n Try.ntmps91 (jok_from xdr_Reader_fails_i ⟨trivial, trivial⟩) rfl rfl (le_of_ble rfl) (xdr_Reader_fails_e N)
noncomputable def xdr_Reader_take_c : Code := codeOf Try.f77.body
noncomputable def xdr_Reader_take_J (N : Nat) : Nat → Hint := fun cx => hintOf cx []
noncomputable def xdr_Reader_take_C (N : Nat) : Nat → List GS := fun k => tabOf k [(89, [xdr_Reader_bad_g N]), (91, [xdr_Reader_fails_g N])]
def xdr_Reader_take_o : List (Shp × List Nat) := [(⟨[(0, (.av (.one (.const .nils))))], [(.sh (.one (.const (.slw 4 1))), true), (.sh (.one (.int .i64)), true), (.sh (.one (.int .i64)), true), (.sh (.one (.int .i64)), false), (.sh (.arr (.int .u8) none), false)]⟩, []), (⟨[(0, (.av (.one (.sl 4 1))))], [(.sh (.one (.const (.slw 4 1))), true), (.sh (.one (.int .i64)), true), (.sh (.one (.int .i64)), true), (.sh (.one (.int .i64)), false), (.sh (.arr (.int .u8) none), false)]⟩, [])]
noncomputable def xdr_Reader_take_g (N : Nat) : GS := { ins := ⟨[(0, (.av (.one (.const (.ptr ⟨0, 0, 0, 0⟩))))), (1, (.av (.one (.int .i64)))), (2, (.av (.one (.int .i64))))], [(some (.one (.const (.slw 4 1))), true), (some (.one (.int .i64)), true), (some (.one (.int .i64)), true), (some (.one (.int .i64)), false), (some (.arr (.int .u8) none), false)]⟩, lend := [.keep, .keep, .keep], outs := xdr_Reader_take_o.map fun s => ssOf s.1, its := [.int, .int, .int, .int, .int, .lst (.int .u8)], ots := [[.int, .int, .int, .lst (.int .u8)], [.nat, .nat, .int, .int, .int, .lst (.int .u8)]], F := xdr_Reader_take }
noncomputable def xdr_Reader_take_CA (N : Nat) (f0 : Int × Int × Int × (List Int) → Option (Bool × Int × Int × Int × (List Int))) (f1 : Int × Int × Int × Int × Int × (List Int) → Option (Int × Int × Int × (List Int))) : Nat → List GS := fun k => tabOf k [(89, [{ xdr_Reader_bad_g N with F := f0 }]), (91, [{ xdr_Reader_fails_g N with F := f1 }])]
theorem xdr_Reader_take_CE (N : Nat) : xdr_Reader_take_CA N (xdr_Reader_bad) (xdr_Reader_fails) = xdr_Reader_take_C N := by kernel_rfl
theorem xdr_Reader_take_t (N : Nat) : TabC Try.prog (xdr_Reader_take_C N) := tab_ok ⟨⟨xdr_Reader_bad_ok N, trivial⟩, ⟨xdr_Reader_fails_ok N, trivial⟩, trivial⟩
theorem xdr_Reader_take_i : loopsOf xdr_Reader_take_c = [] := by kernel_rfl
noncomputable def xdr_Reader_take_a (N : Nat) (f0 : Int × Int × Int × (List Int) → Option (Bool × Int × Int × Int × (List Int))) (f1 : Int × Int × Int × Int × Int × (List Int) → Option (Int × Int × Int × (List Int))) (x : Int × Int × Int × Int × Int × (List Int)) : Option ((Int × Int × Int × (List Int)) ⊕ (Nat × Nat × Int × Int × Int × (List Int))) :=
  (Option.bind (f0 (x.2.2.1, x.2.2.2.1, x.2.2.2.2.1, x.2.2.2.2.2)) fun r1 =>
  (cond r1.1
  (some (.inl (r1.2.1, r1.2.2.1, r1.2.2.2.1, r1.2.2.2.2)))
  (cond (decide ((wrapF .i64 ((((List.length r1.2.2.2.2) : Nat) : Int) - r1.2.1)) < x.1))
  (Option.bind (f1 ((3 : Int), x.2.1, r1.2.1, r1.2.2.1, r1.2.2.2.1, r1.2.2.2.2)) fun r5 =>
  (some (.inl (r5.1, r5.2.1, r5.2.2.1, r5.2.2.2))))
  (let v6 : Int := (wrapF .i64 (r1.2.1 + x.1))
  (cond (((decide ((0 : Int) ≤ r1.2.1)) && (decide (r1.2.1 ≤ v6))) && (decide (v6 ≤ (((List.length r1.2.2.2.2) : Nat) : Int))))
  ((some (.inr (((Int.toNat r1.2.1), ((Int.toNat v6) - (Int.toNat r1.2.1)), (wrapF .i64 (r1.2.1 + x.1)), r1.2.2.1, r1.2.2.2.1, r1.2.2.2.2)))))
  none)))))
theorem xdr_Reader_take_f (N : Nat) (f0 : Int × Int × Int × (List Int) → Option (Bool × Int × Int × Int × (List Int))) (f1 : Int × Int × Int × Int × Int × (List Int) → Option (Int × Int × Int × (List Int))) (x) : xdr_Reader_take_a N f0 f1 x = fnStep Γ (xdr_Reader_take_CA N f0 f1) (xdr_Reader_take_J N) 51 Try.f77.results.toList (xdr_Reader_take_g N) xdr_Reader_take_o xdr_Reader_take_c x := by kernel_rfl
theorem xdr_Reader_take_e (N : Nat) (x) : (xdr_Reader_take_g N).F x = fnStep Γ (xdr_Reader_take_C N) (xdr_Reader_take_J N) 51 Try.f77.results.toList (xdr_Reader_take_g N) xdr_Reader_take_o xdr_Reader_take_c x := by
  rw [← xdr_Reader_take_CE N]
  exact Eq.trans (by kernel_rfl) (xdr_Reader_take_f N (xdr_Reader_bad) (xdr_Reader_fails) x)
theorem xdr_Reader_take_y : Try.f77.body = some xdr_Reader_take_c := by kernel_rfl
theorem xdr_Reader_take_n : (Try.f77.name == "runtime.NumGoroutine") = false := by kernel_rfl
theorem xdr_Reader_take_ok (N : Nat) : FnDoes Try.prog 77 (xdr_Reader_take_g N) := fn_ok tabOK (xdr_Reader_take_t N) mixedOK (J := xdr_Reader_take_J N) (body := xdr_Reader_take_c) Try.func77 xdr_Reader_take_y xdr_Reader_take_n Try.ntmps77 (jok_from xdr_Reader_take_i trivial) rfl rfl (le_of_ble rfl) (xdr_Reader_take_e N)
noncomputable def xdr_Reader_Uint_c : Code := codeOf Try.f46.body
noncomputable def xdr_Reader_Uint_J (N : Nat) : Nat → Hint := fun cx => hintOf cx []
noncomputable def xdr_Reader_Uint_C (N : Nat) : Nat → List GS := fun k => tabOf k [(78, [xdr_Reader_At_g N]), (77, [xdr_Reader_take_g N]), (79, [octet_Get_g N])]
def xdr_Reader_Uint_o : List (Shp × List Nat) := [(⟨[(0, (.av (.one (.int .u32))))], [(.sh (.one (.const (.slw 4 1))), true), (.sh (.one (.int .i64)), true), (.sh (.one (.int .i64)), true), (.sh (.one (.int .i64)), false), (.sh (.arr (.int .u8) none), false)]⟩, [])]
noncomputable def xdr_Reader_Uint_g (N : Nat) : GS := { ins := ⟨[(0, (.av (.one (.const (.ptr ⟨0, 0, 0, 0⟩)))))], [(some (.one (.const (.slw 4 1))), true), (some (.one (.int .i64)), true), (some (.one (.int .i64)), true), (some (.one (.int .i64)), false), (some (.arr (.int .u8) none), false)]⟩, lend := [.keep], outs := xdr_Reader_Uint_o.map fun s => ssOf s.1, its := [.int, .int, .int, .lst (.int .u8)], ots := [[.int, .int, .int, .int, .lst (.int .u8)]], F := xdr_Reader_Uint N }
noncomputable def xdr_Reader_Uint_CA (N : Nat) (f0 : Int × Int × Int × (List Int) → Option (Int × Int × Int × Int × (List Int))) (f1 : Int × Int × Int × Int × Int × (List Int) → Option ((Int × Int × Int × (List Int)) ⊕ (Nat × Nat × Int × Int × Int × (List Int)))) (f2 : (List Int) → Option (Int)) : Nat → List GS := fun k => tabOf k [(78, [{ xdr_Reader_At_g N with F := f0 }]), (77, [{ xdr_Reader_take_g N with F := f1 }]), (79, [{ octet_Get_g N with F := f2 }])]
theorem xdr_Reader_Uint_CE (N : Nat) : xdr_Reader_Uint_CA N (xdr_Reader_At) (xdr_Reader_take) (octet_Get N) = xdr_Reader_Uint_C N := by kernel_rfl
theorem xdr_Reader_Uint_t (N : Nat) : TabC Try.prog (xdr_Reader_Uint_C N) := tab_ok ⟨⟨xdr_Reader_At_ok N, trivial⟩, ⟨xdr_Reader_take_ok N, trivial⟩, ⟨octet_Get_ok N, trivial⟩, trivial⟩
theorem xdr_Reader_Uint_i : loopsOf xdr_Reader_Uint_c = [] := by kernel_rfl
noncomputable def xdr_Reader_Uint_a (N : Nat) (f0 : Int × Int × Int × (List Int) → Option (Int × Int × Int × Int × (List Int))) (f1 : Int × Int × Int × Int × Int × (List Int) → Option ((Int × Int × Int × (List Int)) ⊕ (Nat × Nat × Int × Int × Int × (List Int)))) (f2 : (List Int) → Option (Int)) (x : Int × Int × Int × (List Int)) : Option (Int × Int × Int × Int × (List Int)) :=
  (Option.bind (f0 (x.1, x.2.1, x.2.2.1, x.2.2.2)) fun r1 =>
  (Option.bind (f1 ((4 : Int), r1.1, r1.2.1, r1.2.2.1, r1.2.2.2.1, r1.2.2.2.2)) fun r2 =>
  (match r2 with
  | .inl y3 =>
  (some ((0 : Int), y3.1, y3.2.1, y3.2.2.1, y3.2.2.2))
  | .inr z4 =>
  (agreeC (decide (z4.2.1 = 0)) false
  (some ((0 : Int), z4.2.2.1, z4.2.2.2.1, z4.2.2.2.2.1, z4.2.2.2.2.2))
  (cond (decide ((4 : Int) ≤ ((z4.2.1 : Nat) : Int)))
  ((let v5 : Nat := (0 + z4.1)
  (cond (cond (decide ((v5 + 4) ≤ (List.length z4.2.2.2.2.2))) true false)
  (Option.bind (f2 (List.take 4 (List.drop v5 z4.2.2.2.2.2))) fun r6 =>
  (some ((wrapF .u32 r6), z4.2.2.1, z4.2.2.2.1, z4.2.2.2.2.1, z4.2.2.2.2.2)))
  none)))
  none)))))
theorem xdr_Reader_Uint_f (N : Nat) (f0 : Int × Int × Int × (List Int) → Option (Int × Int × Int × Int × (List Int))) (f1 : Int × Int × Int × Int × Int × (List Int) → Option ((Int × Int × Int × (List Int)) ⊕ (Nat × Nat × Int × Int × Int × (List Int)))) (f2 : (List Int) → Option (Int)) (x) : xdr_Reader_Uint_a N f0 f1 f2 x = fnStep Γ (xdr_Reader_Uint_CA N f0 f1 f2) (xdr_Reader_Uint_J N) 14 Try.f46.results.toList (xdr_Reader_Uint_g N) xdr_Reader_Uint_o xdr_Reader_Uint_c x := by kernel_rfl
theorem xdr_Reader_Uint_e (N : Nat) (x) : (xdr_Reader_Uint_g N).F x = fnStep Γ (xdr_Reader_Uint_C N) (xdr_Reader_Uint_J N) 14 Try.f46.results.toList (xdr_Reader_Uint_g N) xdr_Reader_Uint_o xdr_Reader_Uint_c x := by
  rw [← xdr_Reader_Uint_CE N]
  exact Eq.trans (by kernel_rfl) (xdr_Reader_Uint_f N (xdr_Reader_At) (xdr_Reader_take) (octet_Get N) x)
theorem xdr_Reader_Uint_y : Try.f46.body = some xdr_Reader_Uint_c := by kernel_rfl
theorem xdr_Reader_Uint_n : (Try.f46.name == "runtime.NumGoroutine") = false := by kernel_rfl
theorem xdr_Reader_Uint_ok (N : Nat) : FnDoes Try.prog 46 (xdr_Reader_Uint_g N) := fn_ok tabOK (xdr_Reader_Uint_t N) mixedOK (J := xdr_Reader_Uint_J N) (body := xdr_Reader_Uint_c) Try.func46 xdr_Reader_Uint_y xdr_Reader_Uint_n Try.ntmps46 (jok_from xdr_Reader_Uint_i trivial) rfl rfl (le_of_ble rfl) (xdr_Reader_Uint_e N)
noncomputable def xdr_Reader_length_c : Code := codeOf Try.f88.body
noncomputable def xdr_Reader_length_J (N : Nat) : Nat → Hint := fun cx => hintOf cx [(0, { reg := fun k => assoc0 k [(3, ⟨⟨[(19, (.av (.one .bool)))], [(.sh (.one (.const (.slw 4 1))), true), (.sh (.one (.int .i64)), true), (.sh (.one (.int .i64)), true), (.sh (.one (.int .i64)), false), (.sh (.arr (.int .u8) none), false)]⟩, [], [0, 1, 2, 3, 4], [.bool, .int, .int, .int, .lst (.int .u8)]⟩)], cnd := fun k => assoc0 k [], loop := fun k => assoc0 k [], nil := fun k => assoc0 k [], unr := fun k => assocN k [], blk := fun k => assoc0 k [] })]
noncomputable def xdr_Reader_length_C (N : Nat) : Nat → List GS := fun k => tabOf k [(78, [xdr_Reader_At_g N]), (46, [xdr_Reader_Uint_g N]), (89, [xdr_Reader_bad_g N]), (91, [xdr_Reader_fails_g N])]
def xdr_Reader_length_o : List (Shp × List Nat) := [(⟨[(0, (.av (.one (.int .i64))))], [(.sh (.one (.const (.slw 4 1))), true), (.sh (.one (.int .i64)), true), (.sh (.one (.int .i64)), true), (.sh (.one (.int .i64)), false), (.sh (.arr (.int .u8) none), false)]⟩, [])]
noncomputable def xdr_Reader_length_g (N : Nat) : GS := { ins := ⟨[(0, (.av (.one (.const (.ptr ⟨0, 0, 0, 0⟩))))), (1, (.av (.one (.int .i64))))], [(some (.one (.const (.slw 4 1))), true), (some (.one (.int .i64)), true), (some (.one (.int .i64)), true), (some (.one (.int .i64)), false), (some (.arr (.int .u8) none), false)]⟩, lend := [.keep, .keep], outs := xdr_Reader_length_o.map fun s => ssOf s.1, its := [.int, .int, .int, .int, .lst (.int .u8)], ots := [[.int, .int, .int, .int, .lst (.int .u8)]], F := xdr_Reader_length N }
noncomputable def xdr_Reader_length_CA (N : Nat) (f0 : Int × Int × Int × (List Int) → Option (Int × Int × Int × Int × (List Int))) (f1 : Int × Int × Int × (List Int) → Option (Int × Int × Int × Int × (List Int))) (f2 : Int × Int × Int × (List Int) → Option (Bool × Int × Int × Int × (List Int))) (f3 : Int × Int × Int × Int × Int × (List Int) → Option (Int × Int × Int × (List Int))) : Nat → List GS := fun k => tabOf k [(78, [{ xdr_Reader_At_g N with F := f0 }]), (46, [{ xdr_Reader_Uint_g N with F := f1 }]), (89, [{ xdr_Reader_bad_g N with F := f2 }]), (91, [{ xdr_Reader_fails_g N with F := f3 }])]
theorem xdr_Reader_length_CE (N : Nat) : xdr_Reader_length_CA N (xdr_Reader_At) (xdr_Reader_Uint N) (xdr_Reader_bad) (xdr_Reader_fails) = xdr_Reader_length_C N := by kernel_rfl
theorem xdr_Reader_length_t (N : Nat) : TabC Try.prog (xdr_Reader_length_C N) := tab_ok ⟨⟨xdr_Reader_At_ok N, trivial⟩, ⟨xdr_Reader_Uint_ok N, trivial⟩, ⟨xdr_Reader_bad_ok N, trivial⟩, ⟨xdr_Reader_fails_ok N, trivial⟩, trivial⟩
theorem xdr_Reader_length_i : loopsOf xdr_Reader_length_c = [] := by kernel_rfl
noncomputable def xdr_Reader_length_a (N : Nat) (f0 : Int × Int × Int × (List Int) → Option (Int × Int × Int × Int × (List Int))) (f1 : Int × Int × Int × (List Int) → Option (Int × Int × Int × Int × (List Int))) (f2 : Int × Int × Int × (List Int) → Option (Bool × Int × Int × Int × (List Int))) (f3 : Int × Int × Int × Int × Int × (List Int) → Option (Int × Int × Int × (List Int))) (x : Int × Int × Int × Int × (List Int)) : Option (Int × Int × Int × Int × (List Int)) :=
  (Option.bind (f0 (x.2.1, x.2.2.1, x.2.2.2.1, x.2.2.2.2)) fun r1 =>
  (Option.bind (f1 (r1.2.1, r1.2.2.1, r1.2.2.2.1, r1.2.2.2.2)) fun r2 =>
  (let v3 : Int := (wrapF .i64 r2.1)
  (Option.bind
  (Option.bind (f2 (r2.2.1, r2.2.2.1, r2.2.2.2.1, r2.2.2.2.2)) fun r4 =>
  (cond (!r4.1)
  (some ((decide (x.1 < v3)), r4.2.1, r4.2.2.1, r4.2.2.2.1, r4.2.2.2.2))
  (some (false, r4.2.1, r4.2.2.1, r4.2.2.2.1, r4.2.2.2.2))))
  fun r7 =>
  (cond r7.1
  (Option.bind (f3 ((1 : Int), r1.1, r7.2.1, r7.2.2.1, r7.2.2.2.1, r7.2.2.2.2)) fun r8 =>
  (some ((0 : Int), r8.1, r8.2.1, r8.2.2.1, r8.2.2.2)))
  (some (v3, r7.2.1, r7.2.2.1, r7.2.2.2.1, r7.2.2.2.2)))))))
theorem xdr_Reader_length_f (N : Nat) (f0 : Int × Int × Int × (List Int) → Option (Int × Int × Int × Int × (List Int))) (f1 : Int × Int × Int × (List Int) → Option (Int × Int × Int × Int × (List Int))) (f2 : Int × Int × Int × (List Int) → Option (Bool × Int × Int × Int × (List Int))) (f3 : Int × Int × Int × Int × Int × (List Int) → Option (Int × Int × Int × (List Int))) (x) : xdr_Reader_length_a N f0 f1 f2 f3 x = fnStep Γ (xdr_Reader_length_CA N f0 f1 f2 f3) (xdr_Reader_length_J N) 24 Try.f88.results.toList (xdr_Reader_length_g N) xdr_Reader_length_o xdr_Reader_length_c x := by kernel_rfl
theorem xdr_Reader_length_e (N : Nat) (x) : (xdr_Reader_length_g N).F x = fnStep Γ (xdr_Reader_length_C N) (xdr_Reader_length_J N) 24 Try.f88.results.toList (xdr_Reader_length_g N) xdr_Reader_length_o xdr_Reader_length_c x := by
  rw [← xdr_Reader_length_CE N]
  exact Eq.trans (by kernel_rfl) (xdr_Reader_length_f N (xdr_Reader_At) (xdr_Reader_Uint N) (xdr_Reader_bad) (xdr_Reader_fails) x)
theorem xdr_Reader_length_y : Try.f88.body = some xdr_Reader_length_c := by kernel_rfl
theorem xdr_Reader_length_n : (Try.f88.name == "runtime.NumGoroutine") = false := by kernel_rfl
theorem xdr_Reader_length_ok (N : Nat) : FnDoes Try.prog 88 (xdr_Reader_length_g N) := fn_ok tabOK (xdr_Reader_length_t N) mixedOK (J := xdr_Reader_length_J N) (body := xdr_Reader_length_c) Try.func88 xdr_Reader_length_y xdr_Reader_length_n Try.ntmps88 (jok_from xdr_Reader_length_i ⟨trivial, trivial⟩) rfl rfl (le_of_ble rfl) (xdr_Reader_length_e N)
noncomputable def xdr_Reader_fixed_c : Code := codeOf Try.f92.body
noncomputable def xdr_Reader_fixed_c0 : Code := codeOf (getLoop 0 xdr_Reader_fixed_c)
def xdr_Reader_fixed_d0 : LD := { ins := ⟨[(0, (.av (.one (.const (.ptr ⟨0, 0, 0, 0⟩))))), (1, (.av (.one (.int .i64)))), (2, (.av (.one (.int .i64)))), (7, (.av (.one (.sl 4 1)))), (37, (.av (.one (.sl 4 1)))), (38, (.av (.one (.int .i64)))), (39, (.av (.one (.int .i64))))], [(.sh (.one (.const (.slw 4 1))), true), (.sh (.one (.int .i64)), true), (.sh (.one (.int .i64)), true), (.sh (.one (.int .i64)), false), (.sh (.arr (.int .u8) none), false)]⟩, mov := [], wr := [0, 1, 2, 3, 4], outs := [(.ret, ⟨[(6, (.av (.one (.const .nils))))], [(.sh (.one (.const (.slw 4 1))), true), (.sh (.one (.int .i64)), true), (.sh (.one (.int .i64)), true), (.sh (.one (.int .i64)), false), (.sh (.arr (.int .u8) none), false)]⟩), (.exit 0, ⟨[], [(.sh (.one (.const (.slw 4 1))), true), (.sh (.one (.int .i64)), true), (.sh (.one (.int .i64)), true), (.sh (.one (.int .i64)), false), (.sh (.arr (.int .u8) none), false)]⟩)], its := [.int, .int, .nat, .nat, .nat, .nat, .int, .int, .int, .int, .int, .lst (.int .u8)], ots := [[.int, .int, .int, .lst (.int .u8)], [.int, .int, .int, .lst (.int .u8)]] }
noncomputable def xdr_Reader_fixed_J (N : Nat) : Nat → Hint := fun cx => hintOf cx [(0, { reg := fun k => assoc0 k [(1, ⟨⟨[(15, (.av (.one .bool)))], [(.sh (.one (.const (.slw 4 1))), true), (.sh (.one (.int .i64)), true), (.sh (.one (.int .i64)), true), (.sh (.one (.int .i64)), false), (.sh (.arr (.int .u8) none), false)]⟩, [], [0, 1, 2, 3, 4], [.bool, .int, .int, .int, .lst (.int .u8)]⟩)], cnd := fun k => assoc0 k [], loop := fun k => assoc0 k [(0, ⟨xdr_Reader_fixed_d0, loopF (xdr_Reader_fixed_b0 N) N⟩)], nil := fun k => assoc0 k [], unr := fun k => assocN k [], blk := fun k => assoc0 k [] })]
noncomputable def xdr_Reader_fixed_C (N : Nat) : Nat → List GS := fun k => tabOf k [(89, [xdr_Reader_bad_g N]), (91, [xdr_Reader_fails_g N]), (94, [xdr_padding_g N]), (77, [xdr_Reader_take_g N]), (76, [slices_Clone_byte_byte_g N])]
def xdr_Reader_fixed_o : List (Shp × List Nat) := [(⟨[(0, (.av (.one (.const (.slw 5 1)))))], [(.sh (.one (.const (.slw 4 1))), true), (.sh (.one (.int .i64)), true), (.sh (.one (.int .i64)), true), (.sh (.one (.int .i64)), false), (.sh (.arr (.int .u8) none), false), (.sh (.arr (.int .u8) none), false)]⟩, [])]
noncomputable def xdr_Reader_fixed_g (N : Nat) : GS := { ins := ⟨[(0, (.av (.one (.const (.ptr ⟨0, 0, 0, 0⟩))))), (1, (.av (.one (.int .i64)))), (2, (.av (.one (.int .i64))))], [(some (.one (.const (.slw 4 1))), true), (some (.one (.int .i64)), true), (some (.one (.int .i64)), true), (some (.one (.int .i64)), false), (some (.arr (.int .u8) none), false)]⟩, lend := [.keep, .keep, .keep], outs := xdr_Reader_fixed_o.map fun s => ssOf s.1, its := [.int, .int, .int, .int, .int, .lst (.int .u8)], ots := [[.int, .int, .int, .lst (.int .u8), .lst (.int .u8)]], F := xdr_Reader_fixed N }
noncomputable def xdr_Reader_fixed_CA (N : Nat) (f0 : Int × Int × Int × (List Int) → Option (Bool × Int × Int × Int × (List Int))) (f1 : Int × Int × Int × Int × Int × (List Int) → Option (Int × Int × Int × (List Int))) (f2 : Int → Option (Int)) (f3 : Int × Int × Int × Int × Int × (List Int) → Option ((Int × Int × Int × (List Int)) ⊕ (Nat × Nat × Int × Int × Int × (List Int)))) (f4 : (List Int) → Option ((List Int))) : Nat → List GS := fun k => tabOf k [(89, [{ xdr_Reader_bad_g N with F := f0 }]), (91, [{ xdr_Reader_fails_g N with F := f1 }]), (94, [{ xdr_padding_g N with F := f2 }]), (77, [{ xdr_Reader_take_g N with F := f3 }]), (76, [{ slices_Clone_byte_byte_g N with F := f4 }])]
theorem xdr_Reader_fixed_CE (N : Nat) : xdr_Reader_fixed_CA N (xdr_Reader_bad) (xdr_Reader_fails) (xdr_padding) (xdr_Reader_take) (slices_Clone_byte_byte) = xdr_Reader_fixed_C N := by kernel_rfl
theorem xdr_Reader_fixed_t (N : Nat) : TabC Try.prog (xdr_Reader_fixed_C N) := tab_ok ⟨⟨xdr_Reader_bad_ok N, trivial⟩, ⟨xdr_Reader_fails_ok N, trivial⟩, ⟨xdr_padding_ok N, trivial⟩, ⟨xdr_Reader_take_ok N, trivial⟩, ⟨slices_Clone_byte_byte_ok N, trivial⟩, trivial⟩
theorem xdr_Reader_fixed_i0 : loopsOf xdr_Reader_fixed_c0 = [] := by kernel_rfl
noncomputable def xdr_Reader_fixed_a0 (N : Nat) (f0 : Int × Int × Int × (List Int) → Option (Bool × Int × Int × Int × (List Int))) (f1 : Int × Int × Int × Int × Int × (List Int) → Option (Int × Int × Int × (List Int))) (f2 : Int → Option (Int)) (f3 : Int × Int × Int × Int × Int × (List Int) → Option ((Int × Int × Int × (List Int)) ⊕ (Nat × Nat × Int × Int × Int × (List Int)))) (f4 : (List Int) → Option ((List Int))) (next : Int × Int × Nat × Nat × Nat × Nat × Int × Int × Int × Int × Int × (List Int) → Option ((Int × Int × Int × (List Int)) ⊕ (Int × Int × Int × (List Int)))) (x : Int × Int × Nat × Nat × Nat × Nat × Int × Int × Int × Int × Int × (List Int)) : Option ((Int × Int × Int × (List Int)) ⊕ (Int × Int × Int × (List Int))) :=
  (cond (decide (x.2.2.2.2.2.2.2.1 < x.2.2.2.2.2.2.1))
  (cond ((decide ((0 : Int) ≤ x.2.2.2.2.2.2.2.1)) && (decide (x.2.2.2.2.2.2.2.1 < ((x.2.2.2.2.2.1 : Nat) : Int))))
  ((let v2 : Nat := ((Int.toNat x.2.2.2.2.2.2.2.1) + x.2.2.2.2.1)
  (cond (decide (v2 < (List.length x.2.2.2.2.2.2.2.2.2.2.2)))
  ((cond (!(decide ((List.getD x.2.2.2.2.2.2.2.2.2.2.2 v2 (EK.dflt (.int .u8))) = (0 : Int))))
  (Option.bind (f1 ((11 : Int), x.2.1, x.2.2.2.2.2.2.2.2.1, x.2.2.2.2.2.2.2.2.2.1, x.2.2.2.2.2.2.2.2.2.2.1, x.2.2.2.2.2.2.2.2.2.2.2)) fun r5 =>
  (some (.inl (r5.1, r5.2.1, r5.2.2.1, r5.2.2.2))))
  (next (x.1, x.2.1, x.2.2.1, x.2.2.2.1, x.2.2.2.2.1, x.2.2.2.2.2.1, x.2.2.2.2.2.2.1, (wrapF .i64 (x.2.2.2.2.2.2.2.1 + (1 : Int))), x.2.2.2.2.2.2.2.2.1, x.2.2.2.2.2.2.2.2.2.1, x.2.2.2.2.2.2.2.2.2.2.1, x.2.2.2.2.2.2.2.2.2.2.2))))
  none)))
  none)
  (some (.inr ((x.2.2.2.2.2.2.2.2.1, x.2.2.2.2.2.2.2.2.2.1, x.2.2.2.2.2.2.2.2.2.2.1, x.2.2.2.2.2.2.2.2.2.2.2)))))
theorem xdr_Reader_fixed_f0 (N : Nat) (f0 : Int × Int × Int × (List Int) → Option (Bool × Int × Int × Int × (List Int))) (f1 : Int × Int × Int × Int × Int × (List Int) → Option (Int × Int × Int × (List Int))) (f2 : Int → Option (Int)) (f3 : Int × Int × Int × Int × Int × (List Int) → Option ((Int × Int × Int × (List Int)) ⊕ (Nat × Nat × Int × Int × Int × (List Int)))) (f4 : (List Int) → Option ((List Int))) (next) (x) : xdr_Reader_fixed_a0 N f0 f1 f2 f3 f4 next x = loopStep Γ (xdr_Reader_fixed_CA N f0 f1 f2 f3 f4) (xdr_Reader_fixed_J N) 0 53 xdr_Reader_fixed_d0 xdr_Reader_fixed_c0 next x := by kernel_rfl
theorem xdr_Reader_fixed_e0 (N : Nat) (next) (x) : xdr_Reader_fixed_b0 N next x = loopStep Γ (xdr_Reader_fixed_C N) (xdr_Reader_fixed_J N) 0 53 xdr_Reader_fixed_d0 xdr_Reader_fixed_c0 next x := by
  rw [← xdr_Reader_fixed_CE N]
  exact Eq.trans (by kernel_rfl) (xdr_Reader_fixed_f0 N (xdr_Reader_bad) (xdr_Reader_fails) (xdr_padding) (xdr_Reader_take) (slices_Clone_byte_byte) next x)
theorem xdr_Reader_fixed_k0 (N : Nat) : LoopOK Try.prog 53 xdr_Reader_fixed_c0 ⟨xdr_Reader_fixed_d0, loopF (xdr_Reader_fixed_b0 N) N⟩ := loop_ok tabOK (xdr_Reader_fixed_t N) mixedOK (J := xdr_Reader_fixed_J N) (cx := 0) (body := xdr_Reader_fixed_c0) (nt := 53) (l := xdr_Reader_fixed_d0) (b := xdr_Reader_fixed_b0 N) (jok_from xdr_Reader_fixed_i0 ⟨trivial, trivial⟩) (xdr_Reader_fixed_e0 N) N
theorem xdr_Reader_fixed_i : loopsOf xdr_Reader_fixed_c = [(0, xdr_Reader_fixed_c0)] := by kernel_rfl
noncomputable def xdr_Reader_fixed_a (N : Nat) (f0 : Int × Int × Int × (List Int) → Option (Bool × Int × Int × Int × (List Int))) (f1 : Int × Int × Int × Int × Int × (List Int) → Option (Int × Int × Int × (List Int))) (f2 : Int → Option (Int)) (f3 : Int × Int × Int × Int × Int × (List Int) → Option ((Int × Int × Int × (List Int)) ⊕ (Nat × Nat × Int × Int × Int × (List Int)))) (f4 : (List Int) → Option ((List Int))) (x : Int × Int × Int × Int × Int × (List Int)) : Option (Int × Int × Int × (List Int) × (List Int)) :=
  (Option.bind
  (Option.bind (f0 (x.2.2.1, x.2.2.2.1, x.2.2.2.2.1, x.2.2.2.2.2)) fun r1 =>
  (cond r1.1
  (some (true, r1.2.1, r1.2.2.1, r1.2.2.2.1, r1.2.2.2.2))
  (some ((decide (x.1 ≤ (0 : Int))), r1.2.1, r1.2.2.1, r1.2.2.2.1, r1.2.2.2.2))))
  fun r3 =>
  (cond r3.1
  (some (r3.2.1, r3.2.2.1, r3.2.2.2.1, r3.2.2.2.2, ([] : List Int)))
  (cond (decide ((((List.length r3.2.2.2.2) : Nat) : Int) < x.1))
  (Option.bind (f1 ((3 : Int), x.2.1, r3.2.1, r3.2.2.1, r3.2.2.2.1, r3.2.2.2.2)) fun r6 =>
  (some (r6.1, r6.2.1, r6.2.2.1, r6.2.2.2, ([] : List Int))))
  (Option.bind (f2 x.1) fun r7 =>
  (Option.bind (f3 ((wrapF .i64 (x.1 + r7)), x.2.1, r3.2.1, r3.2.2.1, r3.2.2.2.1, r3.2.2.2.2)) fun r9 =>
  (match r9 with
  | .inl y10 =>
  (some (y10.1, y10.2.1, y10.2.2.1, y10.2.2.2, ([] : List Int)))
  | .inr z11 =>
  (agreeC (decide (z11.2.1 = 0)) false
  (some (z11.2.2.1, z11.2.2.2.1, z11.2.2.2.2.1, z11.2.2.2.2.2, ([] : List Int)))
  (cond (((decide ((0 : Int) ≤ x.1)) && (decide (x.1 ≤ ((z11.2.1 : Nat) : Int)))) && (decide (((z11.2.1 : Nat) : Int) ≤ ((z11.2.1 : Nat) : Int))))
  ((let v13 : Nat := (z11.2.1 - (Int.toNat x.1))
  (Option.bind (xdr_Reader_fixed_l0 N (x.1, x.2.1, z11.1, z11.2.1, ((Int.toNat x.1) + z11.1), v13, ((v13 : Nat) : Int), (0 : Int), z11.2.2.1, z11.2.2.2.1, z11.2.2.2.2.1, z11.2.2.2.2.2)) fun r15 =>
  (match r15 with
  | .inl y16 =>
  (some (y16.1, y16.2.1, y16.2.2.1, y16.2.2.2, ([] : List Int)))
  | .inr z17 =>
  (cond ((decide ((0 : Int) ≤ x.1)) && (decide (x.1 ≤ ((z11.2.1 : Nat) : Int))))
  ((let v18 : Nat := (0 + z11.1)
  (let v19 : Nat := (Int.toNat x.1)
  (cond (cond (decide ((v18 + v19) ≤ (List.length z17.2.2.2))) true false)
  (Option.bind (f4 (List.take v19 (List.drop v18 z17.2.2.2))) fun r20 =>
  (some (z17.1, z17.2.1, z17.2.2.1, z17.2.2.2, r20)))
  none))))
  none)))))
  none))))))))
theorem xdr_Reader_fixed_f (N : Nat) (f0 : Int × Int × Int × (List Int) → Option (Bool × Int × Int × Int × (List Int))) (f1 : Int × Int × Int × Int × Int × (List Int) → Option (Int × Int × Int × (List Int))) (f2 : Int → Option (Int)) (f3 : Int × Int × Int × Int × Int × (List Int) → Option ((Int × Int × Int × (List Int)) ⊕ (Nat × Nat × Int × Int × Int × (List Int)))) (f4 : (List Int) → Option ((List Int))) (x) : xdr_Reader_fixed_a N f0 f1 f2 f3 f4 x = fnStep Γ (xdr_Reader_fixed_CA N f0 f1 f2 f3 f4) (xdr_Reader_fixed_J N) 53 Try.f92.results.toList (xdr_Reader_fixed_g N) xdr_Reader_fixed_o xdr_Reader_fixed_c x := by kernel_rfl
theorem xdr_Reader_fixed_e (N : Nat) (x) : (xdr_Reader_fixed_g N).F x = fnStep Γ (xdr_Reader_fixed_C N) (xdr_Reader_fixed_J N) 53 Try.f92.results.toList (xdr_Reader_fixed_g N) xdr_Reader_fixed_o xdr_Reader_fixed_c x := by
  rw [← xdr_Reader_fixed_CE N]
  exact Eq.trans (by kernel_rfl) (xdr_Reader_fixed_f N (xdr_Reader_bad) (xdr_Reader_fails) (xdr_padding) (xdr_Reader_take) (slices_Clone_byte_byte) x)
theorem xdr_Reader_fixed_y : Try.f92.body = some xdr_Reader_fixed_c := by kernel_rfl
theorem xdr_Reader_fixed_n : (Try.f92.name == "runtime.NumGoroutine") = false := by kernel_rfl
theorem xdr_Reader_fixed_ok (N : Nat) : FnDoes Try.prog 92 (xdr_Reader_fixed_g N) := fn_ok tabOK (xdr_Reader_fixed_t N) mixedOK (J := xdr_Reader_fixed_J N) (body := xdr_Reader_fixed_c) Try.func92 xdr_Reader_fixed_y xdr_Reader_fixed_n Try.ntmps92 (jok_from xdr_Reader_fixed_i ⟨⟨.inr ⟨_, rfl, xdr_Reader_fixed_k0 N⟩, trivial⟩, trivial⟩) rfl rfl (le_of_ble rfl) (xdr_Reader_fixed_e N)
noncomputable def xdr_Reader_Opaque_c : Code := codeOf Try.f80.body
noncomputable def xdr_Reader_Opaque_J (N : Nat) : Nat → Hint := fun cx => hintOf cx []
noncomputable def xdr_Reader_Opaque_C (N : Nat) : Nat → List GS := fun k => tabOf k [(78, [xdr_Reader_At_g N]), (88, [xdr_Reader_length_g N]), (92, [xdr_Reader_fixed_g N])]
def xdr_Reader_Opaque_o : List (Shp × List Nat) := [(⟨[(0, (.av (.one (.const (.slw 5 1)))))], [(.sh (.one (.const (.slw 4 1))), true), (.sh (.one (.int .i64)), true), (.sh (.one (.int .i64)), true), (.sh (.one (.int .i64)), false), (.sh (.arr (.int .u8) none), false), (.sh (.arr (.int .u8) none), false)]⟩, [])]
noncomputable def xdr_Reader_Opaque_g (N : Nat) : GS := { ins := ⟨[(0, (.av (.one (.const (.ptr ⟨0, 0, 0, 0⟩))))), (1, (.av (.one (.int .i64))))], [(some (.one (.const (.slw 4 1))), true), (some (.one (.int .i64)), true), (some (.one (.int .i64)), true), (some (.one (.int .i64)), false), (some (.arr (.int .u8) none), false)]⟩, lend := [.keep, .keep], outs := xdr_Reader_Opaque_o.map fun s => ssOf s.1, its := [.int, .int, .int, .int, .lst (.int .u8)], ots := [[.int, .int, .int, .lst (.int .u8), .lst (.int .u8)]], F := xdr_Reader_Opaque N }
noncomputable def xdr_Reader_Opaque_CA (N : Nat) (f0 : Int × Int × Int × (List Int) → Option (Int × Int × Int × Int × (List Int))) (f1 : Int × Int × Int × Int × (List Int) → Option (Int × Int × Int × Int × (List Int))) (f2 : Int × Int × Int × Int × Int × (List Int) → Option (Int × Int × Int × (List Int) × (List Int))) : Nat → List GS := fun k => tabOf k [(78, [{ xdr_Reader_At_g N with F := f0 }]), (88, [{ xdr_Reader_length_g N with F := f1 }]), (92, [{ xdr_Reader_fixed_g N with F := f2 }])]
theorem xdr_Reader_Opaque_CE (N : Nat) : xdr_Reader_Opaque_CA N (xdr_Reader_At) (xdr_Reader_length N) (xdr_Reader_fixed N) = xdr_Reader_Opaque_C N := by kernel_rfl
theorem xdr_Reader_Opaque_t (N : Nat) : TabC Try.prog (xdr_Reader_Opaque_C N) := tab_ok ⟨⟨xdr_Reader_At_ok N, trivial⟩, ⟨xdr_Reader_length_ok N, trivial⟩, ⟨xdr_Reader_fixed_ok N, trivial⟩, trivial⟩
theorem xdr_Reader_Opaque_i : loopsOf xdr_Reader_Opaque_c = [] := by kernel_rfl
noncomputable def xdr_Reader_Opaque_a (N : Nat) (f0 : Int × Int × Int × (List Int) → Option (Int × Int × Int × Int × (List Int))) (f1 : Int × Int × Int × Int × (List Int) → Option (Int × Int × Int × Int × (List Int))) (f2 : Int × Int × Int × Int × Int × (List Int) → Option (Int × Int × Int × (List Int) × (List Int))) (x : Int × Int × Int × Int × (List Int)) : Option (Int × Int × Int × (List Int) × (List Int)) :=
  (Option.bind (f0 (x.2.1, x.2.2.1, x.2.2.2.1, x.2.2.2.2)) fun r1 =>
  (Option.bind (f1 (x.1, r1.2.1, r1.2.2.1, r1.2.2.2.1, r1.2.2.2.2)) fun r2 =>
  (Option.bind (f2 (r2.1, r1.1, r2.2.1, r2.2.2.1, r2.2.2.2.1, r2.2.2.2.2)) fun r3 =>
  (some (r3.1, r3.2.1, r3.2.2.1, r3.2.2.2.1, r3.2.2.2.2)))))
theorem xdr_Reader_Opaque_f (N : Nat) (f0 : Int × Int × Int × (List Int) → Option (Int × Int × Int × Int × (List Int))) (f1 : Int × Int × Int × Int × (List Int) → Option (Int × Int × Int × Int × (List Int))) (f2 : Int × Int × Int × Int × Int × (List Int) → Option (Int × Int × Int × (List Int) × (List Int))) (x) : xdr_Reader_Opaque_a N f0 f1 f2 x = fnStep Γ (xdr_Reader_Opaque_CA N f0 f1 f2) (xdr_Reader_Opaque_J N) 14 Try.f80.results.toList (xdr_Reader_Opaque_g N) xdr_Reader_Opaque_o xdr_Reader_Opaque_c x := by kernel_rfl
theorem xdr_Reader_Opaque_e (N : Nat) (x) : (xdr_Reader_Opaque_g N).F x = fnStep Γ (xdr_Reader_Opaque_C N) (xdr_Reader_Opaque_J N) 14 Try.f80.results.toList (xdr_Reader_Opaque_g N) xdr_Reader_Opaque_o xdr_Reader_Opaque_c x := by
  rw [← xdr_Reader_Opaque_CE N]
  exact Eq.trans (by kernel_rfl) (xdr_Reader_Opaque_f N (xdr_Reader_At) (xdr_Reader_length N) (xdr_Reader_fixed N) x)
theorem xdr_Reader_Opaque_y : Try.f80.body = some xdr_Reader_Opaque_c := by kernel_rfl
theorem xdr_Reader_Opaque_n : (Try.f80.name == "runtime.NumGoroutine") = false := by kernel_rfl
theorem xdr_Reader_Opaque_ok (N : Nat) : FnDoes Try.prog 80 (xdr_Reader_Opaque_g N) := fn_ok tabOK (xdr_Reader_Opaque_t N) mixedOK (J := xdr_Reader_Opaque_J N) (body := xdr_Reader_Opaque_c) Try.func80 xdr_Reader_Opaque_y xdr_Reader_Opaque_n Try.ntmps80 (jok_from xdr_Reader_Opaque_i trivial) rfl rfl (le_of_ble rfl) (xdr_Reader_Opaque_e N)
noncomputable def rpc_getAuth_c : Code := codeOf Try.f47.body
noncomputable def rpc_getAuth_J (N : Nat) : Nat → Hint := fun cx => hintOf cx []
noncomputable def rpc_getAuth_C (N : Nat) : Nat → List GS := fun k => tabOf k [(46, [xdr_Reader_Uint_g N]), (80, [xdr_Reader_Opaque_g N])]
def rpc_getAuth_o : List (Shp × List Nat) := [(⟨[(0, (.av (.agg [(.one (.int .u32)), (.one (.const (.slw 5 1)))])))], [(.sh (.one (.const (.slw 4 1))), true), (.sh (.one (.int .i64)), true), (.sh (.one (.int .i64)), true), (.sh (.one (.int .i64)), false), (.sh (.arr (.int .u8) none), false), (.sh (.arr (.int .u8) none), false)]⟩, [])]
noncomputable def rpc_getAuth_g (N : Nat) : GS := { ins := ⟨[(0, (.av (.one (.const (.ptr ⟨0, 0, 0, 0⟩)))))], [(some (.one (.const (.slw 4 1))), true), (some (.one (.int .i64)), true), (some (.one (.int .i64)), true), (some (.one (.int .i64)), false), (some (.arr (.int .u8) none), false)]⟩, lend := [.keep], outs := rpc_getAuth_o.map fun s => ssOf s.1, its := [.int, .int, .int, .lst (.int .u8)], ots := [[.int, .int, .int, .int, .lst (.int .u8), .lst (.int .u8)]], F := rpc_getAuth N }
noncomputable def rpc_getAuth_CA (N : Nat) (f0 : Int × Int × Int × (List Int) → Option (Int × Int × Int × Int × (List Int))) (f1 : Int × Int × Int × Int × (List Int) → Option (Int × Int × Int × (List Int) × (List Int))) : Nat → List GS := fun k => tabOf k [(46, [{ xdr_Reader_Uint_g N with F := f0 }]), (80, [{ xdr_Reader_Opaque_g N with F := f1 }])]
theorem rpc_getAuth_CE (N : Nat) : rpc_getAuth_CA N (xdr_Reader_Uint N) (xdr_Reader_Opaque N) = rpc_getAuth_C N := by kernel_rfl
theorem rpc_getAuth_t (N : Nat) : TabC Try.prog (rpc_getAuth_C N) := tab_ok ⟨⟨xdr_Reader_Uint_ok N, trivial⟩, ⟨xdr_Reader_Opaque_ok N, trivial⟩, trivial⟩
theorem rpc_getAuth_i : loopsOf rpc_getAuth_c = [] := by kernel_rfl
noncomputable def rpc_getAuth_a (N : Nat) (f0 : Int × Int × Int × (List Int) → Option (Int × Int × Int × Int × (List Int))) (f1 : Int × Int × Int × Int × (List Int) → Option (Int × Int × Int × (List Int) × (List Int))) (x : Int × Int × Int × (List Int)) : Option (Int × Int × Int × Int × (List Int) × (List Int)) :=
  (Option.bind (f0 (x.1, x.2.1, x.2.2.1, x.2.2.2)) fun r1 =>
  (Option.bind (f1 ((400 : Int), r1.2.1, r1.2.2.1, r1.2.2.2.1, r1.2.2.2.2)) fun r2 =>
  (some (r1.1, r2.1, r2.2.1, r2.2.2.1, r2.2.2.2.1, r2.2.2.2.2))))
theorem rpc_getAuth_f (N : Nat) (f0 : Int × Int × Int × (List Int) → Option (Int × Int × Int × Int × (List Int))) (f1 : Int × Int × Int × Int × (List Int) → Option (Int × Int × Int × (List Int) × (List Int))) (x) : rpc_getAuth_a N f0 f1 x = fnStep Γ (rpc_getAuth_CA N f0 f1) (rpc_getAuth_J N) 8 Try.f47.results.toList (rpc_getAuth_g N) rpc_getAuth_o rpc_getAuth_c x := by kernel_rfl
theorem rpc_getAuth_e (N : Nat) (x) : (rpc_getAuth_g N).F x = fnStep Γ (rpc_getAuth_C N) (rpc_getAuth_J N) 8 Try.f47.results.toList (rpc_getAuth_g N) rpc_getAuth_o rpc_getAuth_c x := by
  rw [← rpc_getAuth_CE N]
  exact Eq.trans (by kernel_rfl) (rpc_getAuth_f N (xdr_Reader_Uint N) (xdr_Reader_Opaque N) x)
theorem rpc_getAuth_y : Try.f47.body = some rpc_getAuth_c := by kernel_rfl
theorem rpc_getAuth_n : (Try.f47.name == "runtime.NumGoroutine") = false := by kernel_rfl
theorem rpc_getAuth_ok (N : Nat) : FnDoes Try.prog 47 (rpc_getAuth_g N) := fn_ok tabOK (rpc_getAuth_t N) mixedOK (J := rpc_getAuth_J N) (body := rpc_getAuth_c) Try.func47 rpc_getAuth_y rpc_getAuth_n Try.ntmps47 (jok_from rpc_getAuth_i trivial) rfl rfl (le_of_ble rfl) (rpc_getAuth_e N)
noncomputable def xdr_Reader_Why_c : Code := codeOf Try.f48.body
noncomputable def xdr_Reader_Why_J (N : Nat) : Nat → Hint := fun cx => hintOf cx []
noncomputable def xdr_Reader_Why_C (N : Nat) : Nat → List GS := fun k => tabOf k []
def xdr_Reader_Why_o : List (Shp × List Nat) := [(⟨[(0, (.tup [(.one (.int .i64)), (.one (.int .i64))]))], [(.sh (.one (.const (.slw 4 1))), true), (.sh (.one (.int .i64)), true), (.sh (.one (.int .i64)), true), (.sh (.one (.int .i64)), false), (.sh (.arr (.int .u8) none), false)]⟩, [])]
noncomputable def xdr_Reader_Why_g (N : Nat) : GS := { ins := ⟨[(0, (.av (.one (.const (.ptr ⟨0, 0, 0, 0⟩)))))], [(some (.one (.const (.slw 4 1))), true), (some (.one (.int .i64)), true), (some (.one (.int .i64)), true), (some (.one (.int .i64)), false), (some (.arr (.int .u8) none), false)]⟩, lend := [.keep], outs := xdr_Reader_Why_o.map fun s => ssOf s.1, its := [.int, .int, .int, .lst (.int .u8)], ots := [[.int, .int, .int, .int, .int, .lst (.int .u8)]], F := xdr_Reader_Why }
theorem xdr_Reader_Why_t (N : Nat) : TabC Try.prog (xdr_Reader_Why_C N) := tab_ok trivial
theorem xdr_Reader_Why_i : loopsOf xdr_Reader_Why_c = [] := by kernel_rfl
theorem xdr_Reader_Why_e (N : Nat) (x) : (xdr_Reader_Why_g N).F x = fnStep Γ (xdr_Reader_Why_C N) (xdr_Reader_Why_J N) 14 Try.f48.results.toList (xdr_Reader_Why_g N) xdr_Reader_Why_o xdr_Reader_Why_c x := by kernel_rfl
theorem xdr_Reader_Why_y : Try.f48.body = some xdr_Reader_Why_c := by kernel_rfl
theorem xdr_Reader_Why_n : (Try.f48.name == "runtime.NumGoroutine") = false := by kernel_rfl
theorem xdr_Reader_Why_ok (N : Nat) : FnDoes Try.prog 48 (xdr_Reader_Why_g N) := fn_ok tabOK (xdr_Reader_Why_t N) mixedOK (J := xdr_Reader_Why_J N) (body := xdr_Reader_Why_c) Try.func48 xdr_Reader_Why_y xdr_Reader_Why_n Try.ntmps48 (jok_from xdr_Reader_Why_i trivial) rfl rfl (le_of_ble rfl) (xdr_Reader_Why_e N)
noncomputable def xdr_Reader_Text_c : Code := codeOf Try.f67.body
noncomputable def xdr_Reader_Text_J (N : Nat) : Nat → Hint := fun cx => hintOf cx []
noncomputable def xdr_Reader_Text_C (N : Nat) : Nat → List GS := fun k => tabOf k [(80, [xdr_Reader_Opaque_g N])]
def xdr_Reader_Text_o : List (Shp × List Nat) := [(⟨[(0, (.av (.one .str)))], [(.sh (.one (.const (.slw 4 1))), true), (.sh (.one (.int .i64)), true), (.sh (.one (.int .i64)), true), (.sh (.one (.int .i64)), false), (.sh (.arr (.int .u8) none), false)]⟩, [])]
noncomputable def xdr_Reader_Text_g (N : Nat) : GS := { ins := ⟨[(0, (.av (.one (.const (.ptr ⟨0, 0, 0, 0⟩))))), (1, (.av (.one (.int .i64))))], [(some (.one (.const (.slw 4 1))), true), (some (.one (.int .i64)), true), (some (.one (.int .i64)), true), (some (.one (.int .i64)), false), (some (.arr (.int .u8) none), false)]⟩, lend := [.keep, .keep], outs := xdr_Reader_Text_o.map fun s => ssOf s.1, its := [.int, .int, .int, .int, .lst (.int .u8)], ots := [[.str, .int, .int, .int, .lst (.int .u8)]], F := xdr_Reader_Text N }
noncomputable def xdr_Reader_Text_CA (N : Nat) (f0 : Int × Int × Int × Int × (List Int) → Option (Int × Int × Int × (List Int) × (List Int))) : Nat → List GS := fun k => tabOf k [(80, [{ xdr_Reader_Opaque_g N with F := f0 }])]
theorem xdr_Reader_Text_CE (N : Nat) : xdr_Reader_Text_CA N (xdr_Reader_Opaque N) = xdr_Reader_Text_C N := by kernel_rfl
theorem xdr_Reader_Text_t (N : Nat) : TabC Try.prog (xdr_Reader_Text_C N) := tab_ok ⟨⟨xdr_Reader_Opaque_ok N, trivial⟩, trivial⟩
theorem xdr_Reader_Text_i : loopsOf xdr_Reader_Text_c = [] := by kernel_rfl
noncomputable def xdr_Reader_Text_a (N : Nat) (f0 : Int × Int × Int × Int × (List Int) → Option (Int × Int × Int × (List Int) × (List Int))) (x : Int × Int × Int × Int × (List Int)) : Option ((List UInt8) × Int × Int × Int × (List Int)) :=
  (Option.bind (f0 (x.1, x.2.1, x.2.2.1, x.2.2.2.1, x.2.2.2.2)) fun r2 =>
  (some ((List.map (fun (n : Int) => UInt8.ofNat n.toNat) r2.2.2.2.2), r2.1, r2.2.1, r2.2.2.1, r2.2.2.2.1)))
theorem xdr_Reader_Text_f (N : Nat) (f0 : Int × Int × Int × Int × (List Int) → Option (Int × Int × Int × (List Int) × (List Int))) (x) : xdr_Reader_Text_a N f0 x = fnStep Γ (xdr_Reader_Text_CA N f0) (xdr_Reader_Text_J N) 9 Try.f67.results.toList (xdr_Reader_Text_g N) xdr_Reader_Text_o xdr_Reader_Text_c x := by kernel_rfl
theorem xdr_Reader_Text_e (N : Nat) (x) : (xdr_Reader_Text_g N).F x = fnStep Γ (xdr_Reader_Text_C N) (xdr_Reader_Text_J N) 9 Try.f67.results.toList (xdr_Reader_Text_g N) xdr_Reader_Text_o xdr_Reader_Text_c x := by
  rw [← xdr_Reader_Text_CE N]
  exact Eq.trans (by kernel_rfl) (xdr_Reader_Text_f N (xdr_Reader_Opaque N) x)
theorem xdr_Reader_Text_y : Try.f67.body = some xdr_Reader_Text_c := by kernel_rfl
theorem xdr_Reader_Text_n : (Try.f67.name == "runtime.NumGoroutine") = false := by kernel_rfl
theorem xdr_Reader_Text_ok (N : Nat) : FnDoes Try.prog 67 (xdr_Reader_Text_g N) := fn_ok tabOK (xdr_Reader_Text_t N) mixedOK (J := xdr_Reader_Text_J N) (body := xdr_Reader_Text_c) Try.func67 xdr_Reader_Text_y xdr_Reader_Text_n Try.ntmps67 (jok_from xdr_Reader_Text_i trivial) rfl rfl (le_of_ble rfl) (xdr_Reader_Text_e N)
end Go.Rf.W
