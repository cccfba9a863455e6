/-
  The printed functions are what the program does.
-/
import Derived.Test.YtmkpcnmjhmdndaaGfF0
import Derived.Test.YtmkpcnmjhmdndaaGfT
import Derived.Test.YtmkpcnmjhmdndaaRfC
set_option linter.unusedVariables false
set_option maxRecDepth 100000
namespace Go.Rf.W
open Go Go.Rf Go.Proofs
noncomputable def gf_Mul_c : Code := codeOf Try.f12.body
noncomputable def gf_Mul_c0 : Code := codeOf (getLoop 0 gf_Mul_c)
def gf_Mul_d0 : LD := { ins := ⟨[(1, (.av (.one (.int .u8)))), (5, (.av (.one (.int .i64)))), (6, (.av (.one (.int .i64))))], []⟩, mov := [], wr := [], outs := [(.exit 0, ⟨[(5, (.av (.one (.int .i64))))], []⟩)], its := [.int, .int, .int], ots := [[.int]] }
noncomputable def gf_Mul_J (N : Nat) : Nat → Hint := fun cx => hintOf cx [(0, { reg := fun k => assoc0 k [], cnd := fun k => assoc0 k [(15, ⟨[], [], [(.normal, ⟨[(5, (.av (.one (.int .i64))))], []⟩)], [[.int]]⟩), (22, ⟨[], [], [(.normal, ⟨[(6, (.av (.one (.int .i64))))], []⟩)], [[.int]]⟩)], loop := fun k => assoc0 k [(0, ⟨gf_Mul_d0, loopF (gf_Mul_b0 N) N⟩)], nil := fun k => assoc0 k [], unr := fun k => assocN k [], blk := fun k => assoc0 k [] })]
noncomputable def gf_Mul_C (N : Nat) : Nat → List GS := fun k => tabOf k []
def gf_Mul_o : Shp := ⟨[(0, (.av (.one (.int .u8))))], []⟩
noncomputable def gf_Mul_g (N : Nat) : GS := { ins := ⟨[(0, (.av (.one (.int .u8)))), (1, (.av (.one (.int .u8))))], []⟩, lend := [.keep, .keep], outs := ssOf gf_Mul_o, its := [.int, .int], ots := [.int], F := gf_Mul N }
theorem gf_Mul_t (N : Nat) : TabC Try.prog (gf_Mul_C N) := tab_ok trivial
theorem gf_Mul_i0 : loopsOf gf_Mul_c0 = [] := by kernel_rfl
theorem gf_Mul_e0 (N : Nat) (next) (x) : gf_Mul_b0 N next x = loopStep Γ (gf_Mul_C N) (gf_Mul_J N) 0 27 gf_Mul_d0 gf_Mul_c0 next x := by kernel_rfl
theorem gf_Mul_k0 (N : Nat) : LoopOK Try.prog 27 gf_Mul_c0 ⟨gf_Mul_d0, loopF (gf_Mul_b0 N) N⟩ := loop_ok tabOK (gf_Mul_t N) mixedOK (J := gf_Mul_J N) (cx := 0) (body := gf_Mul_c0) (nt := 27) (l := gf_Mul_d0) (b := gf_Mul_b0 N) (jok_from gf_Mul_i0 ⟨trivial, trivial⟩) (gf_Mul_e0 N) N
theorem gf_Mul_i : loopsOf gf_Mul_c = [(0, gf_Mul_c0)] := by kernel_rfl
theorem gf_Mul_e (N : Nat) (x) : (gf_Mul_g N).F x = fnStep Γ (gf_Mul_C N) (gf_Mul_J N) 27 Try.f12.results.toList (gf_Mul_g N) gf_Mul_o gf_Mul_c x := by kernel_rfl
theorem gf_Mul_y : Try.f12.body = some gf_Mul_c := by kernel_rfl
theorem gf_Mul_n : (Try.f12.name == "runtime.NumGoroutine") = false := by kernel_rfl
theorem gf_Mul_ok (N : Nat) : FnDoes Try.prog 12 (gf_Mul_g N) := fn_ok tabOK (gf_Mul_t N) mixedOK (J := gf_Mul_J N) (body := gf_Mul_c) Try.func12 gf_Mul_y gf_Mul_n Try.ntmps12 (jok_from gf_Mul_i ⟨⟨.inr ⟨_, rfl, gf_Mul_k0 N⟩, trivial⟩, trivial⟩) rfl (le_of_ble rfl) (le_of_ble rfl) (gf_Mul_e N)
noncomputable def gf_Add_c : Code := codeOf Try.f13.body
noncomputable def gf_Add_J (N : Nat) : Nat → Hint := fun cx => hintOf cx []
noncomputable def gf_Add_C (N : Nat) : Nat → List GS := fun k => tabOf k []
def gf_Add_o : Shp := ⟨[(0, (.av (.one (.int .u8))))], []⟩
noncomputable def gf_Add_g (N : Nat) : GS := { ins := ⟨[(0, (.av (.one (.int .u8)))), (1, (.av (.one (.int .u8))))], []⟩, lend := [.keep, .keep], outs := ssOf gf_Add_o, its := [.int, .int], ots := [.int], F := gf_Add }
theorem gf_Add_t (N : Nat) : TabC Try.prog (gf_Add_C N) := tab_ok trivial
theorem gf_Add_i : loopsOf gf_Add_c = [] := by kernel_rfl
theorem gf_Add_e (N : Nat) (x) : (gf_Add_g N).F x = fnStep Γ (gf_Add_C N) (gf_Add_J N) 8 Try.f13.results.toList (gf_Add_g N) gf_Add_o gf_Add_c x := by kernel_rfl
theorem gf_Add_y : Try.f13.body = some gf_Add_c := by kernel_rfl
theorem gf_Add_n : (Try.f13.name == "runtime.NumGoroutine") = false := by kernel_rfl
theorem gf_Add_ok (N : Nat) : FnDoes Try.prog 13 (gf_Add_g N) := fn_ok tabOK (gf_Add_t N) mixedOK (J := gf_Add_J N) (body := gf_Add_c) Try.func13 gf_Add_y gf_Add_n Try.ntmps13 (jok_from gf_Add_i trivial) rfl (le_of_ble rfl) (le_of_ble rfl) (gf_Add_e N)
noncomputable def gf_Pow_c : Code := codeOf Try.f28.body
noncomputable def gf_Pow_c0 : Code := codeOf (getLoop 0 gf_Pow_c)
def gf_Pow_d0 : LD := { ins := ⟨[(0, (.av (.one (.int .u8)))), (1, (.av (.one (.int .i64)))), (5, (.av (.one (.int .u8))))], []⟩, mov := [], wr := [], outs := [(.exit 0, ⟨[(5, (.av (.one (.int .u8))))], []⟩)], its := [.int, .int, .int], ots := [[.int]] }
noncomputable def gf_Pow_J (N : Nat) : Nat → Hint := fun cx => hintOf cx [(0, { reg := fun k => assoc0 k [], cnd := fun k => assoc0 k [(13, ⟨[], [], [(.normal, ⟨[(1, (.av (.one (.int .i64))))], []⟩)], [[.int]]⟩), (22, ⟨[], [], [(.normal, ⟨[(5, (.av (.one (.int .u8))))], []⟩)], [[.int]]⟩)], loop := fun k => assoc0 k [(0, ⟨gf_Pow_d0, loopF (gf_Pow_b0 N) N⟩)], nil := fun k => assoc0 k [], unr := fun k => assocN k [], blk := fun k => assoc0 k [] })]
noncomputable def gf_Pow_C (N : Nat) : Nat → List GS := fun k => tabOf k [(12, [gf_Mul_g N])]
def gf_Pow_o : Shp := ⟨[(0, (.av (.one (.int .u8))))], []⟩
noncomputable def gf_Pow_g (N : Nat) : GS := { ins := ⟨[(0, (.av (.one (.int .u8)))), (1, (.av (.one (.int .i64))))], []⟩, lend := [.keep, .keep], outs := ssOf gf_Pow_o, its := [.int, .int], ots := [.int], F := gf_Pow N }
theorem gf_Pow_t (N : Nat) : TabC Try.prog (gf_Pow_C N) := tab_ok ⟨⟨gf_Mul_ok N, trivial⟩, trivial⟩
theorem gf_Pow_i0 : loopsOf gf_Pow_c0 = [] := by kernel_rfl
theorem gf_Pow_e0 (N : Nat) (next) (x) : gf_Pow_b0 N next x = loopStep Γ (gf_Pow_C N) (gf_Pow_J N) 0 30 gf_Pow_d0 gf_Pow_c0 next x := by kernel_rfl
theorem gf_Pow_k0 (N : Nat) : LoopOK Try.prog 30 gf_Pow_c0 ⟨gf_Pow_d0, loopF (gf_Pow_b0 N) N⟩ := loop_ok tabOK (gf_Pow_t N) mixedOK (J := gf_Pow_J N) (cx := 0) (body := gf_Pow_c0) (nt := 30) (l := gf_Pow_d0) (b := gf_Pow_b0 N) (jok_from gf_Pow_i0 ⟨trivial, trivial⟩) (gf_Pow_e0 N) N
theorem gf_Pow_i : loopsOf gf_Pow_c = [(0, gf_Pow_c0)] := by kernel_rfl
theorem gf_Pow_e (N : Nat) (x) : (gf_Pow_g N).F x = fnStep Γ (gf_Pow_C N) (gf_Pow_J N) 30 Try.f28.results.toList (gf_Pow_g N) gf_Pow_o gf_Pow_c x := by kernel_rfl
theorem gf_Pow_y : Try.f28.body = some gf_Pow_c := by kernel_rfl
theorem gf_Pow_n : (Try.f28.name == "runtime.NumGoroutine") = false := by kernel_rfl
theorem gf_Pow_ok (N : Nat) : FnDoes Try.prog 28 (gf_Pow_g N) := fn_ok tabOK (gf_Pow_t N) mixedOK (J := gf_Pow_J N) (body := gf_Pow_c) Try.func28 gf_Pow_y gf_Pow_n Try.ntmps28 (jok_from gf_Pow_i ⟨⟨.inr ⟨_, rfl, gf_Pow_k0 N⟩, trivial⟩, trivial⟩) rfl (le_of_ble rfl) (le_of_ble rfl) (gf_Pow_e N)
noncomputable def gf_Div_c : Code := codeOf Try.f22.body
noncomputable def gf_Div_J (N : Nat) : Nat → Hint := fun cx => hintOf cx []
noncomputable def gf_Div_C (N : Nat) : Nat → List GS := fun k => tabOf k [(28, [gf_Pow_g N]), (12, [gf_Mul_g N])]
def gf_Div_o : Shp := ⟨[(0, (.tup [(.one (.int .u8)), (.one (.int .i64))]))], []⟩
noncomputable def gf_Div_g (N : Nat) : GS := { ins := ⟨[(0, (.av (.one (.int .u8)))), (1, (.av (.one (.int .u8))))], []⟩, lend := [.keep, .keep], outs := ssOf gf_Div_o, its := [.int, .int], ots := [.int, .int], F := gf_Div N }
theorem gf_Div_t (N : Nat) : TabC Try.prog (gf_Div_C N) := tab_ok ⟨⟨gf_Pow_ok N, trivial⟩, ⟨gf_Mul_ok N, trivial⟩, trivial⟩
theorem gf_Div_i : loopsOf gf_Div_c = [] := by kernel_rfl
theorem gf_Div_e (N : Nat) (x) : (gf_Div_g N).F x = fnStep Γ (gf_Div_C N) (gf_Div_J N) 12 Try.f22.results.toList (gf_Div_g N) gf_Div_o gf_Div_c x := by kernel_rfl
theorem gf_Div_y : Try.f22.body = some gf_Div_c := by kernel_rfl
theorem gf_Div_n : (Try.f22.name == "runtime.NumGoroutine") = false := by kernel_rfl
theorem gf_Div_ok (N : Nat) : FnDoes Try.prog 22 (gf_Div_g N) := fn_ok tabOK (gf_Div_t N) mixedOK (J := gf_Div_J N) (body := gf_Div_c) Try.func22 gf_Div_y gf_Div_n Try.ntmps22 (jok_from gf_Div_i trivial) rfl (le_of_ble rfl) (le_of_ble rfl) (gf_Div_e N)
noncomputable def gf_Inv_c : Code := codeOf Try.f14.body
noncomputable def gf_Inv_J (N : Nat) : Nat → Hint := fun cx => hintOf cx []
noncomputable def gf_Inv_C (N : Nat) : Nat → List GS := fun k => tabOf k [(22, [gf_Div_g N])]
def gf_Inv_o : Shp := ⟨[(0, (.tup [(.one (.int .u8)), (.one (.int .i64))]))], []⟩
noncomputable def gf_Inv_g (N : Nat) : GS := { ins := ⟨[(0, (.av (.one (.int .u8))))], []⟩, lend := [.keep], outs := ssOf gf_Inv_o, its := [.int], ots := [.int, .int], F := gf_Inv N }
theorem gf_Inv_t (N : Nat) : TabC Try.prog (gf_Inv_C N) := tab_ok ⟨⟨gf_Div_ok N, trivial⟩, trivial⟩
theorem gf_Inv_i : loopsOf gf_Inv_c = [] := by kernel_rfl
theorem gf_Inv_e (N : Nat) (x) : (gf_Inv_g N).F x = fnStep Γ (gf_Inv_C N) (gf_Inv_J N) 8 Try.f14.results.toList (gf_Inv_g N) gf_Inv_o gf_Inv_c x := by kernel_rfl
theorem gf_Inv_y : Try.f14.body = some gf_Inv_c := by kernel_rfl
theorem gf_Inv_n : (Try.f14.name == "runtime.NumGoroutine") = false := by kernel_rfl
theorem gf_Inv_ok (N : Nat) : FnDoes Try.prog 14 (gf_Inv_g N) := fn_ok tabOK (gf_Inv_t N) mixedOK (J := gf_Inv_J N) (body := gf_Inv_c) Try.func14 gf_Inv_y gf_Inv_n Try.ntmps14 (jok_from gf_Inv_i trivial) rfl (le_of_ble rfl) (le_of_ble rfl) (gf_Inv_e N)
noncomputable def granarylaw02_num_c : Code := codeOf Try.f15.body
noncomputable def granarylaw02_num_J (N : Nat) : Nat → Hint := fun cx => hintOf cx []
noncomputable def granarylaw02_num_C (N : Nat) : Nat → List GS := fun k => tabOf k []
def granarylaw02_num_o : Shp := ⟨[(0, (.av (.one (.int .i64))))], []⟩
noncomputable def granarylaw02_num_g (N : Nat) : GS := { ins := ⟨[(0, (.av (.one (.int .i64))))], []⟩, lend := [.keep], outs := ssOf granarylaw02_num_o, its := [.int], ots := [.int], F := granarylaw02_num }
theorem granarylaw02_num_t (N : Nat) : TabC Try.prog (granarylaw02_num_C N) := tab_ok trivial
theorem granarylaw02_num_i : loopsOf granarylaw02_num_c = [] := by kernel_rfl
theorem granarylaw02_num_e (N : Nat) (x) : (granarylaw02_num_g N).F x = fnStep Γ (granarylaw02_num_C N) (granarylaw02_num_J N) 4 Try.f15.results.toList (granarylaw02_num_g N) granarylaw02_num_o granarylaw02_num_c x := by kernel_rfl
theorem granarylaw02_num_y : Try.f15.body = some granarylaw02_num_c := by kernel_rfl
theorem granarylaw02_num_n : (Try.f15.name == "runtime.NumGoroutine") = false := by kernel_rfl
theorem granarylaw02_num_ok (N : Nat) : FnDoes Try.prog 15 (granarylaw02_num_g N) := fn_ok tabOK (granarylaw02_num_t N) mixedOK (J := granarylaw02_num_J N) (body := granarylaw02_num_c) Try.func15 granarylaw02_num_y granarylaw02_num_n Try.ntmps15 (jok_from granarylaw02_num_i trivial) rfl (le_of_ble rfl) (le_of_ble rfl) (granarylaw02_num_e N)
noncomputable def gf_side_c : Code := codeOf Try.f57.body
noncomputable def gf_side_J (N : Nat) : Nat → Hint := fun cx => hintOf cx [(0, { reg := fun k => assoc0 k [(1, ⟨⟨[(2, (.av (.one .bool)))], []⟩, [], [], [.bool]⟩)], cnd := fun k => assoc0 k [], loop := fun k => assoc0 k [], nil := fun k => assoc0 k [], unr := fun k => assocN k [], blk := fun k => assoc0 k [] })]
noncomputable def gf_side_C (N : Nat) : Nat → List GS := fun k => tabOf k []
def gf_side_o : Shp := ⟨[(0, (.av (.one .bool)))], []⟩
noncomputable def gf_side_g (N : Nat) : GS := { ins := ⟨[(0, (.av (.one (.int .i64))))], []⟩, lend := [.keep], outs := ssOf gf_side_o, its := [.int], ots := [.bool], F := gf_side }
theorem gf_side_t (N : Nat) : TabC Try.prog (gf_side_C N) := tab_ok trivial
theorem gf_side_i : loopsOf gf_side_c = [] := by kernel_rfl
theorem gf_side_e (N : Nat) (x) : (gf_side_g N).F x = fnStep Γ (gf_side_C N) (gf_side_J N) 9 Try.f57.results.toList (gf_side_g N) gf_side_o gf_side_c x := by kernel_rfl
theorem gf_side_y : Try.f57.body = some gf_side_c := by kernel_rfl
theorem gf_side_n : (Try.f57.name == "runtime.NumGoroutine") = false := by kernel_rfl
theorem gf_side_ok (N : Nat) : FnDoes Try.prog 57 (gf_side_g N) := fn_ok tabOK (gf_side_t N) mixedOK (J := gf_side_J N) (body := gf_side_c) Try.func57 gf_side_y gf_side_n Try.ntmps57 (jok_from gf_side_i ⟨trivial, trivial⟩) rfl (le_of_ble rfl) (le_of_ble rfl) (gf_side_e N)
noncomputable def gf_Check_c : Code := codeOf Try.f50.body
noncomputable def gf_Check_J (N : Nat) : Nat → Hint := fun cx => hintOf cx [(0, { reg := fun k => assoc0 k [(1, ⟨⟨[(3, (.av (.one .bool)))], [(.keep, true), (.keep, true), (.keep, false)]⟩, [], [], [.bool]⟩)], cnd := fun k => assoc0 k [], loop := fun k => assoc0 k [], nil := fun k => assoc0 k [], unr := fun k => assocN k [], blk := fun k => assoc0 k [] })]
noncomputable def gf_Check_C (N : Nat) : Nat → List GS := fun k => tabOf k [(57, [gf_side_g N])]
def gf_Check_o : Shp := ⟨[(0, (.av (.one (.int .i64))))], []⟩
noncomputable def gf_Check_g (N : Nat) : GS := { ins := ⟨[(0, (.av (.agg [(.one (.int .i64)), (.one (.int .i64)), (.one (.rsl (.int .u8)))])))], []⟩, lend := [.keep], outs := ssOf gf_Check_o, its := [.int, .int, .lst (.int .u8)], ots := [.int], F := gf_Check }
theorem gf_Check_t (N : Nat) : TabC Try.prog (gf_Check_C N) := tab_ok ⟨⟨gf_side_ok N, trivial⟩, trivial⟩
theorem gf_Check_i : loopsOf gf_Check_c = [] := by kernel_rfl
theorem gf_Check_e (N : Nat) (x) : (gf_Check_g N).F x = fnStep Γ (gf_Check_C N) (gf_Check_J N) 24 Try.f50.results.toList (gf_Check_g N) gf_Check_o gf_Check_c x := by kernel_rfl
theorem gf_Check_y : Try.f50.body = some gf_Check_c := by kernel_rfl
theorem gf_Check_n : (Try.f50.name == "runtime.NumGoroutine") = false := by kernel_rfl
theorem gf_Check_ok (N : Nat) : FnDoes Try.prog 50 (gf_Check_g N) := fn_ok tabOK (gf_Check_t N) mixedOK (J := gf_Check_J N) (body := gf_Check_c) Try.func50 gf_Check_y gf_Check_n Try.ntmps50 (jok_from gf_Check_i ⟨trivial, trivial⟩) rfl (le_of_ble rfl) (le_of_ble rfl) (gf_Check_e N)
noncomputable def slices_Clone_byte_byte_c : Code := codeOf Try.f72.body
noncomputable def slices_Clone_byte_byte_J (N : Nat) : Nat → Hint := fun cx => hintOf cx []
noncomputable def slices_Clone_byte_byte_C (N : Nat) : Nat → List GS := fun k => tabOf k []
def slices_Clone_byte_byte_o : Shp := ⟨[(0, (.av (.one (.const (.slw 0 1)))))], [(.sh (.arr (.int .u8) none), false)]⟩
noncomputable def slices_Clone_byte_byte_g (N : Nat) : GS := { ins := ⟨[(0, (.av (.one (.rsl (.int .u8)))))], []⟩, lend := [.keep], outs := ssOf slices_Clone_byte_byte_o, its := [.lst (.int .u8)], ots := [.lst (.int .u8)], F := slices_Clone_byte_byte }
theorem slices_Clone_byte_byte_t (N : Nat) : TabC Try.prog (slices_Clone_byte_byte_C N) := tab_ok trivial
theorem slices_Clone_byte_byte_i : loopsOf slices_Clone_byte_byte_c = [] := by kernel_rfl
theorem slices_Clone_byte_byte_e (N : Nat) (x) : (slices_Clone_byte_byte_g N).F x = fnStep Γ (slices_Clone_byte_byte_C N) (slices_Clone_byte_byte_J N) 8 Try.f72.results.toList (slices_Clone_byte_byte_g N) slices_Clone_byte_byte_o slices_Clone_byte_byte_c x := by kernel_rfl
theorem slices_Clone_byte_byte_y : Try.f72.body = some slices_Clone_byte_byte_c := by kernel_rfl
theorem slices_Clone_byte_byte_n : (Try.f72.name == "runtime.NumGoroutine") = false := by kernel_rfl
theorem slices_Clone_byte_byte_ok (N : Nat) : FnDoes Try.prog 72 (slices_Clone_byte_byte_g N) := fn_ok tabOK (slices_Clone_byte_byte_t N) mixedOK (J := slices_Clone_byte_byte_J N) (body := slices_Clone_byte_byte_c) Try.func72 slices_Clone_byte_byte_y slices_Clone_byte_byte_n Try.ntmps72 (jok_from slices_Clone_byte_byte_i trivial) rfl (le_of_ble rfl) (le_of_ble rfl) (slices_Clone_byte_byte_e N)
noncomputable def gf_Make_c : Code := codeOf Try.f56.body
noncomputable def gf_Make_J (N : Nat) : Nat → Hint := fun cx => hintOf cx []
noncomputable def gf_Make_C (N : Nat) : Nat → List GS := fun k => tabOf k [(50, [gf_Check_g N]), (72, [slices_Clone_byte_byte_g N])]
def gf_Make_o : Shp := ⟨[(0, (.tup [(.agg [(.one (.int .i64)), (.one (.int .i64)), (.one (.const (.slw 0 1)))]), (.one (.int .i64))]))], [(.sh (.arr (.int .u8) none), false)]⟩
noncomputable def gf_Make_g (N : Nat) : GS := { ins := ⟨[(0, (.av (.one (.int .i64)))), (1, (.av (.one (.int .i64)))), (2, (.av (.one (.rsl (.int .u8)))))], []⟩, lend := [.keep, .keep, .lend (.int .u8)], outs := ssOf gf_Make_o, its := [.int, .int, .lst (.int .u8)], ots := [.int, .int, .int, .lst (.int .u8)], F := gf_Make }
theorem gf_Make_t (N : Nat) : TabC Try.prog (gf_Make_C N) := tab_ok ⟨⟨gf_Check_ok N, trivial⟩, ⟨slices_Clone_byte_byte_ok N, trivial⟩, trivial⟩
theorem gf_Make_i : loopsOf gf_Make_c = [] := by kernel_rfl
theorem gf_Make_e (N : Nat) (x) : (gf_Make_g N).F x = fnStep Γ (gf_Make_C N) (gf_Make_J N) 24 Try.f56.results.toList (gf_Make_g N) gf_Make_o gf_Make_c x := by kernel_rfl
theorem gf_Make_y : Try.f56.body = some gf_Make_c := by kernel_rfl
theorem gf_Make_n : (Try.f56.name == "runtime.NumGoroutine") = false := by kernel_rfl
theorem gf_Make_ok (N : Nat) : FnDoes Try.prog 56 (gf_Make_g N) := fn_ok tabOK (gf_Make_t N) mixedOK (J := gf_Make_J N) (body := gf_Make_c) Try.func56 gf_Make_y gf_Make_n Try.ntmps56 (jok_from gf_Make_i trivial) rfl (le_of_ble rfl) (le_of_ble rfl) (gf_Make_e N)
noncomputable def gf_zeros_c : Code := codeOf Try.f58.body
noncomputable def gf_zeros_J (N : Nat) : Nat → Hint := fun cx => hintOf cx []
noncomputable def gf_zeros_C (N : Nat) : Nat → List GS := fun k => tabOf k []
def gf_zeros_o : Shp := ⟨[(0, (.av (.agg [(.one (.int .i64)), (.one (.int .i64)), (.one (.const (.slw 0 1)))])))], [(.sh (.arr (.int .u8) none), false)]⟩
noncomputable def gf_zeros_g (N : Nat) : GS := { ins := ⟨[(0, (.av (.one (.int .i64)))), (1, (.av (.one (.int .i64))))], []⟩, lend := [.keep, .keep], outs := ssOf gf_zeros_o, its := [.int, .int], ots := [.int, .int, .lst (.int .u8)], F := gf_zeros }
theorem gf_zeros_t (N : Nat) : TabC Try.prog (gf_zeros_C N) := tab_ok trivial
theorem gf_zeros_i : loopsOf gf_zeros_c = [] := by kernel_rfl
theorem gf_zeros_e (N : Nat) (x) : (gf_zeros_g N).F x = fnStep Γ (gf_zeros_C N) (gf_zeros_J N) 12 Try.f58.results.toList (gf_zeros_g N) gf_zeros_o gf_zeros_c x := by kernel_rfl
theorem gf_zeros_y : Try.f58.body = some gf_zeros_c := by kernel_rfl
theorem gf_zeros_n : (Try.f58.name == "runtime.NumGoroutine") = false := by kernel_rfl
theorem gf_zeros_ok (N : Nat) : FnDoes Try.prog 58 (gf_zeros_g N) := fn_ok tabOK (gf_zeros_t N) mixedOK (J := gf_zeros_J N) (body := gf_zeros_c) Try.func58 gf_zeros_y gf_zeros_n Try.ntmps58 (jok_from gf_zeros_i trivial) rfl (le_of_ble rfl) (le_of_ble rfl) (gf_zeros_e N)
noncomputable def gf_row_c : Code := codeOf Try.f59.body
noncomputable def gf_row_J (N : Nat) : Nat → Hint := fun cx => hintOf cx []
noncomputable def gf_row_C (N : Nat) : Nat → List GS := fun k => tabOf k []
def gf_row_o : Shp := ⟨[(0, (.av (.one (.sl 0 1))))], [(.sh (.arr (.int .u8) none), false)]⟩
noncomputable def gf_row_g (N : Nat) : GS := { ins := ⟨[(0, (.av (.agg [(.one (.int .i64)), (.one (.int .i64)), (.one (.const (.slw 0 1)))]))), (1, (.av (.one (.int .i64))))], [(some (.arr (.int .u8) none), false)]⟩, lend := [.keep, .keep], outs := ssOf gf_row_o, its := [.int, .int, .int, .lst (.int .u8)], ots := [.nat, .nat, .lst (.int .u8)], F := gf_row }
theorem gf_row_t (N : Nat) : TabC Try.prog (gf_row_C N) := tab_ok trivial
theorem gf_row_i : loopsOf gf_row_c = [] := by kernel_rfl
theorem gf_row_e (N : Nat) (x) : (gf_row_g N).F x = fnStep Γ (gf_row_C N) (gf_row_J N) 22 Try.f59.results.toList (gf_row_g N) gf_row_o gf_row_c x := by kernel_rfl
theorem gf_row_y : Try.f59.body = some gf_row_c := by kernel_rfl
theorem gf_row_n : (Try.f59.name == "runtime.NumGoroutine") = false := by kernel_rfl
theorem gf_row_ok (N : Nat) : FnDoes Try.prog 59 (gf_row_g N) := fn_ok tabOK (gf_row_t N) mixedOK (J := gf_row_J N) (body := gf_row_c) Try.func59 gf_row_y gf_row_n Try.ntmps59 (jok_from gf_row_i trivial) rfl (le_of_ble rfl) (le_of_ble rfl) (gf_row_e N)
noncomputable def gf_Identity_c : Code := codeOf Try.f17.body
noncomputable def gf_Identity_c0 : Code := codeOf (getLoop 0 gf_Identity_c)
def gf_Identity_d0 : LD := { ins := ⟨[(2, (.av (.one (.const (.ptr ⟨0, 0, 0, 0⟩))))), (4, (.av (.one (.const (.ptr ⟨4, 0, 0, 0⟩))))), (13, (.av (.one (.int .i64)))), (14, (.av (.one (.int .i64))))], [(.keep, false), (.keep, false), (.keep, false), (.sh (.arr (.int .u8) none), false), (.sh (.one (.int .i64)), true), (.sh (.one (.int .i64)), true), (.sh (.one (.const (.slw 3 1))), false)]⟩, mov := [], wr := [3, 4, 5, 6], outs := [(.exit 0, ⟨[], [(.keep, false), (.keep, false), (.keep, false), (.sh (.arr (.int .u8) none), false), (.sh (.one (.int .i64)), true), (.sh (.one (.int .i64)), true), (.sh (.one (.const (.slw 3 1))), false)]⟩)], its := [.int, .int, .lst (.int .u8), .int, .int], ots := [[.lst (.int .u8), .int, .int]] }
noncomputable def gf_Identity_J (N : Nat) : Nat → Hint := fun cx => hintOf cx [(0, { reg := fun k => assoc0 k [], cnd := fun k => assoc0 k [], loop := fun k => assoc0 k [(0, ⟨gf_Identity_d0, loopF (gf_Identity_b0 N) N⟩)], nil := fun k => assoc0 k [], unr := fun k => assocN k [], blk := fun k => assoc0 k [] })]
noncomputable def gf_Identity_C (N : Nat) : Nat → List GS := fun k => tabOf k [(57, [gf_side_g N]), (58, [gf_zeros_g N]), (59, [gf_row_g N])]
def gf_Identity_o : Shp := ⟨[(0, (.tup [(.agg [(.one (.int .i64)), (.one (.int .i64)), (.one (.const (.slw 0 1)))]), (.one (.int .i64))]))], [(.sh (.arr (.int .u8) none), false)]⟩
noncomputable def gf_Identity_g (N : Nat) : GS := { ins := ⟨[(0, (.av (.one (.int .i64))))], []⟩, lend := [.keep], outs := ssOf gf_Identity_o, its := [.int], ots := [.int, .int, .int, .lst (.int .u8)], F := gf_Identity N }
theorem gf_Identity_t (N : Nat) : TabC Try.prog (gf_Identity_C N) := tab_ok ⟨⟨gf_side_ok N, trivial⟩, ⟨gf_zeros_ok N, trivial⟩, ⟨gf_row_ok N, trivial⟩, trivial⟩
theorem gf_Identity_i0 : loopsOf gf_Identity_c0 = [] := by kernel_rfl
theorem gf_Identity_e0 (N : Nat) (next) (x) : gf_Identity_b0 N next x = loopStep Γ (gf_Identity_C N) (gf_Identity_J N) 0 24 gf_Identity_d0 gf_Identity_c0 next x := by kernel_rfl
theorem gf_Identity_k0 (N : Nat) : LoopOK Try.prog 24 gf_Identity_c0 ⟨gf_Identity_d0, loopF (gf_Identity_b0 N) N⟩ := loop_ok tabOK (gf_Identity_t N) mixedOK (J := gf_Identity_J N) (cx := 0) (body := gf_Identity_c0) (nt := 24) (l := gf_Identity_d0) (b := gf_Identity_b0 N) (jok_from gf_Identity_i0 ⟨trivial, trivial⟩) (gf_Identity_e0 N) N
theorem gf_Identity_i : loopsOf gf_Identity_c = [(0, gf_Identity_c0)] := by kernel_rfl
theorem gf_Identity_e (N : Nat) (x) : (gf_Identity_g N).F x = fnStep Γ (gf_Identity_C N) (gf_Identity_J N) 24 Try.f17.results.toList (gf_Identity_g N) gf_Identity_o gf_Identity_c x := by kernel_rfl
theorem gf_Identity_y : Try.f17.body = some gf_Identity_c := by kernel_rfl
theorem gf_Identity_n : (Try.f17.name == "runtime.NumGoroutine") = false := by kernel_rfl
theorem gf_Identity_ok (N : Nat) : FnDoes Try.prog 17 (gf_Identity_g N) := fn_ok tabOK (gf_Identity_t N) mixedOK (J := gf_Identity_J N) (body := gf_Identity_c) Try.func17 gf_Identity_y gf_Identity_n Try.ntmps17 (jok_from gf_Identity_i ⟨⟨.inr ⟨_, rfl, gf_Identity_k0 N⟩, trivial⟩, trivial⟩) rfl (le_of_ble rfl) (le_of_ble rfl) (gf_Identity_e N)
noncomputable def gf_own_c : Code := codeOf Try.f64.body
noncomputable def gf_own_J (N : Nat) : Nat → Hint := fun cx => hintOf cx []
noncomputable def gf_own_C (N : Nat) : Nat → List GS := fun k => tabOf k [(72, [slices_Clone_byte_byte_g N])]
def gf_own_o : Shp := ⟨[(0, (.av (.agg [(.one (.int .i64)), (.one (.int .i64)), (.one (.const (.slw 0 1)))])))], [(.sh (.arr (.int .u8) none), false)]⟩
noncomputable def gf_own_g (N : Nat) : GS := { ins := ⟨[(0, (.av (.agg [(.one (.int .i64)), (.one (.int .i64)), (.one (.rsl (.int .u8)))])))], []⟩, lend := [.keep], outs := ssOf gf_own_o, its := [.int, .int, .lst (.int .u8)], ots := [.int, .int, .lst (.int .u8)], F := gf_own }
theorem gf_own_t (N : Nat) : TabC Try.prog (gf_own_C N) := tab_ok ⟨⟨slices_Clone_byte_byte_ok N, trivial⟩, trivial⟩
theorem gf_own_i : loopsOf gf_own_c = [] := by kernel_rfl
theorem gf_own_e (N : Nat) (x) : (gf_own_g N).F x = fnStep Γ (gf_own_C N) (gf_own_J N) 8 Try.f64.results.toList (gf_own_g N) gf_own_o gf_own_c x := by kernel_rfl
theorem gf_own_y : Try.f64.body = some gf_own_c := by kernel_rfl
theorem gf_own_n : (Try.f64.name == "runtime.NumGoroutine") = false := by kernel_rfl
theorem gf_own_ok (N : Nat) : FnDoes Try.prog 64 (gf_own_g N) := fn_ok tabOK (gf_own_t N) mixedOK (J := gf_own_J N) (body := gf_own_c) Try.func64 gf_own_y gf_own_n Try.ntmps64 (jok_from gf_own_i trivial) rfl (le_of_ble rfl) (le_of_ble rfl) (gf_own_e N)
noncomputable def gf_Scale_c : Code := codeOf Try.f45.body
noncomputable def gf_Scale_c0 : Code := codeOf (getLoop 0 gf_Scale_c)
def gf_Scale_d0 : LD := { ins := ⟨[(0, (.av (.one (.int .u8)))), (5, (.av (.one (.const (.slw 0 1))))), (11, (.av (.one (.rsl (.int .u8))))), (12, (.av (.one (.int .i64)))), (13, (.av (.one (.int .i64))))], [(.sh (.arr (.int .u8) none), false)]⟩, mov := [], wr := [0], outs := [(.exit 0, ⟨[], [(.sh (.arr (.int .u8) none), false)]⟩)], its := [.int, .lst (.int .u8), .int, .int, .lst (.int .u8)], ots := [[.lst (.int .u8)]] }
noncomputable def gf_Scale_J (N : Nat) : Nat → Hint := fun cx => hintOf cx [(0, { reg := fun k => assoc0 k [], cnd := fun k => assoc0 k [], loop := fun k => assoc0 k [(0, ⟨gf_Scale_d0, loopF (gf_Scale_b0 N) N⟩)], nil := fun k => assoc0 k [], unr := fun k => assocN k [], blk := fun k => assoc0 k [] })]
noncomputable def gf_Scale_C (N : Nat) : Nat → List GS := fun k => tabOf k [(12, [gf_Mul_g N])]
def gf_Scale_o : Shp := ⟨[(0, (.av (.one (.const (.slw 0 1)))))], [(.sh (.arr (.int .u8) none), false)]⟩
noncomputable def gf_Scale_g (N : Nat) : GS := { ins := ⟨[(0, (.av (.one (.int .u8)))), (1, (.av (.one (.rsl (.int .u8)))))], []⟩, lend := [.keep, .lend (.int .u8)], outs := ssOf gf_Scale_o, its := [.int, .lst (.int .u8)], ots := [.lst (.int .u8)], F := gf_Scale N }
theorem gf_Scale_t (N : Nat) : TabC Try.prog (gf_Scale_C N) := tab_ok ⟨⟨gf_Mul_ok N, trivial⟩, trivial⟩
theorem gf_Scale_i0 : loopsOf gf_Scale_c0 = [] := by kernel_rfl
theorem gf_Scale_e0 (N : Nat) (next) (x) : gf_Scale_b0 N next x = loopStep Γ (gf_Scale_C N) (gf_Scale_J N) 0 26 gf_Scale_d0 gf_Scale_c0 next x := by kernel_rfl
theorem gf_Scale_k0 (N : Nat) : LoopOK Try.prog 26 gf_Scale_c0 ⟨gf_Scale_d0, loopF (gf_Scale_b0 N) N⟩ := loop_ok tabOK (gf_Scale_t N) mixedOK (J := gf_Scale_J N) (cx := 0) (body := gf_Scale_c0) (nt := 26) (l := gf_Scale_d0) (b := gf_Scale_b0 N) (jok_from gf_Scale_i0 ⟨trivial, trivial⟩) (gf_Scale_e0 N) N
theorem gf_Scale_i : loopsOf gf_Scale_c = [(0, gf_Scale_c0)] := by kernel_rfl
theorem gf_Scale_e (N : Nat) (x) : (gf_Scale_g N).F x = fnStep Γ (gf_Scale_C N) (gf_Scale_J N) 26 Try.f45.results.toList (gf_Scale_g N) gf_Scale_o gf_Scale_c x := by kernel_rfl
theorem gf_Scale_y : Try.f45.body = some gf_Scale_c := by kernel_rfl
theorem gf_Scale_n : (Try.f45.name == "runtime.NumGoroutine") = false := by kernel_rfl
theorem gf_Scale_ok (N : Nat) : FnDoes Try.prog 45 (gf_Scale_g N) := fn_ok tabOK (gf_Scale_t N) mixedOK (J := gf_Scale_J N) (body := gf_Scale_c) Try.func45 gf_Scale_y gf_Scale_n Try.ntmps45 (jok_from gf_Scale_i ⟨⟨.inr ⟨_, rfl, gf_Scale_k0 N⟩, trivial⟩, trivial⟩) rfl (le_of_ble rfl) (le_of_ble rfl) (gf_Scale_e N)
noncomputable def gf_add_c : Code := codeOf Try.f66.body
noncomputable def gf_add_c0 : Code := codeOf (getLoop 0 gf_add_c)
def gf_add_d0 : LD := { ins := ⟨[(0, (.av (.one (.sl 0 1)))), (1, (.av (.one (.int .u8)))), (10, (.av (.one (.sl 0 1)))), (11, (.av (.one (.int .i64)))), (12, (.av (.one (.int .i64))))], [(.sh (.arr (.int .u8) none), false)]⟩, mov := [], wr := [0], outs := [(.exit 0, ⟨[], [(.sh (.arr (.int .u8) none), false)]⟩)], its := [.nat, .nat, .int, .nat, .nat, .int, .int, .lst (.int .u8)], ots := [[.lst (.int .u8)]] }
noncomputable def gf_add_J (N : Nat) : Nat → Hint := fun cx => hintOf cx [(0, { reg := fun k => assoc0 k [], cnd := fun k => assoc0 k [], loop := fun k => assoc0 k [(0, ⟨gf_add_d0, loopF (gf_add_b0 N) N⟩)], nil := fun k => assoc0 k [], unr := fun k => assocN k [], blk := fun k => assoc0 k [] })]
noncomputable def gf_add_C (N : Nat) : Nat → List GS := fun k => tabOf k [(12, [gf_Mul_g N])]
def gf_add_o : Shp := ⟨[(0, (.tup []))], [(.sh (.arr (.int .u8) none), false)]⟩
noncomputable def gf_add_g (N : Nat) : GS := { ins := ⟨[(0, (.av (.one (.sl 0 1)))), (1, (.av (.one (.int .u8)))), (2, (.av (.one (.sl 0 1))))], [(some (.arr (.int .u8) none), false)]⟩, lend := [.keep, .keep, .keep], outs := ssOf gf_add_o, its := [.nat, .nat, .int, .nat, .nat, .lst (.int .u8)], ots := [.lst (.int .u8)], F := gf_add N }
theorem gf_add_t (N : Nat) : TabC Try.prog (gf_add_C N) := tab_ok ⟨⟨gf_Mul_ok N, trivial⟩, trivial⟩
theorem gf_add_i0 : loopsOf gf_add_c0 = [] := by kernel_rfl
theorem gf_add_e0 (N : Nat) (next) (x) : gf_add_b0 N next x = loopStep Γ (gf_add_C N) (gf_add_J N) 0 27 gf_add_d0 gf_add_c0 next x := by kernel_rfl
theorem gf_add_k0 (N : Nat) : LoopOK Try.prog 27 gf_add_c0 ⟨gf_add_d0, loopF (gf_add_b0 N) N⟩ := loop_ok tabOK (gf_add_t N) mixedOK (J := gf_add_J N) (cx := 0) (body := gf_add_c0) (nt := 27) (l := gf_add_d0) (b := gf_add_b0 N) (jok_from gf_add_i0 ⟨trivial, trivial⟩) (gf_add_e0 N) N
theorem gf_add_i : loopsOf gf_add_c = [(0, gf_add_c0)] := by kernel_rfl
theorem gf_add_e (N : Nat) (x) : (gf_add_g N).F x = fnStep Γ (gf_add_C N) (gf_add_J N) 27 Try.f66.results.toList (gf_add_g N) gf_add_o gf_add_c x := by kernel_rfl
theorem gf_add_y : Try.f66.body = some gf_add_c := by kernel_rfl
theorem gf_add_n : (Try.f66.name == "runtime.NumGoroutine") = false := by kernel_rfl
theorem gf_add_ok (N : Nat) : FnDoes Try.prog 66 (gf_add_g N) := fn_ok tabOK (gf_add_t N) mixedOK (J := gf_add_J N) (body := gf_add_c) Try.func66 gf_add_y gf_add_n Try.ntmps66 (jok_from gf_add_i ⟨⟨.inr ⟨_, rfl, gf_add_k0 N⟩, trivial⟩, trivial⟩) rfl (le_of_ble rfl) (le_of_ble rfl) (gf_add_e N)
noncomputable def gf_clear2_c : Code := codeOf Try.f63.body
noncomputable def gf_clear2_c0 : Code := codeOf (getLoop 0 gf_clear2_c)
noncomputable def gf_clear2_c2 : Code := codeOf (getLoop 2 gf_clear2_c)
noncomputable def gf_clear2_c6 : Code := codeOf (getLoop 6 gf_clear2_c)
noncomputable def gf_clear2_c8 : Code := codeOf (getLoop 8 gf_clear2_c)
def gf_clear2_d2 : LD := { ins := ⟨[(2, (.av (.one (.const (.ptr ⟨2, 0, 0, 0⟩))))), (3, (.av (.one (.const (.ptr ⟨5, 0, 0, 0⟩))))), (5, (.av (.one (.int .i64)))), (6, (.av (.one (.int .i64)))), (7, (.av (.one (.int .i64)))), (18, (.av (.one (.int .i64)))), (19, (.av (.one (.int .i64))))], [(.sh (.arr (.int .u8) none), false), (.keep, false), (.sh (.one (.int .i64)), true), (.sh (.one (.int .i64)), true), (.sh (.one (.const (.slw 0 1))), false), (.keep, false), (.keep, false), (.keep, false)]⟩, mov := [], wr := [0, 2, 3, 4], outs := [(.exit 2, ⟨[(7, (.av (.one (.int .i64))))], [(.sh (.arr (.int .u8) none), false), (.keep, false), (.sh (.one (.int .i64)), true), (.sh (.one (.int .i64)), true), (.sh (.one (.const (.slw 0 1))), false), (.keep, false), (.keep, false), (.keep, false)]⟩)], its := [.int, .int, .int, .int, .int, .lst (.int .u8), .int, .int], ots := [[.int, .lst (.int .u8), .int, .int]] }
def gf_clear2_d6_1 : LD := { ins := ⟨[(2, (.av (.one (.const (.ptr ⟨2, 0, 0, 0⟩))))), (3, (.av (.one (.const (.ptr ⟨5, 0, 0, 0⟩))))), (5, (.av (.one (.int .i64)))), (6, (.av (.one (.int .i64)))), (7, (.av (.one (.int .i64)))), (8, (.av (.one (.int .u8)))), (12, (.av (.one (.sl 0 1)))), (13, (.av (.one (.sl 0 1)))), (18, (.av (.one (.int .i64)))), (19, (.av (.one (.int .i64)))), (54, (.av (.one (.sl 8 3)))), (55, (.av (.one (.const (.int .i64 (2 : Int)))))), (56, (.av (.one (.const (.int .i64 (0 : Int)))))), (70, (.av (.one (.int .i64)))), (71, (.av (.one (.int .i64))))], [(.sh (.arr (.int .u8) none), false), (.keep, false), (.keep, false), (.keep, false), (.keep, false), (.keep, false), (.keep, false), (.keep, false), (.keep, false), (.keep, false), (.keep, false), (.keep, false)]⟩, mov := [], wr := [0], outs := [(.exit 6, ⟨[], [(.sh (.arr (.int .u8) none), false), (.keep, false), (.keep, false), (.keep, false), (.keep, false), (.keep, false), (.keep, false), (.keep, false), (.keep, false), (.keep, false), (.keep, false), (.keep, false)]⟩)], its := [.int, .int, .int, .int, .nat, .nat, .nat, .nat, .int, .int, .nat, .nat, .int, .int, .lst (.int .u8)], ots := [[.lst (.int .u8)]] }
def gf_clear2_d6_2 : LD := { ins := ⟨[(2, (.av (.one (.const (.ptr ⟨2, 0, 0, 0⟩))))), (3, (.av (.one (.const (.ptr ⟨5, 0, 0, 0⟩))))), (5, (.av (.one (.int .i64)))), (6, (.av (.one (.int .i64)))), (7, (.av (.one (.int .i64)))), (8, (.av (.one (.int .u8)))), (12, (.av (.one (.sl 1 1)))), (13, (.av (.one (.sl 1 1)))), (18, (.av (.one (.int .i64)))), (19, (.av (.one (.int .i64)))), (54, (.av (.one (.sl 8 3)))), (55, (.av (.one (.const (.int .i64 (2 : Int)))))), (56, (.av (.one (.const (.int .i64 (1 : Int)))))), (70, (.av (.one (.int .i64)))), (71, (.av (.one (.int .i64))))], [(.keep, false), (.sh (.arr (.int .u8) none), false), (.keep, false), (.keep, false), (.keep, false), (.keep, false), (.keep, false), (.keep, false), (.keep, false), (.keep, false), (.keep, false), (.keep, false)]⟩, mov := [], wr := [1], outs := [(.exit 6, ⟨[], [(.keep, false), (.sh (.arr (.int .u8) none), false), (.keep, false), (.keep, false), (.keep, false), (.keep, false), (.keep, false), (.keep, false), (.keep, false), (.keep, false), (.keep, false), (.keep, false)]⟩)], its := [.int, .int, .int, .int, .nat, .nat, .nat, .nat, .int, .int, .nat, .nat, .int, .int, .lst (.int .u8)], ots := [[.lst (.int .u8)]] }
def gf_clear2_d8 : LD := { ins := ⟨[(2, (.av (.one (.const (.ptr ⟨2, 0, 0, 0⟩))))), (3, (.av (.one (.const (.ptr ⟨5, 0, 0, 0⟩))))), (5, (.av (.one (.int .i64)))), (6, (.av (.one (.int .i64)))), (18, (.av (.one (.int .i64)))), (19, (.av (.one (.int .i64)))), (96, (.av (.one (.int .i64)))), (97, (.av (.one (.int .i64))))], [(.sh (.arr (.int .u8) none), false), (.sh (.arr (.int .u8) none), false), (.sh (.one (.int .i64)), true), (.sh (.one (.int .i64)), true), (.sh (.one (.const (.slw 0 1))), false), (.sh (.one (.int .i64)), true), (.sh (.one (.int .i64)), true), (.sh (.one (.const (.slw 1 1))), false), (.keep, false)]⟩, mov := [], wr := [0, 1, 2, 3, 4, 5, 6, 7], outs := [(.exit 8, ⟨[], [(.sh (.arr (.int .u8) none), false), (.sh (.arr (.int .u8) none), false), (.sh (.one (.int .i64)), true), (.sh (.one (.int .i64)), true), (.sh (.one (.const (.slw 0 1))), false), (.sh (.one (.int .i64)), true), (.sh (.one (.int .i64)), true), (.sh (.one (.const (.slw 1 1))), false), (.keep, false)]⟩)], its := [.int, .int, .int, .int, .int, .int, .lst (.int .u8), .lst (.int .u8), .int, .int, .int, .int], ots := [[.lst (.int .u8), .lst (.int .u8), .int, .int, .int, .int]] }
def gf_clear2_d0 : LD := { ins := ⟨[(2, (.av (.one (.const (.ptr ⟨2, 0, 0, 0⟩))))), (3, (.av (.one (.const (.ptr ⟨5, 0, 0, 0⟩))))), (5, (.av (.one (.int .i64)))), (18, (.av (.one (.int .i64)))), (19, (.av (.one (.int .i64))))], [(.sh (.arr (.int .u8) none), false), (.sh (.arr (.int .u8) none), false), (.sh (.one (.int .i64)), true), (.sh (.one (.int .i64)), true), (.sh (.one (.const (.slw 0 1))), false), (.sh (.one (.int .i64)), true), (.sh (.one (.int .i64)), true), (.sh (.one (.const (.slw 1 1))), false)]⟩, mov := [], wr := [0, 1, 2, 3, 4, 5, 6, 7], outs := [(.exit 0, ⟨[(5, (.av (.one (.int .i64))))], [(.sh (.arr (.int .u8) none), false), (.sh (.arr (.int .u8) none), false), (.sh (.one (.int .i64)), true), (.sh (.one (.int .i64)), true), (.sh (.one (.const (.slw 0 1))), false), (.sh (.one (.int .i64)), true), (.sh (.one (.int .i64)), true), (.sh (.one (.const (.slw 1 1))), false)]⟩)], its := [.int, .int, .int, .lst (.int .u8), .lst (.int .u8), .int, .int, .int, .int], ots := [[.int, .lst (.int .u8), .lst (.int .u8), .int, .int, .int, .int]] }
noncomputable def gf_clear2_J (N : Nat) : Nat → Hint := fun cx => hintOf cx [(0, { reg := fun k => assoc0 k [(6, ⟨⟨[(35, (.av (.one .bool)))], [(.sh (.arr (.int .u8) none), false), (.dead, false), (.keep, true), (.keep, true), (.keep, false), (.dead, false), (.dead, false), (.dead, false)]⟩, [], [0], [.bool, .lst (.int .u8)]⟩)], cnd := fun k => assoc0 k [(119, ⟨[], [1], [(.normal, ⟨[], [(.keep, false), (.sh (.arr (.int .u8) none), false), (.keep, true), (.keep, true), (.keep, false), (.keep, true), (.keep, true), (.keep, false), (.dead, false)]⟩)], [[.lst (.int .u8)]]⟩), (102, ⟨[], [0, 1], [(.normal, ⟨[], [(.sh (.arr (.int .u8) none), false), (.sh (.arr (.int .u8) none), false), (.keep, true), (.keep, true), (.keep, false), (.keep, true), (.keep, true), (.keep, false), (.dead, false)]⟩)], [[.lst (.int .u8), .lst (.int .u8)]]⟩)], loop := fun k => assoc0 k [(2, ⟨gf_clear2_d2, loopF (gf_clear2_b2 N) N⟩), (8, ⟨gf_clear2_d8, loopF (gf_clear2_b8 N) N⟩), (0, ⟨gf_clear2_d0, loopF (gf_clear2_b0 N) N⟩)], nil := fun k => assoc0 k [], unr := fun k => assocN k [(4, 3)], blk := fun k => assoc0 k [(1, ⟨[], [0, 1, 2, 3, 4, 5, 6, 7], [(.normal, ⟨[(5, (.av (.one (.int .i64))))], [(.sh (.arr (.int .u8) none), false), (.sh (.arr (.int .u8) none), false), (.sh (.one (.int .i64)), true), (.sh (.one (.int .i64)), true), (.sh (.one (.const (.slw 0 1))), false), (.sh (.one (.int .i64)), true), (.sh (.one (.int .i64)), true), (.sh (.one (.const (.slw 1 1))), false)]⟩)], [[.int, .lst (.int .u8), .lst (.int .u8), .int, .int, .int, .int]]⟩)] }),
  (1, { reg := fun k => assoc0 k [], cnd := fun k => assoc0 k [], loop := fun k => assoc0 k [(6, ⟨gf_clear2_d6_1, loopF (gf_clear2_b6_1 N) N⟩)], nil := fun k => assoc0 k [], unr := fun k => assocN k [], blk := fun k => assoc0 k [(5, ⟨[], [0], [(.normal, ⟨[], [(.sh (.arr (.int .u8) none), false), (.keep, false), (.keep, true), (.keep, true), (.keep, false), (.keep, true), (.keep, true), (.keep, false), (.keep, false)]⟩)], [[.lst (.int .u8)]]⟩)] }),
  (2, { reg := fun k => assoc0 k [], cnd := fun k => assoc0 k [], loop := fun k => assoc0 k [(6, ⟨gf_clear2_d6_2, loopF (gf_clear2_b6_2 N) N⟩)], nil := fun k => assoc0 k [], unr := fun k => assocN k [], blk := fun k => assoc0 k [(5, ⟨[], [1], [(.normal, ⟨[], [(.keep, false), (.sh (.arr (.int .u8) none), false), (.keep, true), (.keep, true), (.keep, false), (.keep, true), (.keep, true), (.keep, false), (.keep, false)]⟩)], [[.lst (.int .u8)]]⟩)] })]
noncomputable def gf_clear2_C (N : Nat) : Nat → List GS := fun k => tabOf k [(59, [gf_row_g N]), (14, [gf_Inv_g N]), (45, [gf_Scale_g N]), (66, [gf_add_g N])]
def gf_clear2_o : Shp := ⟨[(0, (.av (.one (.int .i64))))], [(.sh (.arr (.int .u8) none), false), (.sh (.arr (.int .u8) none), false)]⟩
noncomputable def gf_clear2_g (N : Nat) : GS := { ins := ⟨[(0, (.av (.agg [(.one (.int .i64)), (.one (.int .i64)), (.one (.const (.slw 0 1)))]))), (1, (.av (.agg [(.one (.int .i64)), (.one (.int .i64)), (.one (.const (.slw 1 1)))])))], [(some (.arr (.int .u8) none), false), (some (.arr (.int .u8) none), false)]⟩, lend := [.keep, .keep], outs := ssOf gf_clear2_o, its := [.int, .int, .int, .int, .lst (.int .u8), .lst (.int .u8)], ots := [.int, .lst (.int .u8), .lst (.int .u8)], F := gf_clear2 N }
theorem gf_clear2_t (N : Nat) : TabC Try.prog (gf_clear2_C N) := tab_ok ⟨⟨gf_row_ok N, trivial⟩, ⟨gf_Inv_ok N, trivial⟩, ⟨gf_Scale_ok N, trivial⟩, ⟨gf_add_ok N, trivial⟩, trivial⟩
theorem gf_clear2_i6 : loopsOf gf_clear2_c6 = [] := by kernel_rfl
theorem gf_clear2_e6_1 (N : Nat) (next) (x) : gf_clear2_b6_1 N next x = loopStep Γ (gf_clear2_C N) (gf_clear2_J N) 1 133 gf_clear2_d6_1 gf_clear2_c6 next x := by kernel_rfl
theorem gf_clear2_k6_1 (N : Nat) : LoopOK Try.prog 133 gf_clear2_c6 ⟨gf_clear2_d6_1, loopF (gf_clear2_b6_1 N) N⟩ := loop_ok tabOK (gf_clear2_t N) mixedOK (J := gf_clear2_J N) (cx := 1) (body := gf_clear2_c6) (nt := 133) (l := gf_clear2_d6_1) (b := gf_clear2_b6_1 N) (jok_from gf_clear2_i6 ⟨trivial, trivial, trivial, trivial⟩) (gf_clear2_e6_1 N) N
theorem gf_clear2_e6_2 (N : Nat) (next) (x) : gf_clear2_b6_2 N next x = loopStep Γ (gf_clear2_C N) (gf_clear2_J N) 2 133 gf_clear2_d6_2 gf_clear2_c6 next x := by kernel_rfl
theorem gf_clear2_k6_2 (N : Nat) : LoopOK Try.prog 133 gf_clear2_c6 ⟨gf_clear2_d6_2, loopF (gf_clear2_b6_2 N) N⟩ := loop_ok tabOK (gf_clear2_t N) mixedOK (J := gf_clear2_J N) (cx := 2) (body := gf_clear2_c6) (nt := 133) (l := gf_clear2_d6_2) (b := gf_clear2_b6_2 N) (jok_from gf_clear2_i6 ⟨trivial, trivial, trivial, trivial⟩) (gf_clear2_e6_2 N) N
theorem gf_clear2_i2 : loopsOf gf_clear2_c2 = [] := by kernel_rfl
theorem gf_clear2_e2 (N : Nat) (next) (x) : gf_clear2_b2 N next x = loopStep Γ (gf_clear2_C N) (gf_clear2_J N) 0 133 gf_clear2_d2 gf_clear2_c2 next x := by kernel_rfl
theorem gf_clear2_k2 (N : Nat) : LoopOK Try.prog 133 gf_clear2_c2 ⟨gf_clear2_d2, loopF (gf_clear2_b2 N) N⟩ := loop_ok tabOK (gf_clear2_t N) mixedOK (J := gf_clear2_J N) (cx := 0) (body := gf_clear2_c2) (nt := 133) (l := gf_clear2_d2) (b := gf_clear2_b2 N) (jok_from gf_clear2_i2 ⟨trivial, trivial, trivial, trivial⟩) (gf_clear2_e2 N) N
theorem gf_clear2_i8 : loopsOf gf_clear2_c8 = [] := by kernel_rfl
theorem gf_clear2_e8 (N : Nat) (next) (x) : gf_clear2_b8 N next x = loopStep Γ (gf_clear2_C N) (gf_clear2_J N) 0 133 gf_clear2_d8 gf_clear2_c8 next x := by kernel_rfl
theorem gf_clear2_k8 (N : Nat) : LoopOK Try.prog 133 gf_clear2_c8 ⟨gf_clear2_d8, loopF (gf_clear2_b8 N) N⟩ := loop_ok tabOK (gf_clear2_t N) mixedOK (J := gf_clear2_J N) (cx := 0) (body := gf_clear2_c8) (nt := 133) (l := gf_clear2_d8) (b := gf_clear2_b8 N) (jok_from gf_clear2_i8 ⟨trivial, trivial, trivial, trivial⟩) (gf_clear2_e8 N) N
theorem gf_clear2_i0 : loopsOf gf_clear2_c0 = [(2, gf_clear2_c2), (4, codeOf (getLoop 4 gf_clear2_c)), (6, gf_clear2_c6), (8, gf_clear2_c8)] := by kernel_rfl
theorem gf_clear2_e0 (N : Nat) (next) (x) : gf_clear2_b0 N next x = loopStep Γ (gf_clear2_C N) (gf_clear2_J N) 0 133 gf_clear2_d0 gf_clear2_c0 next x := by kernel_rfl
theorem gf_clear2_k0 (N : Nat) : LoopOK Try.prog 133 gf_clear2_c0 ⟨gf_clear2_d0, loopF (gf_clear2_b0 N) N⟩ := loop_ok tabOK (gf_clear2_t N) mixedOK (J := gf_clear2_J N) (cx := 0) (body := gf_clear2_c0) (nt := 133) (l := gf_clear2_d0) (b := gf_clear2_b0 N) (jok_from gf_clear2_i0 ⟨⟨.inr ⟨_, rfl, gf_clear2_k2 N⟩, .inl rfl, .inl rfl, .inr ⟨_, rfl, gf_clear2_k8 N⟩, trivial⟩, ⟨.inl rfl, .inl rfl, .inr ⟨_, rfl, gf_clear2_k6_1 N⟩, .inl rfl, trivial⟩, ⟨.inl rfl, .inl rfl, .inr ⟨_, rfl, gf_clear2_k6_2 N⟩, .inl rfl, trivial⟩, trivial⟩) (gf_clear2_e0 N) N
theorem gf_clear2_i : loopsOf gf_clear2_c = [(0, gf_clear2_c0), (2, gf_clear2_c2), (4, codeOf (getLoop 4 gf_clear2_c)), (6, gf_clear2_c6), (8, gf_clear2_c8)] := by kernel_rfl
theorem gf_clear2_e (N : Nat) (x) : (gf_clear2_g N).F x = fnStep Γ (gf_clear2_C N) (gf_clear2_J N) 133 Try.f63.results.toList (gf_clear2_g N) gf_clear2_o gf_clear2_c x := by kernel_rfl
theorem gf_clear2_y : Try.f63.body = some gf_clear2_c := by kernel_rfl
theorem gf_clear2_n : (Try.f63.name == "runtime.NumGoroutine") = false := by kernel_rfl
theorem gf_clear2_ok (N : Nat) : FnDoes Try.prog 63 (gf_clear2_g N) := fn_ok tabOK (gf_clear2_t N) mixedOK (J := gf_clear2_J N) (body := gf_clear2_c) Try.func63 gf_clear2_y gf_clear2_n Try.ntmps63 (jok_from gf_clear2_i ⟨⟨.inr ⟨_, rfl, gf_clear2_k0 N⟩, .inr ⟨_, rfl, gf_clear2_k2 N⟩, .inl rfl, .inl rfl, .inr ⟨_, rfl, gf_clear2_k8 N⟩, trivial⟩, ⟨.inl rfl, .inl rfl, .inl rfl, .inr ⟨_, rfl, gf_clear2_k6_1 N⟩, .inl rfl, trivial⟩, ⟨.inl rfl, .inl rfl, .inl rfl, .inr ⟨_, rfl, gf_clear2_k6_2 N⟩, .inl rfl, trivial⟩, trivial⟩) rfl (le_of_ble rfl) (le_of_ble rfl) (gf_clear2_e N)
noncomputable def gf_Inverse_c : Code := codeOf Try.f37.body
noncomputable def gf_Inverse_J (N : Nat) : Nat → Hint := fun cx => hintOf cx []
noncomputable def gf_Inverse_C (N : Nat) : Nat → List GS := fun k => tabOf k [(50, [gf_Check_g N]), (17, [gf_Identity_g N]), (64, [gf_own_g N]), (63, [gf_clear2_g N])]
def gf_Inverse_o : Shp := ⟨[(0, (.tup [(.agg [(.one (.int .i64)), (.one (.int .i64)), (.one (.const (.slw 0 1)))]), (.one (.int .i64))]))], [(.sh (.arr (.int .u8) none), false)]⟩
noncomputable def gf_Inverse_g (N : Nat) : GS := { ins := ⟨[(0, (.av (.agg [(.one (.int .i64)), (.one (.int .i64)), (.one (.rsl (.int .u8)))])))], []⟩, lend := [.agg [none, none, some (.int .u8)]], outs := ssOf gf_Inverse_o, its := [.int, .int, .lst (.int .u8)], ots := [.int, .int, .int, .lst (.int .u8)], F := gf_Inverse N }
theorem gf_Inverse_t (N : Nat) : TabC Try.prog (gf_Inverse_C N) := tab_ok ⟨⟨gf_Check_ok N, trivial⟩, ⟨gf_Identity_ok N, trivial⟩, ⟨gf_own_ok N, trivial⟩, ⟨gf_clear2_ok N, trivial⟩, trivial⟩
theorem gf_Inverse_i : loopsOf gf_Inverse_c = [] := by kernel_rfl
theorem gf_Inverse_e (N : Nat) (x) : (gf_Inverse_g N).F x = fnStep Γ (gf_Inverse_C N) (gf_Inverse_J N) 34 Try.f37.results.toList (gf_Inverse_g N) gf_Inverse_o gf_Inverse_c x := by kernel_rfl
theorem gf_Inverse_y : Try.f37.body = some gf_Inverse_c := by kernel_rfl
theorem gf_Inverse_n : (Try.f37.name == "runtime.NumGoroutine") = false := by kernel_rfl
theorem gf_Inverse_ok (N : Nat) : FnDoes Try.prog 37 (gf_Inverse_g N) := fn_ok tabOK (gf_Inverse_t N) mixedOK (J := gf_Inverse_J N) (body := gf_Inverse_c) Try.func37 gf_Inverse_y gf_Inverse_n Try.ntmps37 (jok_from gf_Inverse_i trivial) rfl (le_of_ble rfl) (le_of_ble rfl) (gf_Inverse_e N)
noncomputable def granaryref02_Same_c : Code := codeOf Try.f38.body
noncomputable def granaryref02_Same_J (N : Nat) : Nat → Hint := fun cx => hintOf cx [(0, { reg := fun k => assoc0 k [(1, ⟨⟨[(4, (.av (.one .bool)))], [(.keep, true), (.keep, true), (.keep, false), (.keep, true), (.keep, true), (.keep, false)]⟩, [], [], [.bool]⟩)], cnd := fun k => assoc0 k [], loop := fun k => assoc0 k [], nil := fun k => assoc0 k [], unr := fun k => assocN k [], blk := fun k => assoc0 k [] })]
noncomputable def granaryref02_Same_C (N : Nat) : Nat → List GS := fun k => tabOf k []
def granaryref02_Same_o : Shp := ⟨[(0, (.av (.one .bool)))], []⟩
noncomputable def granaryref02_Same_g (N : Nat) : GS := { ins := ⟨[(0, (.av (.agg [(.one (.int .i64)), (.one (.int .i64)), (.one (.rsl (.int .u8)))]))), (1, (.av (.agg [(.one (.int .i64)), (.one (.int .i64)), (.one (.rsl (.int .u8)))])))], []⟩, lend := [.agg [none, none, some (.int .u8)], .agg [none, none, some (.int .u8)]], outs := ssOf granaryref02_Same_o, its := [.int, .int, .lst (.int .u8), .int, .int, .lst (.int .u8)], ots := [.bool], F := granaryref02_Same }
theorem granaryref02_Same_t (N : Nat) : TabC Try.prog (granaryref02_Same_C N) := tab_ok trivial
theorem granaryref02_Same_i : loopsOf granaryref02_Same_c = [] := by kernel_rfl
theorem granaryref02_Same_e (N : Nat) (x) : (granaryref02_Same_g N).F x = fnStep Γ (granaryref02_Same_C N) (granaryref02_Same_J N) 26 Try.f38.results.toList (granaryref02_Same_g N) granaryref02_Same_o granaryref02_Same_c x := by kernel_rfl
theorem granaryref02_Same_y : Try.f38.body = some granaryref02_Same_c := by kernel_rfl
theorem granaryref02_Same_n : (Try.f38.name == "runtime.NumGoroutine") = false := by kernel_rfl
theorem granaryref02_Same_ok (N : Nat) : FnDoes Try.prog 38 (granaryref02_Same_g N) := fn_ok tabOK (granaryref02_Same_t N) mixedOK (J := granaryref02_Same_J N) (body := granaryref02_Same_c) Try.func38 granaryref02_Same_y granaryref02_Same_n Try.ntmps38 (jok_from granaryref02_Same_i ⟨trivial, trivial⟩) rfl (le_of_ble rfl) (le_of_ble rfl) (granaryref02_Same_e N)
noncomputable def granarylaw02_live_c : Code := codeOf Try.f16.body
noncomputable def granarylaw02_live_J (N : Nat) : Nat → Hint := fun cx => hintOf cx [(0, { reg := fun k => assoc0 k [(6, ⟨⟨[(0, (.av (.one .bool)))], [(.keep, false), (.keep, false), (.keep, true), (.keep, true), (.keep, false), (.keep, false), (.keep, true), (.keep, true), (.keep, false), (.keep, false), (.keep, false), (.keep, true), (.keep, true), (.keep, false)]⟩, [], [], [.bool]⟩)], cnd := fun k => assoc0 k [], loop := fun k => assoc0 k [], nil := fun k => assoc0 k [], unr := fun k => assocN k [], blk := fun k => assoc0 k [] })]
noncomputable def granarylaw02_live_C (N : Nat) : Nat → List GS := fun k => tabOf k [(14, [gf_Inv_g N]), (56, [gf_Make_g N]), (37, [gf_Inverse_g N]), (12, [gf_Mul_g N]), (15, [granarylaw02_num_g N]), (38, [granaryref02_Same_g N]), (28, [gf_Pow_g N])]
def granarylaw02_live_o : Shp := ⟨[(0, (.av (.one .bool)))], []⟩
noncomputable def granarylaw02_live_g (N : Nat) : GS := { ins := ⟨[], []⟩, lend := [], outs := ssOf granarylaw02_live_o, its := [], ots := [.bool], F := granarylaw02_live N }
theorem granarylaw02_live_t (N : Nat) : TabC Try.prog (granarylaw02_live_C N) := tab_ok ⟨⟨gf_Inv_ok N, trivial⟩, ⟨gf_Make_ok N, trivial⟩, ⟨gf_Inverse_ok N, trivial⟩, ⟨gf_Mul_ok N, trivial⟩, ⟨granarylaw02_num_ok N, trivial⟩, ⟨granaryref02_Same_ok N, trivial⟩, ⟨gf_Pow_ok N, trivial⟩, trivial⟩
theorem granarylaw02_live_i : loopsOf granarylaw02_live_c = [] := by kernel_rfl
theorem granarylaw02_live_e (N : Nat) (x) : (granarylaw02_live_g N).F x = fnStep Γ (granarylaw02_live_C N) (granarylaw02_live_J N) 79 Try.f16.results.toList (granarylaw02_live_g N) granarylaw02_live_o granarylaw02_live_c x := by kernel_rfl
theorem granarylaw02_live_y : Try.f16.body = some granarylaw02_live_c := by kernel_rfl
theorem granarylaw02_live_n : (Try.f16.name == "runtime.NumGoroutine") = false := by kernel_rfl
theorem granarylaw02_live_ok (N : Nat) : FnDoes Try.prog 16 (granarylaw02_live_g N) := fn_ok tabOK (granarylaw02_live_t N) mixedOK (J := granarylaw02_live_J N) (body := granarylaw02_live_c) Try.func16 granarylaw02_live_y granarylaw02_live_n Try.ntmps16 (jok_from granarylaw02_live_i ⟨trivial, trivial⟩) rfl (le_of_ble rfl) (le_of_ble rfl) (granarylaw02_live_e N)
noncomputable def granaryref02_New_c : Code := codeOf Try.f60.body
noncomputable def granaryref02_New_J (N : Nat) : Nat → Hint := fun cx => hintOf cx []
noncomputable def granaryref02_New_C (N : Nat) : Nat → List GS := fun k => tabOf k []
def granaryref02_New_o : Shp := ⟨[(0, (.av (.agg [(.one (.int .i64)), (.one (.int .i64)), (.one (.const (.slw 0 1)))])))], [(.sh (.arr (.int .u8) none), false)]⟩
noncomputable def granaryref02_New_g (N : Nat) : GS := { ins := ⟨[(0, (.av (.one (.int .i64)))), (1, (.av (.one (.int .i64))))], []⟩, lend := [.keep, .keep], outs := ssOf granaryref02_New_o, its := [.int, .int], ots := [.int, .int, .lst (.int .u8)], F := granaryref02_New }
theorem granaryref02_New_t (N : Nat) : TabC Try.prog (granaryref02_New_C N) := tab_ok trivial
theorem granaryref02_New_i : loopsOf granaryref02_New_c = [] := by kernel_rfl
theorem granaryref02_New_e (N : Nat) (x) : (granaryref02_New_g N).F x = fnStep Γ (granaryref02_New_C N) (granaryref02_New_J N) 12 Try.f60.results.toList (granaryref02_New_g N) granaryref02_New_o granaryref02_New_c x := by kernel_rfl
theorem granaryref02_New_y : Try.f60.body = some granaryref02_New_c := by kernel_rfl
theorem granaryref02_New_n : (Try.f60.name == "runtime.NumGoroutine") = false := by kernel_rfl
theorem granaryref02_New_ok (N : Nat) : FnDoes Try.prog 60 (granaryref02_New_g N) := fn_ok tabOK (granaryref02_New_t N) mixedOK (J := granaryref02_New_J N) (body := granaryref02_New_c) Try.func60 granaryref02_New_y granaryref02_New_n Try.ntmps60 (jok_from granaryref02_New_i trivial) rfl (le_of_ble rfl) (le_of_ble rfl) (granaryref02_New_e N)
noncomputable def granaryref02_Identity_c : Code := codeOf Try.f18.body
noncomputable def granaryref02_Identity_c0 : Code := codeOf (getLoop 0 granaryref02_Identity_c)
def granaryref02_Identity_d0 : LD := { ins := ⟨[(0, (.av (.one (.int .i64)))), (2, (.av (.one (.const (.ptr ⟨0, 0, 0, 0⟩))))), (4, (.av (.one (.const (.ptr ⟨4, 0, 0, 0⟩))))), (5, (.av (.one (.int .i64))))], [(.keep, false), (.keep, false), (.keep, false), (.sh (.arr (.int .u8) none), false), (.sh (.one (.int .i64)), true), (.sh (.one (.int .i64)), true), (.sh (.one (.const (.slw 3 1))), false)]⟩, mov := [], wr := [3, 4, 5, 6], outs := [(.exit 0, ⟨[], [(.keep, false), (.keep, false), (.keep, false), (.sh (.arr (.int .u8) none), false), (.sh (.one (.int .i64)), true), (.sh (.one (.int .i64)), true), (.sh (.one (.const (.slw 3 1))), false)]⟩)], its := [.int, .int, .lst (.int .u8), .int, .int], ots := [[.lst (.int .u8), .int, .int]] }
noncomputable def granaryref02_Identity_J (N : Nat) : Nat → Hint := fun cx => hintOf cx [(0, { reg := fun k => assoc0 k [(1, ⟨⟨[(11, (.av (.one .bool)))], [(.keep, true), (.keep, true), (.keep, false)]⟩, [], [], [.bool]⟩)], cnd := fun k => assoc0 k [], loop := fun k => assoc0 k [(0, ⟨granaryref02_Identity_d0, loopF (granaryref02_Identity_b0 N) N⟩)], nil := fun k => assoc0 k [], unr := fun k => assocN k [], blk := fun k => assoc0 k [] })]
noncomputable def granaryref02_Identity_C (N : Nat) : Nat → List GS := fun k => tabOf k [(60, [granaryref02_New_g N])]
def granaryref02_Identity_o : Shp := ⟨[(0, (.tup [(.agg [(.one (.int .i64)), (.one (.int .i64)), (.one (.const (.slw 0 1)))]), (.one (.int .i64))]))], [(.sh (.arr (.int .u8) none), false)]⟩
noncomputable def granaryref02_Identity_g (N : Nat) : GS := { ins := ⟨[(0, (.av (.one (.int .i64))))], []⟩, lend := [.keep], outs := ssOf granaryref02_Identity_o, its := [.int], ots := [.int, .int, .int, .lst (.int .u8)], F := granaryref02_Identity N }
theorem granaryref02_Identity_t (N : Nat) : TabC Try.prog (granaryref02_Identity_C N) := tab_ok ⟨⟨granaryref02_New_ok N, trivial⟩, trivial⟩
theorem granaryref02_Identity_i0 : loopsOf granaryref02_Identity_c0 = [] := by kernel_rfl
theorem granaryref02_Identity_e0 (N : Nat) (next) (x) : granaryref02_Identity_b0 N next x = loopStep Γ (granaryref02_Identity_C N) (granaryref02_Identity_J N) 0 30 granaryref02_Identity_d0 granaryref02_Identity_c0 next x := by kernel_rfl
theorem granaryref02_Identity_k0 (N : Nat) : LoopOK Try.prog 30 granaryref02_Identity_c0 ⟨granaryref02_Identity_d0, loopF (granaryref02_Identity_b0 N) N⟩ := loop_ok tabOK (granaryref02_Identity_t N) mixedOK (J := granaryref02_Identity_J N) (cx := 0) (body := granaryref02_Identity_c0) (nt := 30) (l := granaryref02_Identity_d0) (b := granaryref02_Identity_b0 N) (jok_from granaryref02_Identity_i0 ⟨trivial, trivial⟩) (granaryref02_Identity_e0 N) N
theorem granaryref02_Identity_i : loopsOf granaryref02_Identity_c = [(0, granaryref02_Identity_c0)] := by kernel_rfl
theorem granaryref02_Identity_e (N : Nat) (x) : (granaryref02_Identity_g N).F x = fnStep Γ (granaryref02_Identity_C N) (granaryref02_Identity_J N) 30 Try.f18.results.toList (granaryref02_Identity_g N) granaryref02_Identity_o granaryref02_Identity_c x := by kernel_rfl
theorem granaryref02_Identity_y : Try.f18.body = some granaryref02_Identity_c := by kernel_rfl
theorem granaryref02_Identity_n : (Try.f18.name == "runtime.NumGoroutine") = false := by kernel_rfl
theorem granaryref02_Identity_ok (N : Nat) : FnDoes Try.prog 18 (granaryref02_Identity_g N) := fn_ok tabOK (granaryref02_Identity_t N) mixedOK (J := granaryref02_Identity_J N) (body := granaryref02_Identity_c) Try.func18 granaryref02_Identity_y granaryref02_Identity_n Try.ntmps18 (jok_from granaryref02_Identity_i ⟨⟨.inr ⟨_, rfl, granaryref02_Identity_k0 N⟩, trivial⟩, trivial⟩) rfl (le_of_ble rfl) (le_of_ble rfl) (granaryref02_Identity_e N)
noncomputable def gf_Powers_c : Code := codeOf Try.f19.body
noncomputable def gf_Powers_c0 : Code := codeOf (getLoop 0 gf_Powers_c)
noncomputable def gf_Powers_c2 : Code := codeOf (getLoop 2 gf_Powers_c)
def gf_Powers_d2 : LD := { ins := ⟨[(1, (.av (.one (.int .i64)))), (4, (.av (.one (.const (.ptr ⟨0, 0, 0, 0⟩))))), (6, (.av (.one (.const (.ptr ⟨4, 0, 0, 0⟩))))), (7, (.av (.one (.int .i64)))), (21, (.av (.one (.int .i64)))), (22, (.av (.one (.int .i64)))), (25, (.av (.one (.int .i64)))), (26, (.av (.one (.int .i64))))], [(.keep, false), (.keep, false), (.keep, false), (.sh (.arr (.int .u8) none), false), (.sh (.one (.int .i64)), true), (.sh (.one (.int .i64)), true), (.sh (.one (.const (.slw 3 1))), false)]⟩, mov := [], wr := [3, 4, 5, 6], outs := [(.exit 2, ⟨[], [(.keep, false), (.keep, false), (.keep, false), (.sh (.arr (.int .u8) none), false), (.sh (.one (.int .i64)), true), (.sh (.one (.int .i64)), true), (.sh (.one (.const (.slw 3 1))), false)]⟩)], its := [.int, .int, .int, .int, .int, .int, .lst (.int .u8), .int, .int], ots := [[.lst (.int .u8), .int, .int]] }
def gf_Powers_d0 : LD := { ins := ⟨[(1, (.av (.one (.int .i64)))), (4, (.av (.one (.const (.ptr ⟨0, 0, 0, 0⟩))))), (6, (.av (.one (.const (.ptr ⟨4, 0, 0, 0⟩))))), (21, (.av (.one (.int .i64)))), (22, (.av (.one (.int .i64))))], [(.keep, false), (.keep, false), (.keep, false), (.sh (.arr (.int .u8) none), false), (.sh (.one (.int .i64)), true), (.sh (.one (.int .i64)), true), (.sh (.one (.const (.slw 3 1))), false)]⟩, mov := [], wr := [3, 4, 5, 6], outs := [(.exit 0, ⟨[], [(.keep, false), (.keep, false), (.keep, false), (.sh (.arr (.int .u8) none), false), (.sh (.one (.int .i64)), true), (.sh (.one (.int .i64)), true), (.sh (.one (.const (.slw 3 1))), false)]⟩)], its := [.int, .int, .int, .lst (.int .u8), .int, .int], ots := [[.lst (.int .u8), .int, .int]] }
noncomputable def gf_Powers_J (N : Nat) : Nat → Hint := fun cx => hintOf cx [(0, { reg := fun k => assoc0 k [(1, ⟨⟨[(16, (.av (.one .bool)))], [(.keep, true), (.keep, true), (.keep, false)]⟩, [], [], [.bool]⟩)], cnd := fun k => assoc0 k [], loop := fun k => assoc0 k [(2, ⟨gf_Powers_d2, loopF (gf_Powers_b2 N) N⟩), (0, ⟨gf_Powers_d0, loopF (gf_Powers_b0 N) N⟩)], nil := fun k => assoc0 k [], unr := fun k => assocN k [], blk := fun k => assoc0 k [] })]
noncomputable def gf_Powers_C (N : Nat) : Nat → List GS := fun k => tabOf k [(57, [gf_side_g N]), (58, [gf_zeros_g N]), (59, [gf_row_g N]), (28, [gf_Pow_g N])]
def gf_Powers_o : Shp := ⟨[(0, (.tup [(.agg [(.one (.int .i64)), (.one (.int .i64)), (.one (.const (.slw 0 1)))]), (.one (.int .i64))]))], [(.sh (.arr (.int .u8) none), false)]⟩
noncomputable def gf_Powers_g (N : Nat) : GS := { ins := ⟨[(0, (.av (.one (.int .i64)))), (1, (.av (.one (.int .i64))))], []⟩, lend := [.keep, .keep], outs := ssOf gf_Powers_o, its := [.int, .int], ots := [.int, .int, .int, .lst (.int .u8)], F := gf_Powers N }
theorem gf_Powers_t (N : Nat) : TabC Try.prog (gf_Powers_C N) := tab_ok ⟨⟨gf_side_ok N, trivial⟩, ⟨gf_zeros_ok N, trivial⟩, ⟨gf_row_ok N, trivial⟩, ⟨gf_Pow_ok N, trivial⟩, trivial⟩
theorem gf_Powers_i2 : loopsOf gf_Powers_c2 = [] := by kernel_rfl
theorem gf_Powers_e2 (N : Nat) (next) (x) : gf_Powers_b2 N next x = loopStep Γ (gf_Powers_C N) (gf_Powers_J N) 0 41 gf_Powers_d2 gf_Powers_c2 next x := by kernel_rfl
theorem gf_Powers_k2 (N : Nat) : LoopOK Try.prog 41 gf_Powers_c2 ⟨gf_Powers_d2, loopF (gf_Powers_b2 N) N⟩ := loop_ok tabOK (gf_Powers_t N) mixedOK (J := gf_Powers_J N) (cx := 0) (body := gf_Powers_c2) (nt := 41) (l := gf_Powers_d2) (b := gf_Powers_b2 N) (jok_from gf_Powers_i2 ⟨trivial, trivial⟩) (gf_Powers_e2 N) N
theorem gf_Powers_i0 : loopsOf gf_Powers_c0 = [(2, gf_Powers_c2)] := by kernel_rfl
theorem gf_Powers_e0 (N : Nat) (next) (x) : gf_Powers_b0 N next x = loopStep Γ (gf_Powers_C N) (gf_Powers_J N) 0 41 gf_Powers_d0 gf_Powers_c0 next x := by kernel_rfl
theorem gf_Powers_k0 (N : Nat) : LoopOK Try.prog 41 gf_Powers_c0 ⟨gf_Powers_d0, loopF (gf_Powers_b0 N) N⟩ := loop_ok tabOK (gf_Powers_t N) mixedOK (J := gf_Powers_J N) (cx := 0) (body := gf_Powers_c0) (nt := 41) (l := gf_Powers_d0) (b := gf_Powers_b0 N) (jok_from gf_Powers_i0 ⟨⟨.inr ⟨_, rfl, gf_Powers_k2 N⟩, trivial⟩, trivial⟩) (gf_Powers_e0 N) N
theorem gf_Powers_i : loopsOf gf_Powers_c = [(0, gf_Powers_c0), (2, gf_Powers_c2)] := by kernel_rfl
theorem gf_Powers_e (N : Nat) (x) : (gf_Powers_g N).F x = fnStep Γ (gf_Powers_C N) (gf_Powers_J N) 41 Try.f19.results.toList (gf_Powers_g N) gf_Powers_o gf_Powers_c x := by kernel_rfl
theorem gf_Powers_y : Try.f19.body = some gf_Powers_c := by kernel_rfl
theorem gf_Powers_n : (Try.f19.name == "runtime.NumGoroutine") = false := by kernel_rfl
theorem gf_Powers_ok (N : Nat) : FnDoes Try.prog 19 (gf_Powers_g N) := fn_ok tabOK (gf_Powers_t N) mixedOK (J := gf_Powers_J N) (body := gf_Powers_c) Try.func19 gf_Powers_y gf_Powers_n Try.ntmps19 (jok_from gf_Powers_i ⟨⟨.inr ⟨_, rfl, gf_Powers_k0 N⟩, .inr ⟨_, rfl, gf_Powers_k2 N⟩, trivial⟩, trivial⟩) rfl (le_of_ble rfl) (le_of_ble rfl) (gf_Powers_e N)
noncomputable def granaryref02_Mul_c : Code := codeOf Try.f27.body
noncomputable def granaryref02_Mul_c0 : Code := codeOf (getLoop 0 granaryref02_Mul_c)
def granaryref02_Mul_d0 : LD := { ins := ⟨[(1, (.av (.one (.int .u8)))), (5, (.av (.one (.int .i64)))), (6, (.av (.one (.int .i64)))), (7, (.av (.one (.int .i64))))], []⟩, mov := [], wr := [], outs := [(.exit 0, ⟨[(5, (.av (.one (.int .i64))))], []⟩)], its := [.int, .int, .int, .int], ots := [[.int]] }
noncomputable def granaryref02_Mul_J (N : Nat) : Nat → Hint := fun cx => hintOf cx [(0, { reg := fun k => assoc0 k [], cnd := fun k => assoc0 k [(19, ⟨[], [], [(.normal, ⟨[(5, (.av (.one (.int .i64))))], []⟩)], [[.int]]⟩), (26, ⟨[], [], [(.normal, ⟨[(6, (.av (.one (.int .i64))))], []⟩)], [[.int]]⟩)], loop := fun k => assoc0 k [(0, ⟨granaryref02_Mul_d0, loopF (granaryref02_Mul_b0 N) N⟩)], nil := fun k => assoc0 k [], unr := fun k => assocN k [], blk := fun k => assoc0 k [] })]
noncomputable def granaryref02_Mul_C (N : Nat) : Nat → List GS := fun k => tabOf k []
def granaryref02_Mul_o : Shp := ⟨[(0, (.av (.one (.int .u8))))], []⟩
noncomputable def granaryref02_Mul_g (N : Nat) : GS := { ins := ⟨[(0, (.av (.one (.int .u8)))), (1, (.av (.one (.int .u8))))], []⟩, lend := [.keep, .keep], outs := ssOf granaryref02_Mul_o, its := [.int, .int], ots := [.int], F := granaryref02_Mul N }
theorem granaryref02_Mul_t (N : Nat) : TabC Try.prog (granaryref02_Mul_C N) := tab_ok trivial
theorem granaryref02_Mul_i0 : loopsOf granaryref02_Mul_c0 = [] := by kernel_rfl
theorem granaryref02_Mul_e0 (N : Nat) (next) (x) : granaryref02_Mul_b0 N next x = loopStep Γ (granaryref02_Mul_C N) (granaryref02_Mul_J N) 0 31 granaryref02_Mul_d0 granaryref02_Mul_c0 next x := by kernel_rfl
theorem granaryref02_Mul_k0 (N : Nat) : LoopOK Try.prog 31 granaryref02_Mul_c0 ⟨granaryref02_Mul_d0, loopF (granaryref02_Mul_b0 N) N⟩ := loop_ok tabOK (granaryref02_Mul_t N) mixedOK (J := granaryref02_Mul_J N) (cx := 0) (body := granaryref02_Mul_c0) (nt := 31) (l := granaryref02_Mul_d0) (b := granaryref02_Mul_b0 N) (jok_from granaryref02_Mul_i0 ⟨trivial, trivial⟩) (granaryref02_Mul_e0 N) N
theorem granaryref02_Mul_i : loopsOf granaryref02_Mul_c = [(0, granaryref02_Mul_c0)] := by kernel_rfl
theorem granaryref02_Mul_e (N : Nat) (x) : (granaryref02_Mul_g N).F x = fnStep Γ (granaryref02_Mul_C N) (granaryref02_Mul_J N) 31 Try.f27.results.toList (granaryref02_Mul_g N) granaryref02_Mul_o granaryref02_Mul_c x := by kernel_rfl
theorem granaryref02_Mul_y : Try.f27.body = some granaryref02_Mul_c := by kernel_rfl
theorem granaryref02_Mul_n : (Try.f27.name == "runtime.NumGoroutine") = false := by kernel_rfl
theorem granaryref02_Mul_ok (N : Nat) : FnDoes Try.prog 27 (granaryref02_Mul_g N) := fn_ok tabOK (granaryref02_Mul_t N) mixedOK (J := granaryref02_Mul_J N) (body := granaryref02_Mul_c) Try.func27 granaryref02_Mul_y granaryref02_Mul_n Try.ntmps27 (jok_from granaryref02_Mul_i ⟨⟨.inr ⟨_, rfl, granaryref02_Mul_k0 N⟩, trivial⟩, trivial⟩) rfl (le_of_ble rfl) (le_of_ble rfl) (granaryref02_Mul_e N)
noncomputable def granaryref02_power_c : Code := codeOf Try.f61.body
noncomputable def granaryref02_power_c0 : Code := codeOf (getLoop 0 granaryref02_power_c)
def granaryref02_power_d0 : LD := { ins := ⟨[(0, (.av (.one (.int .u8)))), (1, (.av (.one (.int .i64)))), (5, (.av (.one (.int .u8)))), (6, (.av (.one (.int .i64))))], []⟩, mov := [], wr := [], outs := [(.exit 0, ⟨[(5, (.av (.one (.int .u8))))], []⟩)], its := [.int, .int, .int, .int], ots := [[.int]] }
noncomputable def granaryref02_power_J (N : Nat) : Nat → Hint := fun cx => hintOf cx [(0, { reg := fun k => assoc0 k [], cnd := fun k => assoc0 k [], loop := fun k => assoc0 k [(0, ⟨granaryref02_power_d0, loopF (granaryref02_power_b0 N) N⟩)], nil := fun k => assoc0 k [], unr := fun k => assocN k [], blk := fun k => assoc0 k [] })]
noncomputable def granaryref02_power_C (N : Nat) : Nat → List GS := fun k => tabOf k [(27, [granaryref02_Mul_g N])]
def granaryref02_power_o : Shp := ⟨[(0, (.av (.one (.int .u8))))], []⟩
noncomputable def granaryref02_power_g (N : Nat) : GS := { ins := ⟨[(0, (.av (.one (.int .u8)))), (1, (.av (.one (.int .i64))))], []⟩, lend := [.keep, .keep], outs := ssOf granaryref02_power_o, its := [.int, .int], ots := [.int], F := granaryref02_power N }
theorem granaryref02_power_t (N : Nat) : TabC Try.prog (granaryref02_power_C N) := tab_ok ⟨⟨granaryref02_Mul_ok N, trivial⟩, trivial⟩
theorem granaryref02_power_i0 : loopsOf granaryref02_power_c0 = [] := by kernel_rfl
theorem granaryref02_power_e0 (N : Nat) (next) (x) : granaryref02_power_b0 N next x = loopStep Γ (granaryref02_power_C N) (granaryref02_power_J N) 0 16 granaryref02_power_d0 granaryref02_power_c0 next x := by kernel_rfl
theorem granaryref02_power_k0 (N : Nat) : LoopOK Try.prog 16 granaryref02_power_c0 ⟨granaryref02_power_d0, loopF (granaryref02_power_b0 N) N⟩ := loop_ok tabOK (granaryref02_power_t N) mixedOK (J := granaryref02_power_J N) (cx := 0) (body := granaryref02_power_c0) (nt := 16) (l := granaryref02_power_d0) (b := granaryref02_power_b0 N) (jok_from granaryref02_power_i0 ⟨trivial, trivial⟩) (granaryref02_power_e0 N) N
theorem granaryref02_power_i : loopsOf granaryref02_power_c = [(0, granaryref02_power_c0)] := by kernel_rfl
theorem granaryref02_power_e (N : Nat) (x) : (granaryref02_power_g N).F x = fnStep Γ (granaryref02_power_C N) (granaryref02_power_J N) 16 Try.f61.results.toList (granaryref02_power_g N) granaryref02_power_o granaryref02_power_c x := by kernel_rfl
theorem granaryref02_power_y : Try.f61.body = some granaryref02_power_c := by kernel_rfl
theorem granaryref02_power_n : (Try.f61.name == "runtime.NumGoroutine") = false := by kernel_rfl
theorem granaryref02_power_ok (N : Nat) : FnDoes Try.prog 61 (granaryref02_power_g N) := fn_ok tabOK (granaryref02_power_t N) mixedOK (J := granaryref02_power_J N) (body := granaryref02_power_c) Try.func61 granaryref02_power_y granaryref02_power_n Try.ntmps61 (jok_from granaryref02_power_i ⟨⟨.inr ⟨_, rfl, granaryref02_power_k0 N⟩, trivial⟩, trivial⟩) rfl (le_of_ble rfl) (le_of_ble rfl) (granaryref02_power_e N)
noncomputable def granaryref02_Pow_c : Code := codeOf Try.f29.body
noncomputable def granaryref02_Pow_J (N : Nat) : Nat → Hint := fun cx => hintOf cx [(0, { reg := fun k => assoc0 k [], cnd := fun k => assoc0 k [(13, ⟨[], [], [(.normal, ⟨[(5, (.av (.one (.int .i64))))], []⟩)], [[.int]]⟩)], loop := fun k => assoc0 k [], nil := fun k => assoc0 k [], unr := fun k => assocN k [], blk := fun k => assoc0 k [] })]
noncomputable def granaryref02_Pow_C (N : Nat) : Nat → List GS := fun k => tabOf k [(61, [granaryref02_power_g N])]
def granaryref02_Pow_o : Shp := ⟨[(0, (.av (.one (.int .u8))))], []⟩
noncomputable def granaryref02_Pow_g (N : Nat) : GS := { ins := ⟨[(0, (.av (.one (.int .u8)))), (1, (.av (.one (.int .i64))))], []⟩, lend := [.keep, .keep], outs := ssOf granaryref02_Pow_o, its := [.int, .int], ots := [.int], F := granaryref02_Pow N }
theorem granaryref02_Pow_t (N : Nat) : TabC Try.prog (granaryref02_Pow_C N) := tab_ok ⟨⟨granaryref02_power_ok N, trivial⟩, trivial⟩
theorem granaryref02_Pow_i : loopsOf granaryref02_Pow_c = [] := by kernel_rfl
theorem granaryref02_Pow_e (N : Nat) (x) : (granaryref02_Pow_g N).F x = fnStep Γ (granaryref02_Pow_C N) (granaryref02_Pow_J N) 19 Try.f29.results.toList (granaryref02_Pow_g N) granaryref02_Pow_o granaryref02_Pow_c x := by kernel_rfl
theorem granaryref02_Pow_y : Try.f29.body = some granaryref02_Pow_c := by kernel_rfl
theorem granaryref02_Pow_n : (Try.f29.name == "runtime.NumGoroutine") = false := by kernel_rfl
theorem granaryref02_Pow_ok (N : Nat) : FnDoes Try.prog 29 (granaryref02_Pow_g N) := fn_ok tabOK (granaryref02_Pow_t N) mixedOK (J := granaryref02_Pow_J N) (body := granaryref02_Pow_c) Try.func29 granaryref02_Pow_y granaryref02_Pow_n Try.ntmps29 (jok_from granaryref02_Pow_i ⟨trivial, trivial⟩) rfl (le_of_ble rfl) (le_of_ble rfl) (granaryref02_Pow_e N)
noncomputable def granaryref02_Powers_c : Code := codeOf Try.f20.body
noncomputable def granaryref02_Powers_c0 : Code := codeOf (getLoop 0 granaryref02_Powers_c)
noncomputable def granaryref02_Powers_c2 : Code := codeOf (getLoop 2 granaryref02_Powers_c)
def granaryref02_Powers_d2 : LD := { ins := ⟨[(0, (.av (.one (.int .i64)))), (1, (.av (.one (.int .i64)))), (4, (.av (.one (.const (.ptr ⟨0, 0, 0, 0⟩))))), (6, (.av (.one (.const (.ptr ⟨4, 0, 0, 0⟩))))), (7, (.av (.one (.int .i64)))), (8, (.av (.one (.int .i64))))], [(.keep, false), (.keep, false), (.keep, false), (.sh (.arr (.int .u8) none), false), (.sh (.one (.int .i64)), true), (.sh (.one (.int .i64)), true), (.sh (.one (.const (.slw 3 1))), false)]⟩, mov := [], wr := [3, 4, 5, 6], outs := [(.exit 2, ⟨[], [(.keep, false), (.keep, false), (.keep, false), (.sh (.arr (.int .u8) none), false), (.sh (.one (.int .i64)), true), (.sh (.one (.int .i64)), true), (.sh (.one (.const (.slw 3 1))), false)]⟩)], its := [.int, .int, .int, .int, .lst (.int .u8), .int, .int], ots := [[.lst (.int .u8), .int, .int]] }
def granaryref02_Powers_d0 : LD := { ins := ⟨[(0, (.av (.one (.int .i64)))), (1, (.av (.one (.int .i64)))), (4, (.av (.one (.const (.ptr ⟨0, 0, 0, 0⟩))))), (6, (.av (.one (.const (.ptr ⟨4, 0, 0, 0⟩))))), (7, (.av (.one (.int .i64))))], [(.keep, false), (.keep, false), (.keep, false), (.sh (.arr (.int .u8) none), false), (.sh (.one (.int .i64)), true), (.sh (.one (.int .i64)), true), (.sh (.one (.const (.slw 3 1))), false)]⟩, mov := [], wr := [3, 4, 5, 6], outs := [(.exit 0, ⟨[], [(.keep, false), (.keep, false), (.keep, false), (.sh (.arr (.int .u8) none), false), (.sh (.one (.int .i64)), true), (.sh (.one (.int .i64)), true), (.sh (.one (.const (.slw 3 1))), false)]⟩)], its := [.int, .int, .int, .lst (.int .u8), .int, .int], ots := [[.lst (.int .u8), .int, .int]] }
noncomputable def granaryref02_Powers_J (N : Nat) : Nat → Hint := fun cx => hintOf cx [(0, { reg := fun k => assoc0 k [(1, ⟨⟨[(22, (.av (.one .bool)))], [(.keep, true), (.keep, true), (.keep, false)]⟩, [], [], [.bool]⟩)], cnd := fun k => assoc0 k [], loop := fun k => assoc0 k [(2, ⟨granaryref02_Powers_d2, loopF (granaryref02_Powers_b2 N) N⟩), (0, ⟨granaryref02_Powers_d0, loopF (granaryref02_Powers_b0 N) N⟩)], nil := fun k => assoc0 k [], unr := fun k => assocN k [], blk := fun k => assoc0 k [] })]
noncomputable def granaryref02_Powers_C (N : Nat) : Nat → List GS := fun k => tabOf k [(60, [granaryref02_New_g N]), (29, [granaryref02_Pow_g N])]
def granaryref02_Powers_o : Shp := ⟨[(0, (.tup [(.agg [(.one (.int .i64)), (.one (.int .i64)), (.one (.const (.slw 0 1)))]), (.one (.int .i64))]))], [(.sh (.arr (.int .u8) none), false)]⟩
noncomputable def granaryref02_Powers_g (N : Nat) : GS := { ins := ⟨[(0, (.av (.one (.int .i64)))), (1, (.av (.one (.int .i64))))], []⟩, lend := [.keep, .keep], outs := ssOf granaryref02_Powers_o, its := [.int, .int], ots := [.int, .int, .int, .lst (.int .u8)], F := granaryref02_Powers N }
theorem granaryref02_Powers_t (N : Nat) : TabC Try.prog (granaryref02_Powers_C N) := tab_ok ⟨⟨granaryref02_New_ok N, trivial⟩, ⟨granaryref02_Pow_ok N, trivial⟩, trivial⟩
theorem granaryref02_Powers_i2 : loopsOf granaryref02_Powers_c2 = [] := by kernel_rfl
theorem granaryref02_Powers_e2 (N : Nat) (next) (x) : granaryref02_Powers_b2 N next x = loopStep Γ (granaryref02_Powers_C N) (granaryref02_Powers_J N) 0 50 granaryref02_Powers_d2 granaryref02_Powers_c2 next x := by kernel_rfl
theorem granaryref02_Powers_k2 (N : Nat) : LoopOK Try.prog 50 granaryref02_Powers_c2 ⟨granaryref02_Powers_d2, loopF (granaryref02_Powers_b2 N) N⟩ := loop_ok tabOK (granaryref02_Powers_t N) mixedOK (J := granaryref02_Powers_J N) (cx := 0) (body := granaryref02_Powers_c2) (nt := 50) (l := granaryref02_Powers_d2) (b := granaryref02_Powers_b2 N) (jok_from granaryref02_Powers_i2 ⟨trivial, trivial⟩) (granaryref02_Powers_e2 N) N
theorem granaryref02_Powers_i0 : loopsOf granaryref02_Powers_c0 = [(2, granaryref02_Powers_c2)] := by kernel_rfl
theorem granaryref02_Powers_e0 (N : Nat) (next) (x) : granaryref02_Powers_b0 N next x = loopStep Γ (granaryref02_Powers_C N) (granaryref02_Powers_J N) 0 50 granaryref02_Powers_d0 granaryref02_Powers_c0 next x := by kernel_rfl
theorem granaryref02_Powers_k0 (N : Nat) : LoopOK Try.prog 50 granaryref02_Powers_c0 ⟨granaryref02_Powers_d0, loopF (granaryref02_Powers_b0 N) N⟩ := loop_ok tabOK (granaryref02_Powers_t N) mixedOK (J := granaryref02_Powers_J N) (cx := 0) (body := granaryref02_Powers_c0) (nt := 50) (l := granaryref02_Powers_d0) (b := granaryref02_Powers_b0 N) (jok_from granaryref02_Powers_i0 ⟨⟨.inr ⟨_, rfl, granaryref02_Powers_k2 N⟩, trivial⟩, trivial⟩) (granaryref02_Powers_e0 N) N
theorem granaryref02_Powers_i : loopsOf granaryref02_Powers_c = [(0, granaryref02_Powers_c0), (2, granaryref02_Powers_c2)] := by kernel_rfl
theorem granaryref02_Powers_e (N : Nat) (x) : (granaryref02_Powers_g N).F x = fnStep Γ (granaryref02_Powers_C N) (granaryref02_Powers_J N) 50 Try.f20.results.toList (granaryref02_Powers_g N) granaryref02_Powers_o granaryref02_Powers_c x := by kernel_rfl
theorem granaryref02_Powers_y : Try.f20.body = some granaryref02_Powers_c := by kernel_rfl
theorem granaryref02_Powers_n : (Try.f20.name == "runtime.NumGoroutine") = false := by kernel_rfl
theorem granaryref02_Powers_ok (N : Nat) : FnDoes Try.prog 20 (granaryref02_Powers_g N) := fn_ok tabOK (granaryref02_Powers_t N) mixedOK (J := granaryref02_Powers_J N) (body := granaryref02_Powers_c) Try.func20 granaryref02_Powers_y granaryref02_Powers_n Try.ntmps20 (jok_from granaryref02_Powers_i ⟨⟨.inr ⟨_, rfl, granaryref02_Powers_k0 N⟩, .inr ⟨_, rfl, granaryref02_Powers_k2 N⟩, trivial⟩, trivial⟩) rfl (le_of_ble rfl) (le_of_ble rfl) (granaryref02_Powers_e N)
noncomputable def granaryref02_Same_v1_c : Code := codeOf Try.f38.body
noncomputable def granaryref02_Same_v1_J (N : Nat) : Nat → Hint := fun cx => hintOf cx [(0, { reg := fun k => assoc0 k [(1, ⟨⟨[(4, (.av (.one .bool)))], [(.keep, true), (.keep, true), (.keep, false), (.keep, true), (.keep, true), (.keep, false)]⟩, [], [], [.bool]⟩)], cnd := fun k => assoc0 k [], loop := fun k => assoc0 k [], nil := fun k => assoc0 k [], unr := fun k => assocN k [], blk := fun k => assoc0 k [] })]
noncomputable def granaryref02_Same_v1_C (N : Nat) : Nat → List GS := fun k => tabOf k []
def granaryref02_Same_v1_o : Shp := ⟨[(0, (.av (.one .bool)))], []⟩
noncomputable def granaryref02_Same_v1_g (N : Nat) : GS := { ins := ⟨[(0, (.av (.agg [(.one (.int .i64)), (.one (.int .i64)), (.one (.rsl (.int .u8)))]))), (1, (.av (.agg [(.one (.int .i64)), (.one (.int .i64)), (.one (.rsl (.int .u8)))])))], []⟩, lend := [.keep, .keep], outs := ssOf granaryref02_Same_v1_o, its := [.int, .int, .lst (.int .u8), .int, .int, .lst (.int .u8)], ots := [.bool], F := granaryref02_Same_v1 }
theorem granaryref02_Same_v1_t (N : Nat) : TabC Try.prog (granaryref02_Same_v1_C N) := tab_ok trivial
theorem granaryref02_Same_v1_i : loopsOf granaryref02_Same_v1_c = [] := by kernel_rfl
theorem granaryref02_Same_v1_e (N : Nat) (x) : (granaryref02_Same_v1_g N).F x = fnStep Γ (granaryref02_Same_v1_C N) (granaryref02_Same_v1_J N) 26 Try.f38.results.toList (granaryref02_Same_v1_g N) granaryref02_Same_v1_o granaryref02_Same_v1_c x := by kernel_rfl
theorem granaryref02_Same_v1_y : Try.f38.body = some granaryref02_Same_v1_c := by kernel_rfl
theorem granaryref02_Same_v1_n : (Try.f38.name == "runtime.NumGoroutine") = false := by kernel_rfl
theorem granaryref02_Same_v1_ok (N : Nat) : FnDoes Try.prog 38 (granaryref02_Same_v1_g N) := fn_ok tabOK (granaryref02_Same_v1_t N) mixedOK (J := granaryref02_Same_v1_J N) (body := granaryref02_Same_v1_c) Try.func38 granaryref02_Same_v1_y granaryref02_Same_v1_n Try.ntmps38 (jok_from granaryref02_Same_v1_i ⟨trivial, trivial⟩) rfl (le_of_ble rfl) (le_of_ble rfl) (granaryref02_Same_v1_e N)
noncomputable def granarylaw02_same_c : Code := codeOf Try.f21.body
noncomputable def granarylaw02_same_J (N : Nat) : Nat → Hint := fun cx => hintOf cx [(0, { reg := fun k => assoc0 k [(1, ⟨⟨[(8, (.av (.one .bool)))], [(.keep, true), (.keep, true), (.keep, false), (.keep, true), (.keep, true), (.keep, false)]⟩, [], [], [.bool]⟩)], cnd := fun k => assoc0 k [], loop := fun k => assoc0 k [], nil := fun k => assoc0 k [], unr := fun k => assocN k [], blk := fun k => assoc0 k [] })]
noncomputable def granarylaw02_same_C (N : Nat) : Nat → List GS := fun k => tabOf k [(38, [granaryref02_Same_v1_g N]), (15, [granarylaw02_num_g N])]
def granarylaw02_same_o : Shp := ⟨[(0, (.av (.one .bool)))], []⟩
noncomputable def granarylaw02_same_g (N : Nat) : GS := { ins := ⟨[(0, (.av (.agg [(.one (.int .i64)), (.one (.int .i64)), (.one (.rsl (.int .u8)))]))), (1, (.av (.one (.int .i64)))), (2, (.av (.agg [(.one (.int .i64)), (.one (.int .i64)), (.one (.rsl (.int .u8)))]))), (3, (.av (.one (.int .i64))))], []⟩, lend := [.agg [none, none, some (.int .u8)], .keep, .agg [none, none, some (.int .u8)], .keep], outs := ssOf granarylaw02_same_o, its := [.int, .int, .lst (.int .u8), .int, .int, .int, .lst (.int .u8), .int], ots := [.bool], F := granarylaw02_same }
theorem granarylaw02_same_t (N : Nat) : TabC Try.prog (granarylaw02_same_C N) := tab_ok ⟨⟨granaryref02_Same_v1_ok N, trivial⟩, ⟨granarylaw02_num_ok N, trivial⟩, trivial⟩
theorem granarylaw02_same_i : loopsOf granarylaw02_same_c = [] := by kernel_rfl
theorem granarylaw02_same_e (N : Nat) (x) : (granarylaw02_same_g N).F x = fnStep Γ (granarylaw02_same_C N) (granarylaw02_same_J N) 18 Try.f21.results.toList (granarylaw02_same_g N) granarylaw02_same_o granarylaw02_same_c x := by kernel_rfl
theorem granarylaw02_same_y : Try.f21.body = some granarylaw02_same_c := by kernel_rfl
theorem granarylaw02_same_n : (Try.f21.name == "runtime.NumGoroutine") = false := by kernel_rfl
theorem granarylaw02_same_ok (N : Nat) : FnDoes Try.prog 21 (granarylaw02_same_g N) := fn_ok tabOK (granarylaw02_same_t N) mixedOK (J := granarylaw02_same_J N) (body := granarylaw02_same_c) Try.func21 granarylaw02_same_y granarylaw02_same_n Try.ntmps21 (jok_from granarylaw02_same_i ⟨trivial, trivial⟩) rfl (le_of_ble rfl) (le_of_ble rfl) (granarylaw02_same_e N)
noncomputable def granaryref02_Inv_c : Code := codeOf Try.f24.body
noncomputable def granaryref02_Inv_J (N : Nat) : Nat → Hint := fun cx => hintOf cx []
noncomputable def granaryref02_Inv_C (N : Nat) : Nat → List GS := fun k => tabOf k [(61, [granaryref02_power_g N])]
def granaryref02_Inv_o : Shp := ⟨[(0, (.tup [(.one (.int .u8)), (.one (.int .i64))]))], []⟩
noncomputable def granaryref02_Inv_g (N : Nat) : GS := { ins := ⟨[(0, (.av (.one (.int .u8))))], []⟩, lend := [.keep], outs := ssOf granaryref02_Inv_o, its := [.int], ots := [.int, .int], F := granaryref02_Inv N }
theorem granaryref02_Inv_t (N : Nat) : TabC Try.prog (granaryref02_Inv_C N) := tab_ok ⟨⟨granaryref02_power_ok N, trivial⟩, trivial⟩
theorem granaryref02_Inv_i : loopsOf granaryref02_Inv_c = [] := by kernel_rfl
theorem granaryref02_Inv_e (N : Nat) (x) : (granaryref02_Inv_g N).F x = fnStep Γ (granaryref02_Inv_C N) (granaryref02_Inv_J N) 8 Try.f24.results.toList (granaryref02_Inv_g N) granaryref02_Inv_o granaryref02_Inv_c x := by kernel_rfl
theorem granaryref02_Inv_y : Try.f24.body = some granaryref02_Inv_c := by kernel_rfl
theorem granaryref02_Inv_n : (Try.f24.name == "runtime.NumGoroutine") = false := by kernel_rfl
theorem granaryref02_Inv_ok (N : Nat) : FnDoes Try.prog 24 (granaryref02_Inv_g N) := fn_ok tabOK (granaryref02_Inv_t N) mixedOK (J := granaryref02_Inv_J N) (body := granaryref02_Inv_c) Try.func24 granaryref02_Inv_y granaryref02_Inv_n Try.ntmps24 (jok_from granaryref02_Inv_i trivial) rfl (le_of_ble rfl) (le_of_ble rfl) (granaryref02_Inv_e N)
noncomputable def granaryref02_Div_c : Code := codeOf Try.f23.body
noncomputable def granaryref02_Div_J (N : Nat) : Nat → Hint := fun cx => hintOf cx []
noncomputable def granaryref02_Div_C (N : Nat) : Nat → List GS := fun k => tabOf k [(24, [granaryref02_Inv_g N]), (27, [granaryref02_Mul_g N])]
def granaryref02_Div_o : Shp := ⟨[(0, (.tup [(.one (.int .u8)), (.one (.int .i64))]))], []⟩
noncomputable def granaryref02_Div_g (N : Nat) : GS := { ins := ⟨[(0, (.av (.one (.int .u8)))), (1, (.av (.one (.int .u8))))], []⟩, lend := [.keep, .keep], outs := ssOf granaryref02_Div_o, its := [.int, .int], ots := [.int, .int], F := granaryref02_Div N }
theorem granaryref02_Div_t (N : Nat) : TabC Try.prog (granaryref02_Div_C N) := tab_ok ⟨⟨granaryref02_Inv_ok N, trivial⟩, ⟨granaryref02_Mul_ok N, trivial⟩, trivial⟩
theorem granaryref02_Div_i : loopsOf granaryref02_Div_c = [] := by kernel_rfl
theorem granaryref02_Div_e (N : Nat) (x) : (granaryref02_Div_g N).F x = fnStep Γ (granaryref02_Div_C N) (granaryref02_Div_J N) 17 Try.f23.results.toList (granaryref02_Div_g N) granaryref02_Div_o granaryref02_Div_c x := by kernel_rfl
theorem granaryref02_Div_y : Try.f23.body = some granaryref02_Div_c := by kernel_rfl
theorem granaryref02_Div_n : (Try.f23.name == "runtime.NumGoroutine") = false := by kernel_rfl
theorem granaryref02_Div_ok (N : Nat) : FnDoes Try.prog 23 (granaryref02_Div_g N) := fn_ok tabOK (granaryref02_Div_t N) mixedOK (J := granaryref02_Div_J N) (body := granaryref02_Div_c) Try.func23 granaryref02_Div_y granaryref02_Div_n Try.ntmps23 (jok_from granaryref02_Div_i trivial) rfl (le_of_ble rfl) (le_of_ble rfl) (granaryref02_Div_e N)
noncomputable def gf_made_c : Code := codeOf Try.f62.body
noncomputable def gf_made_c0 : Code := codeOf (getLoop 0 gf_made_c)
def gf_made_d0 : LD := { ins := ⟨[(1, (.av (.one (.const (.ptr ⟨0, 0, 0, 0⟩))))), (2, (.av (.one (.int .i64)))), (6, (.av (.one (.int .i64))))], [(.sh (.arr (.int .u8) (some 255)), true), (.sh (.arr (.int .i64) (some 256)), false)]⟩, mov := [], wr := [0, 1], outs := [(.exit 0, ⟨[], [(.sh (.arr (.int .u8) (some 255)), true), (.sh (.arr (.int .i64) (some 256)), false)]⟩)], its := [.int, .int, .lst (.int .u8), .lst (.int .i64)], ots := [[.lst (.int .u8), .lst (.int .i64)]] }
noncomputable def gf_made_J (N : Nat) : Nat → Hint := fun cx => hintOf cx [(0, { reg := fun k => assoc0 k [], cnd := fun k => assoc0 k [(25, ⟨[], [], [(.normal, ⟨[(2, (.av (.one (.int .i64))))], [(.keep, true), (.keep, false)]⟩)], [[.int]]⟩)], loop := fun k => assoc0 k [(0, ⟨gf_made_d0, loopF (gf_made_b0 N) N⟩)], nil := fun k => assoc0 k [], unr := fun k => assocN k [], blk := fun k => assoc0 k [] })]
noncomputable def gf_made_C (N : Nat) : Nat → List GS := fun k => tabOf k []
def gf_made_o : Shp := ⟨[(0, (.av (.one (.const (.ptr ⟨0, 0, 0, 0⟩)))))], [(.sh (.arr (.int .u8) (some 255)), true), (.sh (.arr (.int .i64) (some 256)), false)]⟩
noncomputable def gf_made_g (N : Nat) : GS := { ins := ⟨[], []⟩, lend := [], outs := ssOf gf_made_o, its := [], ots := [.lst (.int .u8), .lst (.int .i64)], F := gf_made N }
theorem gf_made_t (N : Nat) : TabC Try.prog (gf_made_C N) := tab_ok trivial
theorem gf_made_i0 : loopsOf gf_made_c0 = [] := by kernel_rfl
theorem gf_made_e0 (N : Nat) (next) (x) : gf_made_b0 N next x = loopStep Γ (gf_made_C N) (gf_made_J N) 0 30 gf_made_d0 gf_made_c0 next x := by kernel_rfl
theorem gf_made_k0 (N : Nat) : LoopOK Try.prog 30 gf_made_c0 ⟨gf_made_d0, loopF (gf_made_b0 N) N⟩ := loop_ok tabOK (gf_made_t N) mixedOK (J := gf_made_J N) (cx := 0) (body := gf_made_c0) (nt := 30) (l := gf_made_d0) (b := gf_made_b0 N) (jok_from gf_made_i0 ⟨trivial, trivial⟩) (gf_made_e0 N) N
theorem gf_made_i : loopsOf gf_made_c = [(0, gf_made_c0)] := by kernel_rfl
theorem gf_made_e (N : Nat) (x) : (gf_made_g N).F x = fnStep Γ (gf_made_C N) (gf_made_J N) 30 Try.f62.results.toList (gf_made_g N) gf_made_o gf_made_c x := by kernel_rfl
theorem gf_made_y : Try.f62.body = some gf_made_c := by kernel_rfl
theorem gf_made_n : (Try.f62.name == "runtime.NumGoroutine") = false := by kernel_rfl
theorem gf_made_ok (N : Nat) : FnDoes Try.prog 62 (gf_made_g N) := fn_ok tabOK (gf_made_t N) mixedOK (J := gf_made_J N) (body := gf_made_c) Try.func62 gf_made_y gf_made_n Try.ntmps62 (jok_from gf_made_i ⟨⟨.inr ⟨_, rfl, gf_made_k0 N⟩, trivial⟩, trivial⟩) rfl (le_of_ble rfl) (le_of_ble rfl) (gf_made_e N)
noncomputable def gf_Log_c : Code := codeOf Try.f25.body
noncomputable def gf_Log_J (N : Nat) : Nat → Hint := fun cx => hintOf cx []
noncomputable def gf_Log_C (N : Nat) : Nat → List GS := fun k => tabOf k [(62, [gf_made_g N])]
def gf_Log_o : Shp := ⟨[(0, (.tup [(.one (.int .i64)), (.one (.int .i64))]))], []⟩
noncomputable def gf_Log_g (N : Nat) : GS := { ins := ⟨[(0, (.av (.one (.int .u8))))], []⟩, lend := [.keep], outs := ssOf gf_Log_o, its := [.int], ots := [.int, .int], F := gf_Log N }
theorem gf_Log_t (N : Nat) : TabC Try.prog (gf_Log_C N) := tab_ok ⟨⟨gf_made_ok N, trivial⟩, trivial⟩
theorem gf_Log_i : loopsOf gf_Log_c = [] := by kernel_rfl
theorem gf_Log_e (N : Nat) (x) : (gf_Log_g N).F x = fnStep Γ (gf_Log_C N) (gf_Log_J N) 12 Try.f25.results.toList (gf_Log_g N) gf_Log_o gf_Log_c x := by kernel_rfl
theorem gf_Log_y : Try.f25.body = some gf_Log_c := by kernel_rfl
theorem gf_Log_n : (Try.f25.name == "runtime.NumGoroutine") = false := by kernel_rfl
theorem gf_Log_ok (N : Nat) : FnDoes Try.prog 25 (gf_Log_g N) := fn_ok tabOK (gf_Log_t N) mixedOK (J := gf_Log_J N) (body := gf_Log_c) Try.func25 gf_Log_y gf_Log_n Try.ntmps25 (jok_from gf_Log_i trivial) rfl (le_of_ble rfl) (le_of_ble rfl) (gf_Log_e N)
noncomputable def granaryref02_Log_c : Code := codeOf Try.f26.body
noncomputable def granaryref02_Log_c0 : Code := codeOf (getLoop 0 granaryref02_Log_c)
def granaryref02_Log_d0 : LD := { ins := ⟨[(0, (.av (.one (.int .u8)))), (4, (.av (.one (.int .i64)))), (5, (.av (.one (.int .u8))))], []⟩, mov := [], wr := [], outs := [(.exit 0, ⟨[(4, (.av (.one (.int .i64))))], []⟩)], its := [.int, .int, .int], ots := [[.int]] }
noncomputable def granaryref02_Log_J (N : Nat) : Nat → Hint := fun cx => hintOf cx [(0, { reg := fun k => assoc0 k [], cnd := fun k => assoc0 k [], loop := fun k => assoc0 k [(0, ⟨granaryref02_Log_d0, loopF (granaryref02_Log_b0 N) N⟩)], nil := fun k => assoc0 k [], unr := fun k => assocN k [], blk := fun k => assoc0 k [] })]
noncomputable def granaryref02_Log_C (N : Nat) : Nat → List GS := fun k => tabOf k [(27, [granaryref02_Mul_g N])]
def granaryref02_Log_o : Shp := ⟨[(0, (.tup [(.one (.int .i64)), (.one (.int .i64))]))], []⟩
noncomputable def granaryref02_Log_g (N : Nat) : GS := { ins := ⟨[(0, (.av (.one (.int .u8))))], []⟩, lend := [.keep], outs := ssOf granaryref02_Log_o, its := [.int], ots := [.int, .int], F := granaryref02_Log N }
theorem granaryref02_Log_t (N : Nat) : TabC Try.prog (granaryref02_Log_C N) := tab_ok ⟨⟨granaryref02_Mul_ok N, trivial⟩, trivial⟩
theorem granaryref02_Log_i0 : loopsOf granaryref02_Log_c0 = [] := by kernel_rfl
theorem granaryref02_Log_e0 (N : Nat) (next) (x) : granaryref02_Log_b0 N next x = loopStep Γ (granaryref02_Log_C N) (granaryref02_Log_J N) 0 16 granaryref02_Log_d0 granaryref02_Log_c0 next x := by kernel_rfl
theorem granaryref02_Log_k0 (N : Nat) : LoopOK Try.prog 16 granaryref02_Log_c0 ⟨granaryref02_Log_d0, loopF (granaryref02_Log_b0 N) N⟩ := loop_ok tabOK (granaryref02_Log_t N) mixedOK (J := granaryref02_Log_J N) (cx := 0) (body := granaryref02_Log_c0) (nt := 16) (l := granaryref02_Log_d0) (b := granaryref02_Log_b0 N) (jok_from granaryref02_Log_i0 ⟨trivial, trivial⟩) (granaryref02_Log_e0 N) N
theorem granaryref02_Log_i : loopsOf granaryref02_Log_c = [(0, granaryref02_Log_c0)] := by kernel_rfl
theorem granaryref02_Log_e (N : Nat) (x) : (granaryref02_Log_g N).F x = fnStep Γ (granaryref02_Log_C N) (granaryref02_Log_J N) 16 Try.f26.results.toList (granaryref02_Log_g N) granaryref02_Log_o granaryref02_Log_c x := by kernel_rfl
theorem granaryref02_Log_y : Try.f26.body = some granaryref02_Log_c := by kernel_rfl
theorem granaryref02_Log_n : (Try.f26.name == "runtime.NumGoroutine") = false := by kernel_rfl
theorem granaryref02_Log_ok (N : Nat) : FnDoes Try.prog 26 (granaryref02_Log_g N) := fn_ok tabOK (granaryref02_Log_t N) mixedOK (J := granaryref02_Log_J N) (body := granaryref02_Log_c) Try.func26 granaryref02_Log_y granaryref02_Log_n Try.ntmps26 (jok_from granaryref02_Log_i ⟨⟨.inr ⟨_, rfl, granaryref02_Log_k0 N⟩, trivial⟩, trivial⟩) rfl (le_of_ble rfl) (le_of_ble rfl) (granaryref02_Log_e N)
noncomputable def gf_Exp_c : Code := codeOf Try.f30.body
noncomputable def gf_Exp_J (N : Nat) : Nat → Hint := fun cx => hintOf cx []
noncomputable def gf_Exp_C (N : Nat) : Nat → List GS := fun k => tabOf k [(28, [gf_Pow_g N])]
def gf_Exp_o : Shp := ⟨[(0, (.av (.one (.int .u8))))], []⟩
noncomputable def gf_Exp_g (N : Nat) : GS := { ins := ⟨[(0, (.av (.one (.int .i64))))], []⟩, lend := [.keep], outs := ssOf gf_Exp_o, its := [.int], ots := [.int], F := gf_Exp N }
theorem gf_Exp_t (N : Nat) : TabC Try.prog (gf_Exp_C N) := tab_ok ⟨⟨gf_Pow_ok N, trivial⟩, trivial⟩
theorem gf_Exp_i : loopsOf gf_Exp_c = [] := by kernel_rfl
theorem gf_Exp_e (N : Nat) (x) : (gf_Exp_g N).F x = fnStep Γ (gf_Exp_C N) (gf_Exp_J N) 5 Try.f30.results.toList (gf_Exp_g N) gf_Exp_o gf_Exp_c x := by kernel_rfl
theorem gf_Exp_y : Try.f30.body = some gf_Exp_c := by kernel_rfl
theorem gf_Exp_n : (Try.f30.name == "runtime.NumGoroutine") = false := by kernel_rfl
theorem gf_Exp_ok (N : Nat) : FnDoes Try.prog 30 (gf_Exp_g N) := fn_ok tabOK (gf_Exp_t N) mixedOK (J := gf_Exp_J N) (body := gf_Exp_c) Try.func30 gf_Exp_y gf_Exp_n Try.ntmps30 (jok_from gf_Exp_i trivial) rfl (le_of_ble rfl) (le_of_ble rfl) (gf_Exp_e N)
noncomputable def granaryref02_Check_c : Code := codeOf Try.f32.body
noncomputable def granaryref02_Check_J (N : Nat) : Nat → Hint := fun cx => hintOf cx [(0, { reg := fun k => assoc0 k [(1, ⟨⟨[(20, (.av (.one .bool)))], [(.keep, true), (.keep, true), (.keep, false)]⟩, [], [], [.bool]⟩)], cnd := fun k => assoc0 k [], loop := fun k => assoc0 k [], nil := fun k => assoc0 k [], unr := fun k => assocN k [], blk := fun k => assoc0 k [] })]
noncomputable def granaryref02_Check_C (N : Nat) : Nat → List GS := fun k => tabOf k []
def granaryref02_Check_o : Shp := ⟨[(0, (.av (.one (.int .i64))))], []⟩
noncomputable def granaryref02_Check_g (N : Nat) : GS := { ins := ⟨[(0, (.av (.agg [(.one (.int .i64)), (.one (.int .i64)), (.one (.rsl (.int .u8)))])))], []⟩, lend := [.keep], outs := ssOf granaryref02_Check_o, its := [.int, .int, .lst (.int .u8)], ots := [.int], F := granaryref02_Check }
theorem granaryref02_Check_t (N : Nat) : TabC Try.prog (granaryref02_Check_C N) := tab_ok trivial
theorem granaryref02_Check_i : loopsOf granaryref02_Check_c = [] := by kernel_rfl
theorem granaryref02_Check_e (N : Nat) (x) : (granaryref02_Check_g N).F x = fnStep Γ (granaryref02_Check_C N) (granaryref02_Check_J N) 30 Try.f32.results.toList (granaryref02_Check_g N) granaryref02_Check_o granaryref02_Check_c x := by kernel_rfl
theorem granaryref02_Check_y : Try.f32.body = some granaryref02_Check_c := by kernel_rfl
theorem granaryref02_Check_n : (Try.f32.name == "runtime.NumGoroutine") = false := by kernel_rfl
theorem granaryref02_Check_ok (N : Nat) : FnDoes Try.prog 32 (granaryref02_Check_g N) := fn_ok tabOK (granaryref02_Check_t N) mixedOK (J := granaryref02_Check_J N) (body := granaryref02_Check_c) Try.func32 granaryref02_Check_y granaryref02_Check_n Try.ntmps32 (jok_from granaryref02_Check_i ⟨trivial, trivial⟩) rfl (le_of_ble rfl) (le_of_ble rfl) (granaryref02_Check_e N)
noncomputable def granarylaw02_wide_c : Code := codeOf Try.f31.body
noncomputable def granarylaw02_wide_J (N : Nat) : Nat → Hint := fun cx => hintOf cx [(0, { reg := fun k => assoc0 k [(1, ⟨⟨[(2, (.av (.one .bool)))], [(.keep, true), (.keep, true), (.keep, false)]⟩, [], [], [.bool]⟩)], cnd := fun k => assoc0 k [], loop := fun k => assoc0 k [], nil := fun k => assoc0 k [], unr := fun k => assocN k [], blk := fun k => assoc0 k [] })]
noncomputable def granarylaw02_wide_C (N : Nat) : Nat → List GS := fun k => tabOf k [(32, [granaryref02_Check_g N])]
def granarylaw02_wide_o : Shp := ⟨[(0, (.av (.one .bool)))], []⟩
noncomputable def granarylaw02_wide_g (N : Nat) : GS := { ins := ⟨[(0, (.av (.agg [(.one (.int .i64)), (.one (.int .i64)), (.one (.rsl (.int .u8)))])))], []⟩, lend := [.keep], outs := ssOf granarylaw02_wide_o, its := [.int, .int, .lst (.int .u8)], ots := [.bool], F := granarylaw02_wide }
theorem granarylaw02_wide_t (N : Nat) : TabC Try.prog (granarylaw02_wide_C N) := tab_ok ⟨⟨granaryref02_Check_ok N, trivial⟩, trivial⟩
theorem granarylaw02_wide_i : loopsOf granarylaw02_wide_c = [] := by kernel_rfl
theorem granarylaw02_wide_e (N : Nat) (x) : (granarylaw02_wide_g N).F x = fnStep Γ (granarylaw02_wide_C N) (granarylaw02_wide_J N) 22 Try.f31.results.toList (granarylaw02_wide_g N) granarylaw02_wide_o granarylaw02_wide_c x := by kernel_rfl
theorem granarylaw02_wide_y : Try.f31.body = some granarylaw02_wide_c := by kernel_rfl
theorem granarylaw02_wide_n : (Try.f31.name == "runtime.NumGoroutine") = false := by kernel_rfl
theorem granarylaw02_wide_ok (N : Nat) : FnDoes Try.prog 31 (granarylaw02_wide_g N) := fn_ok tabOK (granarylaw02_wide_t N) mixedOK (J := granarylaw02_wide_J N) (body := granarylaw02_wide_c) Try.func31 granarylaw02_wide_y granarylaw02_wide_n Try.ntmps31 (jok_from granarylaw02_wide_i ⟨trivial, trivial⟩) rfl (le_of_ble rfl) (le_of_ble rfl) (granarylaw02_wide_e N)
noncomputable def granarylaw02_own_c : Code := codeOf Try.f34.body
noncomputable def granarylaw02_own_J (N : Nat) : Nat → Hint := fun cx => hintOf cx []
noncomputable def granarylaw02_own_C (N : Nat) : Nat → List GS := fun k => tabOf k []
def granarylaw02_own_o : Shp := ⟨[(0, (.av (.agg [(.one (.int .i64)), (.one (.int .i64)), (.one (.const (.slw 0 1)))])))], [(.sh (.arr (.int .u8) none), false)]⟩
noncomputable def granarylaw02_own_g (N : Nat) : GS := { ins := ⟨[(0, (.av (.agg [(.one (.int .i64)), (.one (.int .i64)), (.one (.rsl (.int .u8)))])))], []⟩, lend := [.keep], outs := ssOf granarylaw02_own_o, its := [.int, .int, .lst (.int .u8)], ots := [.int, .int, .lst (.int .u8)], F := granarylaw02_own }
theorem granarylaw02_own_t (N : Nat) : TabC Try.prog (granarylaw02_own_C N) := tab_ok trivial
theorem granarylaw02_own_i : loopsOf granarylaw02_own_c = [] := by kernel_rfl
theorem granarylaw02_own_e (N : Nat) (x) : (granarylaw02_own_g N).F x = fnStep Γ (granarylaw02_own_C N) (granarylaw02_own_J N) 9 Try.f34.results.toList (granarylaw02_own_g N) granarylaw02_own_o granarylaw02_own_c x := by kernel_rfl
theorem granarylaw02_own_y : Try.f34.body = some granarylaw02_own_c := by kernel_rfl
theorem granarylaw02_own_n : (Try.f34.name == "runtime.NumGoroutine") = false := by kernel_rfl
theorem granarylaw02_own_ok (N : Nat) : FnDoes Try.prog 34 (granarylaw02_own_g N) := fn_ok tabOK (granarylaw02_own_t N) mixedOK (J := granarylaw02_own_J N) (body := granarylaw02_own_c) Try.func34 granarylaw02_own_y granarylaw02_own_n Try.ntmps34 (jok_from granarylaw02_own_i trivial) rfl (le_of_ble rfl) (le_of_ble rfl) (granarylaw02_own_e N)
noncomputable def gf_clear2_v1_c : Code := codeOf Try.f63.body
noncomputable def gf_clear2_v1_c0 : Code := codeOf (getLoop 0 gf_clear2_v1_c)
noncomputable def gf_clear2_v1_c2 : Code := codeOf (getLoop 2 gf_clear2_v1_c)
noncomputable def gf_clear2_v1_c6 : Code := codeOf (getLoop 6 gf_clear2_v1_c)
noncomputable def gf_clear2_v1_c8 : Code := codeOf (getLoop 8 gf_clear2_v1_c)
def gf_clear2_v1_d2 : LD := { ins := ⟨[(2, (.av (.one (.const (.ptr ⟨1, 0, 0, 0⟩))))), (3, (.av (.one (.const (.ptr ⟨4, 0, 0, 0⟩))))), (5, (.av (.one (.int .i64)))), (6, (.av (.one (.int .i64)))), (7, (.av (.one (.int .i64)))), (18, (.av (.one (.int .i64)))), (19, (.av (.one (.int .i64))))], [(.sh (.arr (.int .u8) none), false), (.sh (.one (.int .i64)), true), (.sh (.one (.int .i64)), true), (.sh (.one (.const (.slw 0 1))), false), (.keep, false), (.keep, false), (.keep, false)]⟩, mov := [], wr := [0, 1, 2, 3], outs := [(.exit 2, ⟨[(7, (.av (.one (.int .i64))))], [(.sh (.arr (.int .u8) none), false), (.sh (.one (.int .i64)), true), (.sh (.one (.int .i64)), true), (.sh (.one (.const (.slw 0 1))), false), (.keep, false), (.keep, false), (.keep, false)]⟩)], its := [.int, .int, .int, .int, .int, .lst (.int .u8), .int, .int], ots := [[.int, .lst (.int .u8), .int, .int]] }
def gf_clear2_v1_d6_1 : LD := { ins := ⟨[(2, (.av (.one (.const (.ptr ⟨1, 0, 0, 0⟩))))), (3, (.av (.one (.const (.ptr ⟨4, 0, 0, 0⟩))))), (5, (.av (.one (.int .i64)))), (6, (.av (.one (.int .i64)))), (7, (.av (.one (.int .i64)))), (8, (.av (.one (.int .u8)))), (12, (.av (.one (.sl 0 1)))), (13, (.av (.one (.sl 0 1)))), (18, (.av (.one (.int .i64)))), (19, (.av (.one (.int .i64)))), (54, (.av (.one (.sl 7 3)))), (55, (.av (.one (.const (.int .i64 (2 : Int)))))), (56, (.av (.one (.const (.int .i64 (0 : Int)))))), (70, (.av (.one (.int .i64)))), (71, (.av (.one (.int .i64))))], [(.sh (.arr (.int .u8) none), false), (.keep, false), (.keep, false), (.keep, false), (.keep, false), (.keep, false), (.keep, false), (.keep, false), (.keep, false), (.keep, false), (.keep, false)]⟩, mov := [], wr := [0], outs := [(.exit 6, ⟨[], [(.sh (.arr (.int .u8) none), false), (.keep, false), (.keep, false), (.keep, false), (.keep, false), (.keep, false), (.keep, false), (.keep, false), (.keep, false), (.keep, false), (.keep, false)]⟩)], its := [.int, .int, .int, .int, .nat, .nat, .nat, .nat, .int, .int, .nat, .nat, .int, .int, .lst (.int .u8)], ots := [[.lst (.int .u8)]] }
def gf_clear2_v1_d8 : LD := { ins := ⟨[(2, (.av (.one (.const (.ptr ⟨1, 0, 0, 0⟩))))), (3, (.av (.one (.const (.ptr ⟨4, 0, 0, 0⟩))))), (5, (.av (.one (.int .i64)))), (6, (.av (.one (.int .i64)))), (18, (.av (.one (.int .i64)))), (19, (.av (.one (.int .i64)))), (96, (.av (.one (.int .i64)))), (97, (.av (.one (.int .i64))))], [(.sh (.arr (.int .u8) none), false), (.sh (.one (.int .i64)), true), (.sh (.one (.int .i64)), true), (.sh (.one (.const (.slw 0 1))), false), (.sh (.one (.const (.int .i64 (0 : Int)))), true), (.keep, false), (.keep, false), (.keep, false), (.keep, false), (.keep, false), (.keep, false)]⟩, mov := [], wr := [0, 1, 2, 3, 4], outs := [(.exit 8, ⟨[], [(.sh (.arr (.int .u8) none), false), (.sh (.one (.int .i64)), true), (.sh (.one (.int .i64)), true), (.sh (.one (.const (.slw 0 1))), false), (.sh (.one (.const (.int .i64 (0 : Int)))), true), (.keep, false), (.keep, false), (.keep, false), (.keep, false), (.keep, false), (.keep, false)]⟩)], its := [.int, .int, .int, .int, .int, .int, .lst (.int .u8), .int, .int], ots := [[.lst (.int .u8), .int, .int]] }
def gf_clear2_v1_d0 : LD := { ins := ⟨[(2, (.av (.one (.const (.ptr ⟨1, 0, 0, 0⟩))))), (3, (.av (.one (.const (.ptr ⟨4, 0, 0, 0⟩))))), (5, (.av (.one (.int .i64)))), (18, (.av (.one (.int .i64)))), (19, (.av (.one (.int .i64))))], [(.sh (.arr (.int .u8) none), false), (.sh (.one (.int .i64)), true), (.sh (.one (.int .i64)), true), (.sh (.one (.const (.slw 0 1))), false), (.sh (.one (.const (.int .i64 (0 : Int)))), true), (.sh (.one (.int .i64)), true), (.sh (.one (.rsl (.int .u8))), false)]⟩, mov := [], wr := [0, 1, 2, 3, 4, 5, 6], outs := [(.exit 0, ⟨[(5, (.av (.one (.int .i64))))], [(.sh (.arr (.int .u8) none), false), (.sh (.one (.int .i64)), true), (.sh (.one (.int .i64)), true), (.sh (.one (.const (.slw 0 1))), false), (.sh (.one (.const (.int .i64 (0 : Int)))), true), (.sh (.one (.int .i64)), true), (.sh (.one (.rsl (.int .u8))), false)]⟩)], its := [.int, .int, .int, .lst (.int .u8), .int, .int, .int, .lst (.int .u8)], ots := [[.int, .lst (.int .u8), .int, .int, .int, .lst (.int .u8)]] }
noncomputable def gf_clear2_v1_J (N : Nat) : Nat → Hint := fun cx => hintOf cx [(0, { reg := fun k => assoc0 k [(6, ⟨⟨[(35, (.av (.one .bool)))], [(.sh (.arr (.int .u8) none), false), (.keep, true), (.keep, true), (.keep, false), (.dead, false), (.dead, false), (.dead, false)]⟩, [], [0], [.bool, .lst (.int .u8)]⟩)], cnd := fun k => assoc0 k [(102, ⟨[], [0], [(.normal, ⟨[], [(.sh (.arr (.int .u8) none), false), (.keep, true), (.keep, true), (.keep, false), (.keep, true), (.dead, false), (.dead, false), (.dead, false), (.dead, false), (.dead, false), (.dead, false)]⟩)], [[.lst (.int .u8)]]⟩)], loop := fun k => assoc0 k [(2, ⟨gf_clear2_v1_d2, loopF (gf_clear2_v1_b2 N) N⟩), (8, ⟨gf_clear2_v1_d8, loopF (gf_clear2_v1_b8 N) N⟩), (0, ⟨gf_clear2_v1_d0, loopF (gf_clear2_v1_b0 N) N⟩)], nil := fun k => assoc0 k [], unr := fun k => assocN k [(4, 3)], blk := fun k => assoc0 k [(1, ⟨[], [0, 1, 2, 3, 4], [(.normal, ⟨[(5, (.av (.one (.int .i64))))], [(.sh (.arr (.int .u8) none), false), (.sh (.one (.int .i64)), true), (.sh (.one (.int .i64)), true), (.sh (.one (.const (.slw 0 1))), false), (.sh (.one (.const (.int .i64 (0 : Int)))), true), (.keep, true), (.keep, false)]⟩)], [[.int, .lst (.int .u8), .int, .int]]⟩)] }),
  (1, { reg := fun k => assoc0 k [], cnd := fun k => assoc0 k [], loop := fun k => assoc0 k [(6, ⟨gf_clear2_v1_d6_1, loopF (gf_clear2_v1_b6_1 N) N⟩)], nil := fun k => assoc0 k [], unr := fun k => assocN k [], blk := fun k => assoc0 k [(5, ⟨[], [0], [(.normal, ⟨[], [(.sh (.arr (.int .u8) none), false), (.keep, true), (.keep, true), (.keep, false), (.keep, true), (.keep, true), (.keep, false), (.keep, false)]⟩)], [[.lst (.int .u8)]]⟩)] })]
noncomputable def gf_clear2_v1_C (N : Nat) : Nat → List GS := fun k => tabOf k [(59, [gf_row_g N]), (14, [gf_Inv_g N]), (45, [gf_Scale_g N]), (66, [gf_add_g N])]
def gf_clear2_v1_o : Shp := ⟨[(0, (.av (.one (.int .i64))))], [(.sh (.arr (.int .u8) none), false)]⟩
noncomputable def gf_clear2_v1_g (N : Nat) : GS := { ins := ⟨[(0, (.av (.agg [(.one (.int .i64)), (.one (.int .i64)), (.one (.const (.slw 0 1)))]))), (1, (.av (.agg [(.one (.const (.int .i64 (0 : Int)))), (.one (.int .i64)), (.one (.rsl (.int .u8)))])))], [(some (.arr (.int .u8) none), false)]⟩, lend := [.keep, .keep], outs := ssOf gf_clear2_v1_o, its := [.int, .int, .int, .lst (.int .u8), .lst (.int .u8)], ots := [.int, .lst (.int .u8)], F := gf_clear2_v1 N }
theorem gf_clear2_v1_t (N : Nat) : TabC Try.prog (gf_clear2_v1_C N) := tab_ok ⟨⟨gf_row_ok N, trivial⟩, ⟨gf_Inv_ok N, trivial⟩, ⟨gf_Scale_ok N, trivial⟩, ⟨gf_add_ok N, trivial⟩, trivial⟩
theorem gf_clear2_v1_i6 : loopsOf gf_clear2_v1_c6 = [] := by kernel_rfl
theorem gf_clear2_v1_e6_1 (N : Nat) (next) (x) : gf_clear2_v1_b6_1 N next x = loopStep Γ (gf_clear2_v1_C N) (gf_clear2_v1_J N) 1 133 gf_clear2_v1_d6_1 gf_clear2_v1_c6 next x := by kernel_rfl
theorem gf_clear2_v1_k6_1 (N : Nat) : LoopOK Try.prog 133 gf_clear2_v1_c6 ⟨gf_clear2_v1_d6_1, loopF (gf_clear2_v1_b6_1 N) N⟩ := loop_ok tabOK (gf_clear2_v1_t N) mixedOK (J := gf_clear2_v1_J N) (cx := 1) (body := gf_clear2_v1_c6) (nt := 133) (l := gf_clear2_v1_d6_1) (b := gf_clear2_v1_b6_1 N) (jok_from gf_clear2_v1_i6 ⟨trivial, trivial, trivial⟩) (gf_clear2_v1_e6_1 N) N
theorem gf_clear2_v1_i2 : loopsOf gf_clear2_v1_c2 = [] := by kernel_rfl
theorem gf_clear2_v1_e2 (N : Nat) (next) (x) : gf_clear2_v1_b2 N next x = loopStep Γ (gf_clear2_v1_C N) (gf_clear2_v1_J N) 0 133 gf_clear2_v1_d2 gf_clear2_v1_c2 next x := by kernel_rfl
theorem gf_clear2_v1_k2 (N : Nat) : LoopOK Try.prog 133 gf_clear2_v1_c2 ⟨gf_clear2_v1_d2, loopF (gf_clear2_v1_b2 N) N⟩ := loop_ok tabOK (gf_clear2_v1_t N) mixedOK (J := gf_clear2_v1_J N) (cx := 0) (body := gf_clear2_v1_c2) (nt := 133) (l := gf_clear2_v1_d2) (b := gf_clear2_v1_b2 N) (jok_from gf_clear2_v1_i2 ⟨trivial, trivial, trivial⟩) (gf_clear2_v1_e2 N) N
theorem gf_clear2_v1_i8 : loopsOf gf_clear2_v1_c8 = [] := by kernel_rfl
theorem gf_clear2_v1_e8 (N : Nat) (next) (x) : gf_clear2_v1_b8 N next x = loopStep Γ (gf_clear2_v1_C N) (gf_clear2_v1_J N) 0 133 gf_clear2_v1_d8 gf_clear2_v1_c8 next x := by kernel_rfl
theorem gf_clear2_v1_k8 (N : Nat) : LoopOK Try.prog 133 gf_clear2_v1_c8 ⟨gf_clear2_v1_d8, loopF (gf_clear2_v1_b8 N) N⟩ := loop_ok tabOK (gf_clear2_v1_t N) mixedOK (J := gf_clear2_v1_J N) (cx := 0) (body := gf_clear2_v1_c8) (nt := 133) (l := gf_clear2_v1_d8) (b := gf_clear2_v1_b8 N) (jok_from gf_clear2_v1_i8 ⟨trivial, trivial, trivial⟩) (gf_clear2_v1_e8 N) N
theorem gf_clear2_v1_i0 : loopsOf gf_clear2_v1_c0 = [(2, gf_clear2_v1_c2), (4, codeOf (getLoop 4 gf_clear2_v1_c)), (6, gf_clear2_v1_c6), (8, gf_clear2_v1_c8)] := by kernel_rfl
theorem gf_clear2_v1_e0 (N : Nat) (next) (x) : gf_clear2_v1_b0 N next x = loopStep Γ (gf_clear2_v1_C N) (gf_clear2_v1_J N) 0 133 gf_clear2_v1_d0 gf_clear2_v1_c0 next x := by kernel_rfl
theorem gf_clear2_v1_k0 (N : Nat) : LoopOK Try.prog 133 gf_clear2_v1_c0 ⟨gf_clear2_v1_d0, loopF (gf_clear2_v1_b0 N) N⟩ := loop_ok tabOK (gf_clear2_v1_t N) mixedOK (J := gf_clear2_v1_J N) (cx := 0) (body := gf_clear2_v1_c0) (nt := 133) (l := gf_clear2_v1_d0) (b := gf_clear2_v1_b0 N) (jok_from gf_clear2_v1_i0 ⟨⟨.inr ⟨_, rfl, gf_clear2_v1_k2 N⟩, .inl rfl, .inl rfl, .inr ⟨_, rfl, gf_clear2_v1_k8 N⟩, trivial⟩, ⟨.inl rfl, .inl rfl, .inr ⟨_, rfl, gf_clear2_v1_k6_1 N⟩, .inl rfl, trivial⟩, trivial⟩) (gf_clear2_v1_e0 N) N
theorem gf_clear2_v1_i : loopsOf gf_clear2_v1_c = [(0, gf_clear2_v1_c0), (2, gf_clear2_v1_c2), (4, codeOf (getLoop 4 gf_clear2_v1_c)), (6, gf_clear2_v1_c6), (8, gf_clear2_v1_c8)] := by kernel_rfl
theorem gf_clear2_v1_e (N : Nat) (x) : (gf_clear2_v1_g N).F x = fnStep Γ (gf_clear2_v1_C N) (gf_clear2_v1_J N) 133 Try.f63.results.toList (gf_clear2_v1_g N) gf_clear2_v1_o gf_clear2_v1_c x := by kernel_rfl
theorem gf_clear2_v1_y : Try.f63.body = some gf_clear2_v1_c := by kernel_rfl
theorem gf_clear2_v1_n : (Try.f63.name == "runtime.NumGoroutine") = false := by kernel_rfl
theorem gf_clear2_v1_ok (N : Nat) : FnDoes Try.prog 63 (gf_clear2_v1_g N) := fn_ok tabOK (gf_clear2_v1_t N) mixedOK (J := gf_clear2_v1_J N) (body := gf_clear2_v1_c) Try.func63 gf_clear2_v1_y gf_clear2_v1_n Try.ntmps63 (jok_from gf_clear2_v1_i ⟨⟨.inr ⟨_, rfl, gf_clear2_v1_k0 N⟩, .inr ⟨_, rfl, gf_clear2_v1_k2 N⟩, .inl rfl, .inl rfl, .inr ⟨_, rfl, gf_clear2_v1_k8 N⟩, trivial⟩, ⟨.inl rfl, .inl rfl, .inl rfl, .inr ⟨_, rfl, gf_clear2_v1_k6_1 N⟩, .inl rfl, trivial⟩, trivial⟩) rfl (le_of_ble rfl) (le_of_ble rfl) (gf_clear2_v1_e N)
noncomputable def gf_Rank_c : Code := codeOf Try.f33.body
noncomputable def gf_Rank_J (N : Nat) : Nat → Hint := fun cx => hintOf cx []
noncomputable def gf_Rank_C (N : Nat) : Nat → List GS := fun k => tabOf k [(50, [gf_Check_g N]), (64, [gf_own_g N]), (63, [gf_clear2_v1_g N])]
def gf_Rank_o : Shp := ⟨[(0, (.tup [(.one (.int .i64)), (.one (.int .i64))]))], []⟩
noncomputable def gf_Rank_g (N : Nat) : GS := { ins := ⟨[(0, (.av (.agg [(.one (.int .i64)), (.one (.int .i64)), (.one (.rsl (.int .u8)))])))], []⟩, lend := [.agg [none, none, some (.int .u8)]], outs := ssOf gf_Rank_o, its := [.int, .int, .lst (.int .u8)], ots := [.int, .int], F := gf_Rank N }
theorem gf_Rank_t (N : Nat) : TabC Try.prog (gf_Rank_C N) := tab_ok ⟨⟨gf_Check_ok N, trivial⟩, ⟨gf_own_ok N, trivial⟩, ⟨gf_clear2_v1_ok N, trivial⟩, trivial⟩
theorem gf_Rank_i : loopsOf gf_Rank_c = [] := by kernel_rfl
theorem gf_Rank_e (N : Nat) (x) : (gf_Rank_g N).F x = fnStep Γ (gf_Rank_C N) (gf_Rank_J N) 14 Try.f33.results.toList (gf_Rank_g N) gf_Rank_o gf_Rank_c x := by kernel_rfl
theorem gf_Rank_y : Try.f33.body = some gf_Rank_c := by kernel_rfl
theorem gf_Rank_n : (Try.f33.name == "runtime.NumGoroutine") = false := by kernel_rfl
theorem gf_Rank_ok (N : Nat) : FnDoes Try.prog 33 (gf_Rank_g N) := fn_ok tabOK (gf_Rank_t N) mixedOK (J := gf_Rank_J N) (body := gf_Rank_c) Try.func33 gf_Rank_y gf_Rank_n Try.ntmps33 (jok_from gf_Rank_i trivial) rfl (le_of_ble rfl) (le_of_ble rfl) (gf_Rank_e N)
noncomputable def gf_row_v1_c : Code := codeOf Try.f59.body
noncomputable def gf_row_v1_J (N : Nat) : Nat → Hint := fun cx => hintOf cx []
noncomputable def gf_row_v1_C (N : Nat) : Nat → List GS := fun k => tabOf k []
def gf_row_v1_o : Shp := ⟨[(0, (.av (.one (.rsl (.int .u8)))))], []⟩
noncomputable def gf_row_v1_g (N : Nat) : GS := { ins := ⟨[(0, (.av (.agg [(.one (.int .i64)), (.one (.int .i64)), (.one (.rsl (.int .u8)))]))), (1, (.av (.one (.int .i64))))], []⟩, lend := [.keep, .keep], outs := ssOf gf_row_v1_o, its := [.int, .int, .lst (.int .u8), .int], ots := [.lst (.int .u8)], F := gf_row_v1 }
theorem gf_row_v1_t (N : Nat) : TabC Try.prog (gf_row_v1_C N) := tab_ok trivial
theorem gf_row_v1_i : loopsOf gf_row_v1_c = [] := by kernel_rfl
theorem gf_row_v1_e (N : Nat) (x) : (gf_row_v1_g N).F x = fnStep Γ (gf_row_v1_C N) (gf_row_v1_J N) 22 Try.f59.results.toList (gf_row_v1_g N) gf_row_v1_o gf_row_v1_c x := by kernel_rfl
theorem gf_row_v1_y : Try.f59.body = some gf_row_v1_c := by kernel_rfl
theorem gf_row_v1_n : (Try.f59.name == "runtime.NumGoroutine") = false := by kernel_rfl
theorem gf_row_v1_ok (N : Nat) : FnDoes Try.prog 59 (gf_row_v1_g N) := fn_ok tabOK (gf_row_v1_t N) mixedOK (J := gf_row_v1_J N) (body := gf_row_v1_c) Try.func59 gf_row_v1_y gf_row_v1_n Try.ntmps59 (jok_from gf_row_v1_i trivial) rfl (le_of_ble rfl) (le_of_ble rfl) (gf_row_v1_e N)
noncomputable def gf_Turn_c : Code := codeOf Try.f35.body
noncomputable def gf_Turn_c0 : Code := codeOf (getLoop 0 gf_Turn_c)
noncomputable def gf_Turn_c2 : Code := codeOf (getLoop 2 gf_Turn_c)
def gf_Turn_d2 : LD := { ins := ⟨[(1, (.av (.one (.const (.ptr ⟨0, 0, 0, 0⟩))))), (2, (.av (.one (.const (.ptr ⟨3, 0, 0, 0⟩))))), (5, (.av (.one (.const (.ptr ⟨7, 0, 0, 0⟩))))), (6, (.av (.one (.int .i64)))), (21, (.av (.one (.int .i64)))), (22, (.av (.one (.int .i64)))), (27, (.av (.one (.rsl (.int .u8))))), (28, (.av (.one (.int .i64)))), (29, (.av (.one (.int .i64))))], [(.keep, false), (.keep, false), (.keep, false), (.keep, false), (.keep, false), (.keep, false), (.sh (.arr (.int .u8) none), false), (.sh (.one (.int .i64)), true), (.sh (.one (.int .i64)), true), (.sh (.one (.const (.slw 6 1))), false)]⟩, mov := [], wr := [6, 7, 8, 9], outs := [(.exit 2, ⟨[], [(.keep, false), (.keep, false), (.keep, false), (.keep, false), (.keep, false), (.keep, false), (.sh (.arr (.int .u8) none), false), (.sh (.one (.int .i64)), true), (.sh (.one (.int .i64)), true), (.sh (.one (.const (.slw 6 1))), false)]⟩)], its := [.int, .int, .int, .lst (.int .u8), .int, .int, .lst (.int .u8), .int, .int], ots := [[.lst (.int .u8), .int, .int]] }
def gf_Turn_d0 : LD := { ins := ⟨[(1, (.av (.one (.const (.ptr ⟨0, 0, 0, 0⟩))))), (2, (.av (.one (.const (.ptr ⟨3, 0, 0, 0⟩))))), (5, (.av (.one (.const (.ptr ⟨7, 0, 0, 0⟩))))), (21, (.av (.one (.int .i64)))), (22, (.av (.one (.int .i64))))], [(.sh (.one (.int .i64)), true), (.sh (.one (.int .i64)), true), (.sh (.one (.rsl (.int .u8))), false), (.keep, false), (.keep, false), (.keep, false), (.sh (.arr (.int .u8) none), false), (.sh (.one (.int .i64)), true), (.sh (.one (.int .i64)), true), (.sh (.one (.const (.slw 6 1))), false)]⟩, mov := [], wr := [0, 1, 2, 6, 7, 8, 9], outs := [(.exit 0, ⟨[], [(.sh (.one (.int .i64)), true), (.sh (.one (.int .i64)), true), (.sh (.one (.rsl (.int .u8))), false), (.keep, false), (.keep, false), (.keep, false), (.sh (.arr (.int .u8) none), false), (.sh (.one (.int .i64)), true), (.sh (.one (.int .i64)), true), (.sh (.one (.const (.slw 6 1))), false)]⟩)], its := [.int, .int, .int, .int, .lst (.int .u8), .lst (.int .u8), .int, .int], ots := [[.int, .int, .lst (.int .u8), .lst (.int .u8), .int, .int]] }
noncomputable def gf_Turn_J (N : Nat) : Nat → Hint := fun cx => hintOf cx [(0, { reg := fun k => assoc0 k [], cnd := fun k => assoc0 k [], loop := fun k => assoc0 k [(2, ⟨gf_Turn_d2, loopF (gf_Turn_b2 N) N⟩), (0, ⟨gf_Turn_d0, loopF (gf_Turn_b0 N) N⟩)], nil := fun k => assoc0 k [], unr := fun k => assocN k [], blk := fun k => assoc0 k [] })]
noncomputable def gf_Turn_C (N : Nat) : Nat → List GS := fun k => tabOf k [(50, [gf_Check_g N]), (58, [gf_zeros_g N]), (59, [gf_row_g N, gf_row_v1_g N])]
def gf_Turn_o : Shp := ⟨[(0, (.tup [(.agg [(.one (.int .i64)), (.one (.int .i64)), (.one (.const (.slw 0 1)))]), (.one (.int .i64))]))], [(.sh (.arr (.int .u8) none), false)]⟩
noncomputable def gf_Turn_g (N : Nat) : GS := { ins := ⟨[(0, (.av (.agg [(.one (.int .i64)), (.one (.int .i64)), (.one (.rsl (.int .u8)))])))], []⟩, lend := [.agg [none, none, some (.int .u8)]], outs := ssOf gf_Turn_o, its := [.int, .int, .lst (.int .u8)], ots := [.int, .int, .int, .lst (.int .u8)], F := gf_Turn N }
theorem gf_Turn_t (N : Nat) : TabC Try.prog (gf_Turn_C N) := tab_ok ⟨⟨gf_Check_ok N, trivial⟩, ⟨gf_zeros_ok N, trivial⟩, ⟨gf_row_ok N, gf_row_v1_ok N, trivial⟩, trivial⟩
theorem gf_Turn_i2 : loopsOf gf_Turn_c2 = [] := by kernel_rfl
theorem gf_Turn_e2 (N : Nat) (next) (x) : gf_Turn_b2 N next x = loopStep Γ (gf_Turn_C N) (gf_Turn_J N) 0 43 gf_Turn_d2 gf_Turn_c2 next x := by kernel_rfl
theorem gf_Turn_k2 (N : Nat) : LoopOK Try.prog 43 gf_Turn_c2 ⟨gf_Turn_d2, loopF (gf_Turn_b2 N) N⟩ := loop_ok tabOK (gf_Turn_t N) mixedOK (J := gf_Turn_J N) (cx := 0) (body := gf_Turn_c2) (nt := 43) (l := gf_Turn_d2) (b := gf_Turn_b2 N) (jok_from gf_Turn_i2 ⟨trivial, trivial⟩) (gf_Turn_e2 N) N
theorem gf_Turn_i0 : loopsOf gf_Turn_c0 = [(2, gf_Turn_c2)] := by kernel_rfl
theorem gf_Turn_e0 (N : Nat) (next) (x) : gf_Turn_b0 N next x = loopStep Γ (gf_Turn_C N) (gf_Turn_J N) 0 43 gf_Turn_d0 gf_Turn_c0 next x := by kernel_rfl
theorem gf_Turn_k0 (N : Nat) : LoopOK Try.prog 43 gf_Turn_c0 ⟨gf_Turn_d0, loopF (gf_Turn_b0 N) N⟩ := loop_ok tabOK (gf_Turn_t N) mixedOK (J := gf_Turn_J N) (cx := 0) (body := gf_Turn_c0) (nt := 43) (l := gf_Turn_d0) (b := gf_Turn_b0 N) (jok_from gf_Turn_i0 ⟨⟨.inr ⟨_, rfl, gf_Turn_k2 N⟩, trivial⟩, trivial⟩) (gf_Turn_e0 N) N
theorem gf_Turn_i : loopsOf gf_Turn_c = [(0, gf_Turn_c0), (2, gf_Turn_c2)] := by kernel_rfl
theorem gf_Turn_e (N : Nat) (x) : (gf_Turn_g N).F x = fnStep Γ (gf_Turn_C N) (gf_Turn_J N) 43 Try.f35.results.toList (gf_Turn_g N) gf_Turn_o gf_Turn_c x := by kernel_rfl
theorem gf_Turn_y : Try.f35.body = some gf_Turn_c := by kernel_rfl
theorem gf_Turn_n : (Try.f35.name == "runtime.NumGoroutine") = false := by kernel_rfl
theorem gf_Turn_ok (N : Nat) : FnDoes Try.prog 35 (gf_Turn_g N) := fn_ok tabOK (gf_Turn_t N) mixedOK (J := gf_Turn_J N) (body := gf_Turn_c) Try.func35 gf_Turn_y gf_Turn_n Try.ntmps35 (jok_from gf_Turn_i ⟨⟨.inr ⟨_, rfl, gf_Turn_k0 N⟩, .inr ⟨_, rfl, gf_Turn_k2 N⟩, trivial⟩, trivial⟩) rfl (le_of_ble rfl) (le_of_ble rfl) (gf_Turn_e N)
noncomputable def gf_checked_c : Code := codeOf Try.f65.body
noncomputable def gf_checked_c0 : Code := codeOf (getLoop 0 gf_checked_c)
def gf_checked_d0 : LD := { ins := ⟨[(6, (.av (.one (.rsl (.pair (.int .i64) (.pair (.int .i64) (.pair (.sl (.int .u8)) .unit))))))), (7, (.av (.one (.int .i64)))), (8, (.av (.one (.int .i64))))], []⟩, mov := [], wr := [], outs := [(.ret, ⟨[(2, (.av (.one (.int .i64))))], []⟩), (.exit 0, ⟨[], []⟩)], its := [.lst (.pair (.int .i64) (.pair (.int .i64) (.pair (.sl (.int .u8)) .unit))), .int, .int], ots := [[.int], []] }
noncomputable def gf_checked_J (N : Nat) : Nat → Hint := fun cx => hintOf cx [(0, { reg := fun k => assoc0 k [], cnd := fun k => assoc0 k [], loop := fun k => assoc0 k [(0, ⟨gf_checked_d0, loopF (gf_checked_b0 N) N⟩)], nil := fun k => assoc0 k [], unr := fun k => assocN k [], blk := fun k => assoc0 k [] })]
noncomputable def gf_checked_C (N : Nat) : Nat → List GS := fun k => tabOf k [(50, [gf_Check_g N])]
def gf_checked_o : Shp := ⟨[(0, (.av (.one (.int .i64))))], []⟩
noncomputable def gf_checked_g (N : Nat) : GS := { ins := ⟨[(0, (.av (.one (.rsl (.pair (.int .i64) (.pair (.int .i64) (.pair (.sl (.int .u8)) .unit)))))))], []⟩, lend := [.lend (.pair (.int .i64) (.pair (.int .i64) (.pair (.sl (.int .u8)) .unit)))], outs := ssOf gf_checked_o, its := [.lst (.pair (.int .i64) (.pair (.int .i64) (.pair (.sl (.int .u8)) .unit)))], ots := [.int], F := gf_checked N }
theorem gf_checked_t (N : Nat) : TabC Try.prog (gf_checked_C N) := tab_ok ⟨⟨gf_Check_ok N, trivial⟩, trivial⟩
theorem gf_checked_i0 : loopsOf gf_checked_c0 = [] := by kernel_rfl
theorem gf_checked_e0 (N : Nat) (next) (x) : gf_checked_b0 N next x = loopStep Γ (gf_checked_C N) (gf_checked_J N) 0 18 gf_checked_d0 gf_checked_c0 next x := by kernel_rfl
theorem gf_checked_k0 (N : Nat) : LoopOK Try.prog 18 gf_checked_c0 ⟨gf_checked_d0, loopF (gf_checked_b0 N) N⟩ := loop_ok tabOK (gf_checked_t N) mixedOK (J := gf_checked_J N) (cx := 0) (body := gf_checked_c0) (nt := 18) (l := gf_checked_d0) (b := gf_checked_b0 N) (jok_from gf_checked_i0 ⟨trivial, trivial⟩) (gf_checked_e0 N) N
theorem gf_checked_i : loopsOf gf_checked_c = [(0, gf_checked_c0)] := by kernel_rfl
theorem gf_checked_e (N : Nat) (x) : (gf_checked_g N).F x = fnStep Γ (gf_checked_C N) (gf_checked_J N) 18 Try.f65.results.toList (gf_checked_g N) gf_checked_o gf_checked_c x := by kernel_rfl
theorem gf_checked_y : Try.f65.body = some gf_checked_c := by kernel_rfl
theorem gf_checked_n : (Try.f65.name == "runtime.NumGoroutine") = false := by kernel_rfl
theorem gf_checked_ok (N : Nat) : FnDoes Try.prog 65 (gf_checked_g N) := fn_ok tabOK (gf_checked_t N) mixedOK (J := gf_checked_J N) (body := gf_checked_c) Try.func65 gf_checked_y gf_checked_n Try.ntmps65 (jok_from gf_checked_i ⟨⟨.inr ⟨_, rfl, gf_checked_k0 N⟩, trivial⟩, trivial⟩) rfl (le_of_ble rfl) (le_of_ble rfl) (gf_checked_e N)
noncomputable def gf_add_v1_c : Code := codeOf Try.f66.body
noncomputable def gf_add_v1_c0 : Code := codeOf (getLoop 0 gf_add_v1_c)
def gf_add_v1_d0 : LD := { ins := ⟨[(0, (.av (.one (.sl 0 1)))), (1, (.av (.one (.int .u8)))), (10, (.av (.one (.rsl (.int .u8))))), (11, (.av (.one (.int .i64)))), (12, (.av (.one (.int .i64))))], [(.sh (.arr (.int .u8) none), false)]⟩, mov := [], wr := [0], outs := [(.exit 0, ⟨[], [(.sh (.arr (.int .u8) none), false)]⟩)], its := [.nat, .nat, .int, .lst (.int .u8), .int, .int, .lst (.int .u8)], ots := [[.lst (.int .u8)]] }
noncomputable def gf_add_v1_J (N : Nat) : Nat → Hint := fun cx => hintOf cx [(0, { reg := fun k => assoc0 k [], cnd := fun k => assoc0 k [], loop := fun k => assoc0 k [(0, ⟨gf_add_v1_d0, loopF (gf_add_v1_b0 N) N⟩)], nil := fun k => assoc0 k [], unr := fun k => assocN k [], blk := fun k => assoc0 k [] })]
noncomputable def gf_add_v1_C (N : Nat) : Nat → List GS := fun k => tabOf k [(12, [gf_Mul_g N])]
def gf_add_v1_o : Shp := ⟨[(0, (.tup []))], [(.sh (.arr (.int .u8) none), false)]⟩
noncomputable def gf_add_v1_g (N : Nat) : GS := { ins := ⟨[(0, (.av (.one (.sl 0 1)))), (1, (.av (.one (.int .u8)))), (2, (.av (.one (.rsl (.int .u8)))))], [(some (.arr (.int .u8) none), false)]⟩, lend := [.keep, .keep, .keep], outs := ssOf gf_add_v1_o, its := [.nat, .nat, .int, .lst (.int .u8), .lst (.int .u8)], ots := [.lst (.int .u8)], F := gf_add_v1 N }
theorem gf_add_v1_t (N : Nat) : TabC Try.prog (gf_add_v1_C N) := tab_ok ⟨⟨gf_Mul_ok N, trivial⟩, trivial⟩
theorem gf_add_v1_i0 : loopsOf gf_add_v1_c0 = [] := by kernel_rfl
theorem gf_add_v1_e0 (N : Nat) (next) (x) : gf_add_v1_b0 N next x = loopStep Γ (gf_add_v1_C N) (gf_add_v1_J N) 0 27 gf_add_v1_d0 gf_add_v1_c0 next x := by kernel_rfl
theorem gf_add_v1_k0 (N : Nat) : LoopOK Try.prog 27 gf_add_v1_c0 ⟨gf_add_v1_d0, loopF (gf_add_v1_b0 N) N⟩ := loop_ok tabOK (gf_add_v1_t N) mixedOK (J := gf_add_v1_J N) (cx := 0) (body := gf_add_v1_c0) (nt := 27) (l := gf_add_v1_d0) (b := gf_add_v1_b0 N) (jok_from gf_add_v1_i0 ⟨trivial, trivial⟩) (gf_add_v1_e0 N) N
theorem gf_add_v1_i : loopsOf gf_add_v1_c = [(0, gf_add_v1_c0)] := by kernel_rfl
theorem gf_add_v1_e (N : Nat) (x) : (gf_add_v1_g N).F x = fnStep Γ (gf_add_v1_C N) (gf_add_v1_J N) 27 Try.f66.results.toList (gf_add_v1_g N) gf_add_v1_o gf_add_v1_c x := by kernel_rfl
theorem gf_add_v1_y : Try.f66.body = some gf_add_v1_c := by kernel_rfl
theorem gf_add_v1_n : (Try.f66.name == "runtime.NumGoroutine") = false := by kernel_rfl
theorem gf_add_v1_ok (N : Nat) : FnDoes Try.prog 66 (gf_add_v1_g N) := fn_ok tabOK (gf_add_v1_t N) mixedOK (J := gf_add_v1_J N) (body := gf_add_v1_c) Try.func66 gf_add_v1_y gf_add_v1_n Try.ntmps66 (jok_from gf_add_v1_i ⟨⟨.inr ⟨_, rfl, gf_add_v1_k0 N⟩, trivial⟩, trivial⟩) rfl (le_of_ble rfl) (le_of_ble rfl) (gf_add_v1_e N)
noncomputable def gf_Product_c : Code := codeOf Try.f36.body
noncomputable def gf_Product_c0 : Code := codeOf (getLoop 0 gf_Product_c)
noncomputable def gf_Product_c2 : Code := codeOf (getLoop 2 gf_Product_c)
def gf_Product_d2 : LD := { ins := ⟨[(2, (.av (.one (.const (.ptr ⟨0, 0, 0, 0⟩))))), (3, (.av (.one (.const (.ptr ⟨3, 0, 0, 0⟩))))), (4, (.av (.one (.const (.ptr ⟨6, 0, 0, 0⟩))))), (7, (.av (.one (.const (.ptr ⟨11, 0, 0, 0⟩))))), (8, (.av (.one (.int .i64)))), (31, (.av (.one (.int .i64)))), (32, (.av (.one (.int .i64)))), (37, (.av (.one (.rsl (.int .u8))))), (38, (.av (.one (.int .i64)))), (39, (.av (.one (.int .i64))))], [(.keep, false), (.keep, false), (.keep, false), (.sh (.one (.int .i64)), true), (.sh (.one (.int .i64)), true), (.sh (.one (.rsl (.int .u8))), false), (.keep, false), (.keep, false), (.keep, false), (.keep, false), (.sh (.arr (.int .u8) none), false), (.sh (.one (.int .i64)), true), (.sh (.one (.int .i64)), true), (.sh (.one (.const (.slw 10 1))), false)]⟩, mov := [], wr := [3, 4, 5, 10, 11, 12, 13], outs := [(.exit 2, ⟨[], [(.keep, false), (.keep, false), (.keep, false), (.sh (.one (.int .i64)), true), (.sh (.one (.int .i64)), true), (.sh (.one (.rsl (.int .u8))), false), (.keep, false), (.keep, false), (.keep, false), (.keep, false), (.sh (.arr (.int .u8) none), false), (.sh (.one (.int .i64)), true), (.sh (.one (.int .i64)), true), (.sh (.one (.const (.slw 10 1))), false)]⟩)], its := [.int, .int, .int, .lst (.int .u8), .int, .int, .int, .int, .lst (.int .u8), .lst (.int .u8), .int, .int], ots := [[.int, .int, .lst (.int .u8), .lst (.int .u8), .int, .int]] }
def gf_Product_d0 : LD := { ins := ⟨[(2, (.av (.one (.const (.ptr ⟨0, 0, 0, 0⟩))))), (3, (.av (.one (.const (.ptr ⟨3, 0, 0, 0⟩))))), (4, (.av (.one (.const (.ptr ⟨6, 0, 0, 0⟩))))), (7, (.av (.one (.const (.ptr ⟨11, 0, 0, 0⟩))))), (31, (.av (.one (.int .i64)))), (32, (.av (.one (.int .i64))))], [(.sh (.one (.int .i64)), true), (.sh (.one (.int .i64)), true), (.sh (.one (.rsl (.int .u8))), false), (.sh (.one (.int .i64)), true), (.sh (.one (.int .i64)), true), (.sh (.one (.rsl (.int .u8))), false), (.keep, false), (.keep, false), (.keep, false), (.keep, false), (.sh (.arr (.int .u8) none), false), (.sh (.one (.int .i64)), true), (.sh (.one (.int .i64)), true), (.sh (.one (.const (.slw 10 1))), false)]⟩, mov := [], wr := [0, 1, 2, 3, 4, 5, 10, 11, 12, 13], outs := [(.exit 0, ⟨[], [(.sh (.one (.int .i64)), true), (.sh (.one (.int .i64)), true), (.sh (.one (.rsl (.int .u8))), false), (.sh (.one (.int .i64)), true), (.sh (.one (.int .i64)), true), (.sh (.one (.rsl (.int .u8))), false), (.keep, false), (.keep, false), (.keep, false), (.keep, false), (.sh (.arr (.int .u8) none), false), (.sh (.one (.int .i64)), true), (.sh (.one (.int .i64)), true), (.sh (.one (.const (.slw 10 1))), false)]⟩)], its := [.int, .int, .int, .int, .lst (.int .u8), .int, .int, .lst (.int .u8), .lst (.int .u8), .int, .int], ots := [[.int, .int, .lst (.int .u8), .int, .int, .lst (.int .u8), .lst (.int .u8), .int, .int]] }
noncomputable def gf_Product_J (N : Nat) : Nat → Hint := fun cx => hintOf cx [(0, { reg := fun k => assoc0 k [], cnd := fun k => assoc0 k [], loop := fun k => assoc0 k [(2, ⟨gf_Product_d2, loopF (gf_Product_b2 N) N⟩), (0, ⟨gf_Product_d0, loopF (gf_Product_b0 N) N⟩)], nil := fun k => assoc0 k [], unr := fun k => assocN k [], blk := fun k => assoc0 k [] })]
noncomputable def gf_Product_C (N : Nat) : Nat → List GS := fun k => tabOf k [(65, [gf_checked_g N]), (58, [gf_zeros_g N]), (59, [gf_row_g N, gf_row_v1_g N]), (66, [gf_add_v1_g N])]
def gf_Product_o : Shp := ⟨[(0, (.tup [(.agg [(.one (.int .i64)), (.one (.int .i64)), (.one (.const (.slw 0 1)))]), (.one (.int .i64))]))], [(.sh (.arr (.int .u8) none), false)]⟩
noncomputable def gf_Product_g (N : Nat) : GS := { ins := ⟨[(0, (.av (.agg [(.one (.int .i64)), (.one (.int .i64)), (.one (.rsl (.int .u8)))]))), (1, (.av (.agg [(.one (.int .i64)), (.one (.int .i64)), (.one (.rsl (.int .u8)))])))], []⟩, lend := [.agg [none, none, some (.int .u8)], .agg [none, none, some (.int .u8)]], outs := ssOf gf_Product_o, its := [.int, .int, .lst (.int .u8), .int, .int, .lst (.int .u8)], ots := [.int, .int, .int, .lst (.int .u8)], F := gf_Product N }
theorem gf_Product_t (N : Nat) : TabC Try.prog (gf_Product_C N) := tab_ok ⟨⟨gf_checked_ok N, trivial⟩, ⟨gf_zeros_ok N, trivial⟩, ⟨gf_row_ok N, gf_row_v1_ok N, trivial⟩, ⟨gf_add_v1_ok N, trivial⟩, trivial⟩
theorem gf_Product_i2 : loopsOf gf_Product_c2 = [] := by kernel_rfl
theorem gf_Product_e2 (N : Nat) (next) (x) : gf_Product_b2 N next x = loopStep Γ (gf_Product_C N) (gf_Product_J N) 0 55 gf_Product_d2 gf_Product_c2 next x := by kernel_rfl
theorem gf_Product_k2 (N : Nat) : LoopOK Try.prog 55 gf_Product_c2 ⟨gf_Product_d2, loopF (gf_Product_b2 N) N⟩ := loop_ok tabOK (gf_Product_t N) mixedOK (J := gf_Product_J N) (cx := 0) (body := gf_Product_c2) (nt := 55) (l := gf_Product_d2) (b := gf_Product_b2 N) (jok_from gf_Product_i2 ⟨trivial, trivial⟩) (gf_Product_e2 N) N
theorem gf_Product_i0 : loopsOf gf_Product_c0 = [(2, gf_Product_c2)] := by kernel_rfl
theorem gf_Product_e0 (N : Nat) (next) (x) : gf_Product_b0 N next x = loopStep Γ (gf_Product_C N) (gf_Product_J N) 0 55 gf_Product_d0 gf_Product_c0 next x := by kernel_rfl
theorem gf_Product_k0 (N : Nat) : LoopOK Try.prog 55 gf_Product_c0 ⟨gf_Product_d0, loopF (gf_Product_b0 N) N⟩ := loop_ok tabOK (gf_Product_t N) mixedOK (J := gf_Product_J N) (cx := 0) (body := gf_Product_c0) (nt := 55) (l := gf_Product_d0) (b := gf_Product_b0 N) (jok_from gf_Product_i0 ⟨⟨.inr ⟨_, rfl, gf_Product_k2 N⟩, trivial⟩, trivial⟩) (gf_Product_e0 N) N
theorem gf_Product_i : loopsOf gf_Product_c = [(0, gf_Product_c0), (2, gf_Product_c2)] := by kernel_rfl
theorem gf_Product_e (N : Nat) (x) : (gf_Product_g N).F x = fnStep Γ (gf_Product_C N) (gf_Product_J N) 55 Try.f36.results.toList (gf_Product_g N) gf_Product_o gf_Product_c x := by kernel_rfl
theorem gf_Product_y : Try.f36.body = some gf_Product_c := by kernel_rfl
theorem gf_Product_n : (Try.f36.name == "runtime.NumGoroutine") = false := by kernel_rfl
theorem gf_Product_ok (N : Nat) : FnDoes Try.prog 36 (gf_Product_g N) := fn_ok tabOK (gf_Product_t N) mixedOK (J := gf_Product_J N) (body := gf_Product_c) Try.func36 gf_Product_y gf_Product_n Try.ntmps36 (jok_from gf_Product_i ⟨⟨.inr ⟨_, rfl, gf_Product_k0 N⟩, .inr ⟨_, rfl, gf_Product_k2 N⟩, trivial⟩, trivial⟩) rfl (le_of_ble rfl) (le_of_ble rfl) (gf_Product_e N)
noncomputable def granaryref02_Same_v2_c : Code := codeOf Try.f38.body
noncomputable def granaryref02_Same_v2_J (N : Nat) : Nat → Hint := fun cx => hintOf cx [(0, { reg := fun k => assoc0 k [(1, ⟨⟨[(4, (.av (.one .bool)))], [(.keep, true), (.keep, true), (.keep, false), (.keep, true), (.keep, true), (.keep, false)]⟩, [], [], [.bool]⟩)], cnd := fun k => assoc0 k [], loop := fun k => assoc0 k [], nil := fun k => assoc0 k [], unr := fun k => assocN k [], blk := fun k => assoc0 k [] })]
noncomputable def granaryref02_Same_v2_C (N : Nat) : Nat → List GS := fun k => tabOf k []
def granaryref02_Same_v2_o : Shp := ⟨[(0, (.av (.one .bool)))], []⟩
noncomputable def granaryref02_Same_v2_g (N : Nat) : GS := { ins := ⟨[(0, (.av (.agg [(.one (.int .i64)), (.one (.int .i64)), (.one (.rsl (.int .u8)))]))), (1, (.av (.agg [(.one (.int .i64)), (.one (.int .i64)), (.one (.rsl (.int .u8)))])))], []⟩, lend := [.agg [none, none, some (.int .u8)], .keep], outs := ssOf granaryref02_Same_v2_o, its := [.int, .int, .lst (.int .u8), .int, .int, .lst (.int .u8)], ots := [.bool], F := granaryref02_Same_v2 }
theorem granaryref02_Same_v2_t (N : Nat) : TabC Try.prog (granaryref02_Same_v2_C N) := tab_ok trivial
theorem granaryref02_Same_v2_i : loopsOf granaryref02_Same_v2_c = [] := by kernel_rfl
theorem granaryref02_Same_v2_e (N : Nat) (x) : (granaryref02_Same_v2_g N).F x = fnStep Γ (granaryref02_Same_v2_C N) (granaryref02_Same_v2_J N) 26 Try.f38.results.toList (granaryref02_Same_v2_g N) granaryref02_Same_v2_o granaryref02_Same_v2_c x := by kernel_rfl
theorem granaryref02_Same_v2_y : Try.f38.body = some granaryref02_Same_v2_c := by kernel_rfl
theorem granaryref02_Same_v2_n : (Try.f38.name == "runtime.NumGoroutine") = false := by kernel_rfl
theorem granaryref02_Same_v2_ok (N : Nat) : FnDoes Try.prog 38 (granaryref02_Same_v2_g N) := fn_ok tabOK (granaryref02_Same_v2_t N) mixedOK (J := granaryref02_Same_v2_J N) (body := granaryref02_Same_v2_c) Try.func38 granaryref02_Same_v2_y granaryref02_Same_v2_n Try.ntmps38 (jok_from granaryref02_Same_v2_i ⟨trivial, trivial⟩) rfl (le_of_ble rfl) (le_of_ble rfl) (granaryref02_Same_v2_e N)
noncomputable def gf_Rows_c : Code := codeOf Try.f41.body
noncomputable def gf_Rows_c0 : Code := codeOf (getLoop 0 gf_Rows_c)
def gf_Rows_d0 : LD := { ins := ⟨[(2, (.av (.one (.const (.ptr ⟨0, 0, 0, 0⟩))))), (4, (.av (.one (.const (.ptr ⟨3, 0, 0, 0⟩))))), (7, (.av (.one (.const (.ptr ⟨6, 0, 0, 0⟩))))), (26, (.av (.one (.rsl (.int .i64))))), (27, (.av (.one (.int .i64)))), (28, (.av (.one (.int .i64))))], [(.sh (.one (.int .i64)), true), (.sh (.one (.int .i64)), true), (.sh (.one (.rsl (.int .u8))), false), (.sh (.one (.const (.int .i64 (0 : Int)))), true), (.sh (.one (.const (.int .i64 (0 : Int)))), true), (.sh (.one (.const .nils)), false), (.sh (.one (.int .i64)), true), (.sh (.one (.int .i64)), true), (.sh (.one (.const (.slw 9 1))), false), (.sh (.arr (.int .u8) none), false)]⟩, mov := [9], wr := [0, 1, 2, 3, 4, 5, 6, 7, 8], outs := [(.ret, ⟨[(5, (.av (.one (.const (.int .i64 (2 : Int))))))], [(.sh (.one (.int .i64)), true), (.sh (.one (.int .i64)), true), (.sh (.one (.rsl (.int .u8))), false), (.sh (.one (.const (.int .i64 (0 : Int)))), true), (.sh (.one (.const (.int .i64 (0 : Int)))), true), (.sh (.one (.const .nils)), false), (.sh (.one (.int .i64)), true), (.sh (.one (.int .i64)), true), (.sh (.one (.const (.slw 10 1))), false), (.dead, false), (.sh (.arr (.int .u8) none), false)]⟩), (.exit 0, ⟨[], [(.sh (.one (.int .i64)), true), (.sh (.one (.int .i64)), true), (.sh (.one (.rsl (.int .u8))), false), (.sh (.one (.const (.int .i64 (0 : Int)))), true), (.sh (.one (.const (.int .i64 (0 : Int)))), true), (.sh (.one (.const .nils)), false), (.sh (.one (.int .i64)), true), (.sh (.one (.int .i64)), true), (.sh (.one (.const (.slw 10 1))), false), (.dead, false), (.sh (.arr (.int .u8) none), false)]⟩)], its := [.lst (.int .i64), .int, .int, .int, .int, .lst (.int .u8), .int, .int, .lst (.int .u8)], ots := [[.int, .int, .lst (.int .u8), .int, .int, .lst (.int .u8)], [.int, .int, .lst (.int .u8), .int, .int, .lst (.int .u8)]] }
noncomputable def gf_Rows_J (N : Nat) : Nat → Hint := fun cx => hintOf cx [(0, { reg := fun k => assoc0 k [(10, ⟨⟨[(39, (.av (.one .bool)))], [(.keep, true), (.keep, true), (.keep, false), (.keep, true), (.keep, true), (.keep, false), (.keep, true), (.keep, true), (.keep, false), (.keep, false)]⟩, [], [], [.bool]⟩)], cnd := fun k => assoc0 k [], loop := fun k => assoc0 k [(0, ⟨gf_Rows_d0, loopF (gf_Rows_b0 N) N⟩)], nil := fun k => assoc0 k [], unr := fun k => assocN k [], blk := fun k => assoc0 k [] })]
noncomputable def gf_Rows_C (N : Nat) : Nat → List GS := fun k => tabOf k [(50, [gf_Check_g N]), (57, [gf_side_g N]), (59, [gf_row_v1_g N])]
def gf_Rows_o : Shp := ⟨[(0, (.tup [(.agg [(.one (.int .i64)), (.one (.int .i64)), (.one (.const (.slw 0 1)))]), (.one (.int .i64))]))], [(.sh (.arr (.int .u8) none), false)]⟩
noncomputable def gf_Rows_g (N : Nat) : GS := { ins := ⟨[(0, (.av (.agg [(.one (.int .i64)), (.one (.int .i64)), (.one (.rsl (.int .u8)))]))), (1, (.av (.one (.rsl (.int .i64)))))], []⟩, lend := [.agg [none, none, some (.int .u8)], .lend (.int .i64)], outs := ssOf gf_Rows_o, its := [.int, .int, .lst (.int .u8), .lst (.int .i64)], ots := [.int, .int, .int, .lst (.int .u8)], F := gf_Rows N }
theorem gf_Rows_t (N : Nat) : TabC Try.prog (gf_Rows_C N) := tab_ok ⟨⟨gf_Check_ok N, trivial⟩, ⟨gf_side_ok N, trivial⟩, ⟨gf_row_v1_ok N, trivial⟩, trivial⟩
theorem gf_Rows_i0 : loopsOf gf_Rows_c0 = [] := by kernel_rfl
theorem gf_Rows_e0 (N : Nat) (next) (x) : gf_Rows_b0 N next x = loopStep Γ (gf_Rows_C N) (gf_Rows_J N) 0 50 gf_Rows_d0 gf_Rows_c0 next x := by kernel_rfl
theorem gf_Rows_k0 (N : Nat) : LoopOK Try.prog 50 gf_Rows_c0 ⟨gf_Rows_d0, loopF (gf_Rows_b0 N) N⟩ := loop_ok tabOK (gf_Rows_t N) mixedOK (J := gf_Rows_J N) (cx := 0) (body := gf_Rows_c0) (nt := 50) (l := gf_Rows_d0) (b := gf_Rows_b0 N) (jok_from gf_Rows_i0 ⟨trivial, trivial⟩) (gf_Rows_e0 N) N
theorem gf_Rows_i : loopsOf gf_Rows_c = [(0, gf_Rows_c0)] := by kernel_rfl
theorem gf_Rows_e (N : Nat) (x) : (gf_Rows_g N).F x = fnStep Γ (gf_Rows_C N) (gf_Rows_J N) 50 Try.f41.results.toList (gf_Rows_g N) gf_Rows_o gf_Rows_c x := by kernel_rfl
theorem gf_Rows_y : Try.f41.body = some gf_Rows_c := by kernel_rfl
theorem gf_Rows_n : (Try.f41.name == "runtime.NumGoroutine") = false := by kernel_rfl
theorem gf_Rows_ok (N : Nat) : FnDoes Try.prog 41 (gf_Rows_g N) := fn_ok tabOK (gf_Rows_t N) mixedOK (J := gf_Rows_J N) (body := gf_Rows_c) Try.func41 gf_Rows_y gf_Rows_n Try.ntmps41 (jok_from gf_Rows_i ⟨⟨.inr ⟨_, rfl, gf_Rows_k0 N⟩, trivial⟩, trivial⟩) rfl (le_of_ble rfl) (le_of_ble rfl) (gf_Rows_e N)
noncomputable def granaryref02_both_c : Code := codeOf Try.f69.body
noncomputable def granaryref02_both_J (N : Nat) : Nat → Hint := fun cx => hintOf cx []
noncomputable def granaryref02_both_C (N : Nat) : Nat → List GS := fun k => tabOf k [(32, [granaryref02_Check_g N])]
def granaryref02_both_o : Shp := ⟨[(0, (.av (.one (.int .i64))))], []⟩
noncomputable def granaryref02_both_g (N : Nat) : GS := { ins := ⟨[(0, (.av (.agg [(.one (.int .i64)), (.one (.int .i64)), (.one (.rsl (.int .u8)))]))), (1, (.av (.agg [(.one (.int .i64)), (.one (.int .i64)), (.one (.rsl (.int .u8)))])))], []⟩, lend := [.keep, .keep], outs := ssOf granaryref02_both_o, its := [.int, .int, .lst (.int .u8), .int, .int, .lst (.int .u8)], ots := [.int], F := granaryref02_both }
theorem granaryref02_both_t (N : Nat) : TabC Try.prog (granaryref02_both_C N) := tab_ok ⟨⟨granaryref02_Check_ok N, trivial⟩, trivial⟩
theorem granaryref02_both_i : loopsOf granaryref02_both_c = [] := by kernel_rfl
theorem granaryref02_both_e (N : Nat) (x) : (granaryref02_both_g N).F x = fnStep Γ (granaryref02_both_C N) (granaryref02_both_J N) 13 Try.f69.results.toList (granaryref02_both_g N) granaryref02_both_o granaryref02_both_c x := by kernel_rfl
theorem granaryref02_both_y : Try.f69.body = some granaryref02_both_c := by kernel_rfl
theorem granaryref02_both_n : (Try.f69.name == "runtime.NumGoroutine") = false := by kernel_rfl
theorem granaryref02_both_ok (N : Nat) : FnDoes Try.prog 69 (granaryref02_both_g N) := fn_ok tabOK (granaryref02_both_t N) mixedOK (J := granaryref02_both_J N) (body := granaryref02_both_c) Try.func69 granaryref02_both_y granaryref02_both_n Try.ntmps69 (jok_from granaryref02_both_i trivial) rfl (le_of_ble rfl) (le_of_ble rfl) (granaryref02_both_e N)
noncomputable def granaryref02_At_c : Code := codeOf Try.f70.body
noncomputable def granaryref02_At_J (N : Nat) : Nat → Hint := fun cx => hintOf cx []
noncomputable def granaryref02_At_C (N : Nat) : Nat → List GS := fun k => tabOf k []
def granaryref02_At_o : Shp := ⟨[(0, (.av (.one (.int .u8))))], []⟩
noncomputable def granaryref02_At_g (N : Nat) : GS := { ins := ⟨[(0, (.av (.agg [(.one (.int .i64)), (.one (.int .i64)), (.one (.rsl (.int .u8)))]))), (1, (.av (.one (.int .i64)))), (2, (.av (.one (.int .i64))))], []⟩, lend := [.keep, .keep, .keep], outs := ssOf granaryref02_At_o, its := [.int, .int, .lst (.int .u8), .int, .int], ots := [.int], F := granaryref02_At }
theorem granaryref02_At_t (N : Nat) : TabC Try.prog (granaryref02_At_C N) := tab_ok trivial
theorem granaryref02_At_i : loopsOf granaryref02_At_c = [] := by kernel_rfl
theorem granaryref02_At_e (N : Nat) (x) : (granaryref02_At_g N).F x = fnStep Γ (granaryref02_At_C N) (granaryref02_At_J N) 17 Try.f70.results.toList (granaryref02_At_g N) granaryref02_At_o granaryref02_At_c x := by kernel_rfl
theorem granaryref02_At_y : Try.f70.body = some granaryref02_At_c := by kernel_rfl
theorem granaryref02_At_n : (Try.f70.name == "runtime.NumGoroutine") = false := by kernel_rfl
theorem granaryref02_At_ok (N : Nat) : FnDoes Try.prog 70 (granaryref02_At_g N) := fn_ok tabOK (granaryref02_At_t N) mixedOK (J := granaryref02_At_J N) (body := granaryref02_At_c) Try.func70 granaryref02_At_y granaryref02_At_n Try.ntmps70 (jok_from granaryref02_At_i trivial) rfl (le_of_ble rfl) (le_of_ble rfl) (granaryref02_At_e N)
noncomputable def granaryref02_Product_c : Code := codeOf Try.f48.body
noncomputable def granaryref02_Product_c0 : Code := codeOf (getLoop 0 granaryref02_Product_c)
noncomputable def granaryref02_Product_c2 : Code := codeOf (getLoop 2 granaryref02_Product_c)
noncomputable def granaryref02_Product_c4 : Code := codeOf (getLoop 4 granaryref02_Product_c)
def granaryref02_Product_d4 : LD := { ins := ⟨[(2, (.av (.one (.const (.ptr ⟨0, 0, 0, 0⟩))))), (3, (.av (.one (.const (.ptr ⟨3, 0, 0, 0⟩))))), (4, (.av (.one (.const (.ptr ⟨6, 0, 0, 0⟩))))), (7, (.av (.one (.const (.ptr ⟨10, 0, 0, 0⟩))))), (8, (.av (.one (.int .i64)))), (9, (.av (.one (.int .i64)))), (10, (.av (.one (.int .i64))))], [(.sh (.one (.int .i64)), true), (.sh (.one (.int .i64)), true), (.sh (.one (.rsl (.int .u8))), false), (.sh (.one (.int .i64)), true), (.sh (.one (.int .i64)), true), (.sh (.one (.rsl (.int .u8))), false), (.keep, false), (.keep, false), (.keep, false), (.sh (.arr (.int .u8) none), false), (.sh (.one (.int .i64)), true), (.sh (.one (.int .i64)), true), (.sh (.one (.const (.slw 9 1))), false)]⟩, mov := [], wr := [0, 1, 2, 3, 4, 5, 9, 10, 11, 12], outs := [(.exit 4, ⟨[], [(.sh (.one (.int .i64)), true), (.sh (.one (.int .i64)), true), (.sh (.one (.rsl (.int .u8))), false), (.sh (.one (.int .i64)), true), (.sh (.one (.int .i64)), true), (.sh (.one (.rsl (.int .u8))), false), (.keep, false), (.keep, false), (.keep, false), (.sh (.arr (.int .u8) none), false), (.sh (.one (.int .i64)), true), (.sh (.one (.int .i64)), true), (.sh (.one (.const (.slw 9 1))), false)]⟩)], its := [.int, .int, .int, .int, .int, .lst (.int .u8), .int, .int, .lst (.int .u8), .lst (.int .u8), .int, .int], ots := [[.int, .int, .lst (.int .u8), .int, .int, .lst (.int .u8), .lst (.int .u8), .int, .int]] }
def granaryref02_Product_d2 : LD := { ins := ⟨[(2, (.av (.one (.const (.ptr ⟨0, 0, 0, 0⟩))))), (3, (.av (.one (.const (.ptr ⟨3, 0, 0, 0⟩))))), (4, (.av (.one (.const (.ptr ⟨6, 0, 0, 0⟩))))), (7, (.av (.one (.const (.ptr ⟨10, 0, 0, 0⟩))))), (8, (.av (.one (.int .i64)))), (9, (.av (.one (.int .i64))))], [(.sh (.one (.int .i64)), true), (.sh (.one (.int .i64)), true), (.sh (.one (.rsl (.int .u8))), false), (.sh (.one (.int .i64)), true), (.sh (.one (.int .i64)), true), (.sh (.one (.rsl (.int .u8))), false), (.keep, false), (.keep, false), (.keep, false), (.sh (.arr (.int .u8) none), false), (.sh (.one (.int .i64)), true), (.sh (.one (.int .i64)), true), (.sh (.one (.const (.slw 9 1))), false)]⟩, mov := [], wr := [0, 1, 2, 3, 4, 5, 9, 10, 11, 12], outs := [(.exit 2, ⟨[], [(.sh (.one (.int .i64)), true), (.sh (.one (.int .i64)), true), (.sh (.one (.rsl (.int .u8))), false), (.sh (.one (.int .i64)), true), (.sh (.one (.int .i64)), true), (.sh (.one (.rsl (.int .u8))), false), (.keep, false), (.keep, false), (.keep, false), (.sh (.arr (.int .u8) none), false), (.sh (.one (.int .i64)), true), (.sh (.one (.int .i64)), true), (.sh (.one (.const (.slw 9 1))), false)]⟩)], its := [.int, .int, .int, .int, .lst (.int .u8), .int, .int, .lst (.int .u8), .lst (.int .u8), .int, .int], ots := [[.int, .int, .lst (.int .u8), .int, .int, .lst (.int .u8), .lst (.int .u8), .int, .int]] }
def granaryref02_Product_d0 : LD := { ins := ⟨[(2, (.av (.one (.const (.ptr ⟨0, 0, 0, 0⟩))))), (3, (.av (.one (.const (.ptr ⟨3, 0, 0, 0⟩))))), (4, (.av (.one (.const (.ptr ⟨6, 0, 0, 0⟩))))), (7, (.av (.one (.const (.ptr ⟨10, 0, 0, 0⟩))))), (8, (.av (.one (.int .i64))))], [(.sh (.one (.int .i64)), true), (.sh (.one (.int .i64)), true), (.sh (.one (.rsl (.int .u8))), false), (.sh (.one (.int .i64)), true), (.sh (.one (.int .i64)), true), (.sh (.one (.rsl (.int .u8))), false), (.keep, false), (.keep, false), (.keep, false), (.sh (.arr (.int .u8) none), false), (.sh (.one (.int .i64)), true), (.sh (.one (.int .i64)), true), (.sh (.one (.const (.slw 9 1))), false)]⟩, mov := [], wr := [0, 1, 2, 3, 4, 5, 9, 10, 11, 12], outs := [(.exit 0, ⟨[], [(.sh (.one (.int .i64)), true), (.sh (.one (.int .i64)), true), (.sh (.one (.rsl (.int .u8))), false), (.sh (.one (.int .i64)), true), (.sh (.one (.int .i64)), true), (.sh (.one (.rsl (.int .u8))), false), (.keep, false), (.keep, false), (.keep, false), (.sh (.arr (.int .u8) none), false), (.sh (.one (.int .i64)), true), (.sh (.one (.int .i64)), true), (.sh (.one (.const (.slw 9 1))), false)]⟩)], its := [.int, .int, .int, .lst (.int .u8), .int, .int, .lst (.int .u8), .lst (.int .u8), .int, .int], ots := [[.int, .int, .lst (.int .u8), .int, .int, .lst (.int .u8), .lst (.int .u8), .int, .int]] }
noncomputable def granaryref02_Product_J (N : Nat) : Nat → Hint := fun cx => hintOf cx [(0, { reg := fun k => assoc0 k [], cnd := fun k => assoc0 k [], loop := fun k => assoc0 k [(4, ⟨granaryref02_Product_d4, loopF (granaryref02_Product_b4 N) N⟩), (2, ⟨granaryref02_Product_d2, loopF (granaryref02_Product_b2 N) N⟩), (0, ⟨granaryref02_Product_d0, loopF (granaryref02_Product_b0 N) N⟩)], nil := fun k => assoc0 k [], unr := fun k => assocN k [], blk := fun k => assoc0 k [] })]
noncomputable def granaryref02_Product_C (N : Nat) : Nat → List GS := fun k => tabOf k [(69, [granaryref02_both_g N]), (60, [granaryref02_New_g N]), (70, [granaryref02_At_g N]), (27, [granaryref02_Mul_g N])]
def granaryref02_Product_o : Shp := ⟨[(0, (.tup [(.agg [(.one (.int .i64)), (.one (.int .i64)), (.one (.const (.slw 0 1)))]), (.one (.int .i64))]))], [(.sh (.arr (.int .u8) none), false)]⟩
noncomputable def granaryref02_Product_g (N : Nat) : GS := { ins := ⟨[(0, (.av (.agg [(.one (.int .i64)), (.one (.int .i64)), (.one (.rsl (.int .u8)))]))), (1, (.av (.agg [(.one (.int .i64)), (.one (.int .i64)), (.one (.rsl (.int .u8)))])))], []⟩, lend := [.keep, .keep], outs := ssOf granaryref02_Product_o, its := [.int, .int, .lst (.int .u8), .int, .int, .lst (.int .u8)], ots := [.int, .int, .int, .lst (.int .u8)], F := granaryref02_Product N }
theorem granaryref02_Product_t (N : Nat) : TabC Try.prog (granaryref02_Product_C N) := tab_ok ⟨⟨granaryref02_both_ok N, trivial⟩, ⟨granaryref02_New_ok N, trivial⟩, ⟨granaryref02_At_ok N, trivial⟩, ⟨granaryref02_Mul_ok N, trivial⟩, trivial⟩
theorem granaryref02_Product_i4 : loopsOf granaryref02_Product_c4 = [] := by kernel_rfl
theorem granaryref02_Product_e4 (N : Nat) (next) (x) : granaryref02_Product_b4 N next x = loopStep Γ (granaryref02_Product_C N) (granaryref02_Product_J N) 0 77 granaryref02_Product_d4 granaryref02_Product_c4 next x := by kernel_rfl
theorem granaryref02_Product_k4 (N : Nat) : LoopOK Try.prog 77 granaryref02_Product_c4 ⟨granaryref02_Product_d4, loopF (granaryref02_Product_b4 N) N⟩ := loop_ok tabOK (granaryref02_Product_t N) mixedOK (J := granaryref02_Product_J N) (cx := 0) (body := granaryref02_Product_c4) (nt := 77) (l := granaryref02_Product_d4) (b := granaryref02_Product_b4 N) (jok_from granaryref02_Product_i4 ⟨trivial, trivial⟩) (granaryref02_Product_e4 N) N
theorem granaryref02_Product_i2 : loopsOf granaryref02_Product_c2 = [(4, granaryref02_Product_c4)] := by kernel_rfl
theorem granaryref02_Product_e2 (N : Nat) (next) (x) : granaryref02_Product_b2 N next x = loopStep Γ (granaryref02_Product_C N) (granaryref02_Product_J N) 0 77 granaryref02_Product_d2 granaryref02_Product_c2 next x := by kernel_rfl
theorem granaryref02_Product_k2 (N : Nat) : LoopOK Try.prog 77 granaryref02_Product_c2 ⟨granaryref02_Product_d2, loopF (granaryref02_Product_b2 N) N⟩ := loop_ok tabOK (granaryref02_Product_t N) mixedOK (J := granaryref02_Product_J N) (cx := 0) (body := granaryref02_Product_c2) (nt := 77) (l := granaryref02_Product_d2) (b := granaryref02_Product_b2 N) (jok_from granaryref02_Product_i2 ⟨⟨.inr ⟨_, rfl, granaryref02_Product_k4 N⟩, trivial⟩, trivial⟩) (granaryref02_Product_e2 N) N
theorem granaryref02_Product_i0 : loopsOf granaryref02_Product_c0 = [(2, granaryref02_Product_c2), (4, granaryref02_Product_c4)] := by kernel_rfl
theorem granaryref02_Product_e0 (N : Nat) (next) (x) : granaryref02_Product_b0 N next x = loopStep Γ (granaryref02_Product_C N) (granaryref02_Product_J N) 0 77 granaryref02_Product_d0 granaryref02_Product_c0 next x := by kernel_rfl
theorem granaryref02_Product_k0 (N : Nat) : LoopOK Try.prog 77 granaryref02_Product_c0 ⟨granaryref02_Product_d0, loopF (granaryref02_Product_b0 N) N⟩ := loop_ok tabOK (granaryref02_Product_t N) mixedOK (J := granaryref02_Product_J N) (cx := 0) (body := granaryref02_Product_c0) (nt := 77) (l := granaryref02_Product_d0) (b := granaryref02_Product_b0 N) (jok_from granaryref02_Product_i0 ⟨⟨.inr ⟨_, rfl, granaryref02_Product_k2 N⟩, .inr ⟨_, rfl, granaryref02_Product_k4 N⟩, trivial⟩, trivial⟩) (granaryref02_Product_e0 N) N
theorem granaryref02_Product_i : loopsOf granaryref02_Product_c = [(0, granaryref02_Product_c0), (2, granaryref02_Product_c2), (4, granaryref02_Product_c4)] := by kernel_rfl
theorem granaryref02_Product_e (N : Nat) (x) : (granaryref02_Product_g N).F x = fnStep Γ (granaryref02_Product_C N) (granaryref02_Product_J N) 77 Try.f48.results.toList (granaryref02_Product_g N) granaryref02_Product_o granaryref02_Product_c x := by kernel_rfl
theorem granaryref02_Product_y : Try.f48.body = some granaryref02_Product_c := by kernel_rfl
theorem granaryref02_Product_n : (Try.f48.name == "runtime.NumGoroutine") = false := by kernel_rfl
theorem granaryref02_Product_ok (N : Nat) : FnDoes Try.prog 48 (granaryref02_Product_g N) := fn_ok tabOK (granaryref02_Product_t N) mixedOK (J := granaryref02_Product_J N) (body := granaryref02_Product_c) Try.func48 granaryref02_Product_y granaryref02_Product_n Try.ntmps48 (jok_from granaryref02_Product_i ⟨⟨.inr ⟨_, rfl, granaryref02_Product_k0 N⟩, .inr ⟨_, rfl, granaryref02_Product_k2 N⟩, .inr ⟨_, rfl, granaryref02_Product_k4 N⟩, trivial⟩, trivial⟩) rfl (le_of_ble rfl) (le_of_ble rfl) (granaryref02_Product_e N)
noncomputable def granaryref02_At_v1_c : Code := codeOf Try.f70.body
noncomputable def granaryref02_At_v1_J (N : Nat) : Nat → Hint := fun cx => hintOf cx []
noncomputable def granaryref02_At_v1_C (N : Nat) : Nat → List GS := fun k => tabOf k []
def granaryref02_At_v1_o : Shp := ⟨[(0, (.av (.one (.int .u8))))], []⟩
noncomputable def granaryref02_At_v1_g (N : Nat) : GS := { ins := ⟨[(0, (.av (.agg [(.one (.int .i64)), (.one (.int .i64)), (.one (.rsl (.int .u8)))]))), (1, (.av (.one (.int .i64)))), (2, (.av (.one (.int .i64))))], []⟩, lend := [.agg [none, none, some (.int .u8)], .keep, .keep], outs := ssOf granaryref02_At_v1_o, its := [.int, .int, .lst (.int .u8), .int, .int], ots := [.int], F := granaryref02_At_v1 }
theorem granaryref02_At_v1_t (N : Nat) : TabC Try.prog (granaryref02_At_v1_C N) := tab_ok trivial
theorem granaryref02_At_v1_i : loopsOf granaryref02_At_v1_c = [] := by kernel_rfl
theorem granaryref02_At_v1_e (N : Nat) (x) : (granaryref02_At_v1_g N).F x = fnStep Γ (granaryref02_At_v1_C N) (granaryref02_At_v1_J N) 17 Try.f70.results.toList (granaryref02_At_v1_g N) granaryref02_At_v1_o granaryref02_At_v1_c x := by kernel_rfl
theorem granaryref02_At_v1_y : Try.f70.body = some granaryref02_At_v1_c := by kernel_rfl
theorem granaryref02_At_v1_n : (Try.f70.name == "runtime.NumGoroutine") = false := by kernel_rfl
theorem granaryref02_At_v1_ok (N : Nat) : FnDoes Try.prog 70 (granaryref02_At_v1_g N) := fn_ok tabOK (granaryref02_At_v1_t N) mixedOK (J := granaryref02_At_v1_J N) (body := granaryref02_At_v1_c) Try.func70 granaryref02_At_v1_y granaryref02_At_v1_n Try.ntmps70 (jok_from granaryref02_At_v1_i trivial) rfl (le_of_ble rfl) (le_of_ble rfl) (granaryref02_At_v1_e N)
end Go.Rf.W
