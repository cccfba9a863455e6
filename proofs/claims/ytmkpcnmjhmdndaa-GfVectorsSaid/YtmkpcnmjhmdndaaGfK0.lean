/-
  The printed functions are what the program does.
-/
import Derived.Test.YtmkpcnmjhmdndaaGfF0
import Derived.Test.YtmkpcnmjhmdndaaGfT
import Derived.Test.YtmkpcnmjhmdndaaRfC
set_option linter.unusedVariables false
set_option maxRecDepth 100000
namespace Go.Rf.W
open Go Go.Rf Go.Proofs
noncomputable def gf_Mul_c : Code := codeOf Try.f12.body
noncomputable def gf_Mul_c0 : Code := codeOf (getLoop 0 gf_Mul_c)
def gf_Mul_d0 : LD := { ins := ⟨[(1, (.av (.one (.int .u8)))), (5, (.av (.one (.int .i64)))), (6, (.av (.one (.int .i64))))], []⟩, mov := [], wr := [], outs := [(.exit 0, ⟨[(5, (.av (.one (.int .i64))))], []⟩)], its := [.int, .int, .int], ots := [[.int]] }
noncomputable def gf_Mul_J (N : Nat) : Nat → Hint := fun cx => hintOf cx [(0, { reg := fun k => assoc0 k [], cnd := fun k => assoc0 k [(15, ⟨[], [], [(.normal, ⟨[(5, (.av (.one (.int .i64))))], []⟩)], [[.int]]⟩), (22, ⟨[], [], [(.normal, ⟨[(6, (.av (.one (.int .i64))))], []⟩)], [[.int]]⟩)], loop := fun k => assoc0 k [(0, ⟨gf_Mul_d0, loopF (gf_Mul_b0 N) N⟩)], nil := fun k => assoc0 k [], unr := fun k => assocN k [], blk := fun k => assoc0 k [] })]
noncomputable def gf_Mul_C (N : Nat) : Nat → List GS := fun k => tabOf k []
def gf_Mul_o : List (Shp × List Nat) := [(⟨[(0, (.av (.one (.int .u8))))], []⟩, [])]
noncomputable def gf_Mul_g (N : Nat) : GS := { ins := ⟨[(0, (.av (.one (.int .u8)))), (1, (.av (.one (.int .u8))))], []⟩, lend := [.keep, .keep], outs := gf_Mul_o.map fun s => ssOf s.1, its := [.int, .int], ots := [[.int]], F := gf_Mul N }
theorem gf_Mul_t (N : Nat) : TabC Try.prog (gf_Mul_C N) := tab_ok trivial
theorem gf_Mul_i0 : loopsOf gf_Mul_c0 = [] := by kernel_rfl
theorem gf_Mul_e0 (N : Nat) (next) (x) : gf_Mul_b0 N next x = loopStep Γ (gf_Mul_C N) (gf_Mul_J N) 0 27 gf_Mul_d0 gf_Mul_c0 next x := by kernel_rfl
theorem gf_Mul_k0 (N : Nat) : LoopOK Try.prog 27 gf_Mul_c0 ⟨gf_Mul_d0, loopF (gf_Mul_b0 N) N⟩ := loop_ok tabOK (gf_Mul_t N) mixedOK (J := gf_Mul_J N) (cx := 0) (body := gf_Mul_c0) (nt := 27) (l := gf_Mul_d0) (b := gf_Mul_b0 N) (jok_from gf_Mul_i0 ⟨trivial, trivial⟩) (gf_Mul_e0 N) N
theorem gf_Mul_i : loopsOf gf_Mul_c = [(0, gf_Mul_c0)] := by kernel_rfl
theorem gf_Mul_e (N : Nat) (x) : (gf_Mul_g N).F x = fnStep Γ (gf_Mul_C N) (gf_Mul_J N) 27 Try.f12.results.toList (gf_Mul_g N) gf_Mul_o gf_Mul_c x := by kernel_rfl
theorem gf_Mul_y : Try.f12.body = some gf_Mul_c := by kernel_rfl
theorem gf_Mul_n : (Try.f12.name == "runtime.NumGoroutine") = false := by kernel_rfl
theorem gf_Mul_ok (N : Nat) : FnDoes Try.prog 12 (gf_Mul_g N) := fn_ok tabOK (gf_Mul_t N) mixedOK (J := gf_Mul_J N) (body := gf_Mul_c) Try.func12 gf_Mul_y gf_Mul_n Try.ntmps12 (jok_from gf_Mul_i ⟨⟨.inr ⟨_, rfl, gf_Mul_k0 N⟩, trivial⟩, trivial⟩) rfl rfl (le_of_ble rfl) (gf_Mul_e N)
noncomputable def gf_Add_c : Code := codeOf Try.f13.body
noncomputable def gf_Add_J (N : Nat) : Nat → Hint := fun cx => hintOf cx []
noncomputable def gf_Add_C (N : Nat) : Nat → List GS := fun k => tabOf k []
def gf_Add_o : List (Shp × List Nat) := [(⟨[(0, (.av (.one (.int .u8))))], []⟩, [])]
noncomputable def gf_Add_g (N : Nat) : GS := { ins := ⟨[(0, (.av (.one (.int .u8)))), (1, (.av (.one (.int .u8))))], []⟩, lend := [.keep, .keep], outs := gf_Add_o.map fun s => ssOf s.1, its := [.int, .int], ots := [[.int]], F := gf_Add }
theorem gf_Add_t (N : Nat) : TabC Try.prog (gf_Add_C N) := tab_ok trivial
theorem gf_Add_i : loopsOf gf_Add_c = [] := by kernel_rfl
theorem gf_Add_e (N : Nat) (x) : (gf_Add_g N).F x = fnStep Γ (gf_Add_C N) (gf_Add_J N) 8 Try.f13.results.toList (gf_Add_g N) gf_Add_o gf_Add_c x := by kernel_rfl
theorem gf_Add_y : Try.f13.body = some gf_Add_c := by kernel_rfl
theorem gf_Add_n : (Try.f13.name == "runtime.NumGoroutine") = false := by kernel_rfl
theorem gf_Add_ok (N : Nat) : FnDoes Try.prog 13 (gf_Add_g N) := fn_ok tabOK (gf_Add_t N) mixedOK (J := gf_Add_J N) (body := gf_Add_c) Try.func13 gf_Add_y gf_Add_n Try.ntmps13 (jok_from gf_Add_i trivial) rfl rfl (le_of_ble rfl) (gf_Add_e N)
noncomputable def gf_Pow_c : Code := codeOf Try.f28.body
noncomputable def gf_Pow_c0 : Code := codeOf (getLoop 0 gf_Pow_c)
def gf_Pow_d0 : LD := { ins := ⟨[(0, (.av (.one (.int .u8)))), (1, (.av (.one (.int .i64)))), (5, (.av (.one (.int .u8))))], []⟩, mov := [], wr := [], outs := [(.exit 0, ⟨[(5, (.av (.one (.int .u8))))], []⟩)], its := [.int, .int, .int], ots := [[.int]] }
noncomputable def gf_Pow_J (N : Nat) : Nat → Hint := fun cx => hintOf cx [(0, { reg := fun k => assoc0 k [], cnd := fun k => assoc0 k [(13, ⟨[], [], [(.normal, ⟨[(1, (.av (.one (.int .i64))))], []⟩)], [[.int]]⟩), (22, ⟨[], [], [(.normal, ⟨[(5, (.av (.one (.int .u8))))], []⟩)], [[.int]]⟩)], loop := fun k => assoc0 k [(0, ⟨gf_Pow_d0, loopF (gf_Pow_b0 N) N⟩)], nil := fun k => assoc0 k [], unr := fun k => assocN k [], blk := fun k => assoc0 k [] })]
noncomputable def gf_Pow_C (N : Nat) : Nat → List GS := fun k => tabOf k [(12, [gf_Mul_g N])]
def gf_Pow_o : List (Shp × List Nat) := [(⟨[(0, (.av (.one (.int .u8))))], []⟩, [])]
noncomputable def gf_Pow_g (N : Nat) : GS := { ins := ⟨[(0, (.av (.one (.int .u8)))), (1, (.av (.one (.int .i64))))], []⟩, lend := [.keep, .keep], outs := gf_Pow_o.map fun s => ssOf s.1, its := [.int, .int], ots := [[.int]], F := gf_Pow N }
noncomputable def gf_Pow_CA (N : Nat) (f0 : Int × Int → Option (Int)) : Nat → List GS := fun k => tabOf k [(12, [{ gf_Mul_g N with F := f0 }])]
theorem gf_Pow_CE (N : Nat) : gf_Pow_CA N (gf_Mul N) = gf_Pow_C N := by kernel_rfl
theorem gf_Pow_t (N : Nat) : TabC Try.prog (gf_Pow_C N) := tab_ok ⟨⟨gf_Mul_ok N, trivial⟩, trivial⟩
theorem gf_Pow_i0 : loopsOf gf_Pow_c0 = [] := by kernel_rfl
noncomputable def gf_Pow_a0 (N : Nat) (f0 : Int × Int → Option (Int)) (next : Int × Int × Int → Option (Int)) (x : Int × Int × Int) : Option (Int) :=
  (cond (decide ((0 : Int) < x.2.1))
  (Option.bind
  (cond (decide ((andF .i64 x.2.1 (1 : Int)) = (1 : Int)))
  (Option.bind (f0 (x.2.2, x.1)) fun r4 =>
  (some r4))
  (some x.2.2))
  fun r5 =>
  (Option.bind (f0 (x.1, x.1)) fun r6 =>
  (next (r6, (shrF .i64 x.2.1 (1 : Int)), r5))))
  (some x.2.2))
theorem gf_Pow_f0 (N : Nat) (f0 : Int × Int → Option (Int)) (next) (x) : gf_Pow_a0 N f0 next x = loopStep Γ (gf_Pow_CA N f0) (gf_Pow_J N) 0 30 gf_Pow_d0 gf_Pow_c0 next x := by kernel_rfl
theorem gf_Pow_e0 (N : Nat) (next) (x) : gf_Pow_b0 N next x = loopStep Γ (gf_Pow_C N) (gf_Pow_J N) 0 30 gf_Pow_d0 gf_Pow_c0 next x := by
  rw [← gf_Pow_CE N]
  exact Eq.trans (by kernel_rfl) (gf_Pow_f0 N (gf_Mul N) next x)
theorem gf_Pow_k0 (N : Nat) : LoopOK Try.prog 30 gf_Pow_c0 ⟨gf_Pow_d0, loopF (gf_Pow_b0 N) N⟩ := loop_ok tabOK (gf_Pow_t N) mixedOK (J := gf_Pow_J N) (cx := 0) (body := gf_Pow_c0) (nt := 30) (l := gf_Pow_d0) (b := gf_Pow_b0 N) (jok_from gf_Pow_i0 ⟨trivial, trivial⟩) (gf_Pow_e0 N) N
theorem gf_Pow_i : loopsOf gf_Pow_c = [(0, gf_Pow_c0)] := by kernel_rfl
noncomputable def gf_Pow_a (N : Nat) (f0 : Int × Int → Option (Int)) (x : Int × Int) : Option (Int) :=
  (cond (decide (x.1 = (0 : Int)))
  (cond (decide (x.2 = (0 : Int)))
  (some (1 : Int))
  (some (0 : Int)))
  (let v3 : Int := (Int.tmod x.2 (255 : Int))
  (Option.bind
  (cond (decide (v3 < (0 : Int)))
  (some (wrapF .i64 (v3 + (255 : Int))))
  (some v3))
  fun r6 =>
  (Option.bind (gf_Pow_l0 N (x.1, r6, (1 : Int))) fun r7 =>
  (some r7)))))
theorem gf_Pow_f (N : Nat) (f0 : Int × Int → Option (Int)) (x) : gf_Pow_a N f0 x = fnStep Γ (gf_Pow_CA N f0) (gf_Pow_J N) 30 Try.f28.results.toList (gf_Pow_g N) gf_Pow_o gf_Pow_c x := by kernel_rfl
theorem gf_Pow_e (N : Nat) (x) : (gf_Pow_g N).F x = fnStep Γ (gf_Pow_C N) (gf_Pow_J N) 30 Try.f28.results.toList (gf_Pow_g N) gf_Pow_o gf_Pow_c x := by
  rw [← gf_Pow_CE N]
  exact Eq.trans (by kernel_rfl) (gf_Pow_f N (gf_Mul N) x)
theorem gf_Pow_y : Try.f28.body = some gf_Pow_c := by kernel_rfl
theorem gf_Pow_n : (Try.f28.name == "runtime.NumGoroutine") = false := by kernel_rfl
theorem gf_Pow_ok (N : Nat) : FnDoes Try.prog 28 (gf_Pow_g N) := fn_ok tabOK (gf_Pow_t N) mixedOK (J := gf_Pow_J N) (body := gf_Pow_c) Try.func28 gf_Pow_y gf_Pow_n Try.ntmps28 (jok_from gf_Pow_i ⟨⟨.inr ⟨_, rfl, gf_Pow_k0 N⟩, trivial⟩, trivial⟩) rfl rfl (le_of_ble rfl) (gf_Pow_e N)
noncomputable def gf_Div_c : Code := codeOf Try.f22.body
noncomputable def gf_Div_J (N : Nat) : Nat → Hint := fun cx => hintOf cx []
noncomputable def gf_Div_C (N : Nat) : Nat → List GS := fun k => tabOf k [(28, [gf_Pow_g N]), (12, [gf_Mul_g N])]
def gf_Div_o : List (Shp × List Nat) := [(⟨[(0, (.tup [(.one (.int .u8)), (.one (.int .i64))]))], []⟩, [])]
noncomputable def gf_Div_g (N : Nat) : GS := { ins := ⟨[(0, (.av (.one (.int .u8)))), (1, (.av (.one (.int .u8))))], []⟩, lend := [.keep, .keep], outs := gf_Div_o.map fun s => ssOf s.1, its := [.int, .int], ots := [[.int, .int]], F := gf_Div N }
noncomputable def gf_Div_CA (N : Nat) (f0 : Int × Int → Option (Int)) (f1 : Int × Int → Option (Int)) : Nat → List GS := fun k => tabOf k [(28, [{ gf_Pow_g N with F := f0 }]), (12, [{ gf_Mul_g N with F := f1 }])]
theorem gf_Div_CE (N : Nat) : gf_Div_CA N (gf_Pow N) (gf_Mul N) = gf_Div_C N := by kernel_rfl
theorem gf_Div_t (N : Nat) : TabC Try.prog (gf_Div_C N) := tab_ok ⟨⟨gf_Pow_ok N, trivial⟩, ⟨gf_Mul_ok N, trivial⟩, trivial⟩
theorem gf_Div_i : loopsOf gf_Div_c = [] := by kernel_rfl
noncomputable def gf_Div_a (N : Nat) (f0 : Int × Int → Option (Int)) (f1 : Int × Int → Option (Int)) (x : Int × Int) : Option (Int × Int) :=
  (cond (decide (x.2 = (0 : Int)))
  (some ((0 : Int), (20 : Int)))
  (Option.bind (f0 (x.2, (254 : Int))) fun r2 =>
  (Option.bind (f1 (x.1, r2)) fun r3 =>
  (some (r3, (0 : Int))))))
theorem gf_Div_f (N : Nat) (f0 : Int × Int → Option (Int)) (f1 : Int × Int → Option (Int)) (x) : gf_Div_a N f0 f1 x = fnStep Γ (gf_Div_CA N f0 f1) (gf_Div_J N) 12 Try.f22.results.toList (gf_Div_g N) gf_Div_o gf_Div_c x := by kernel_rfl
theorem gf_Div_e (N : Nat) (x) : (gf_Div_g N).F x = fnStep Γ (gf_Div_C N) (gf_Div_J N) 12 Try.f22.results.toList (gf_Div_g N) gf_Div_o gf_Div_c x := by
  rw [← gf_Div_CE N]
  exact Eq.trans (by kernel_rfl) (gf_Div_f N (gf_Pow N) (gf_Mul N) x)
theorem gf_Div_y : Try.f22.body = some gf_Div_c := by kernel_rfl
theorem gf_Div_n : (Try.f22.name == "runtime.NumGoroutine") = false := by kernel_rfl
theorem gf_Div_ok (N : Nat) : FnDoes Try.prog 22 (gf_Div_g N) := fn_ok tabOK (gf_Div_t N) mixedOK (J := gf_Div_J N) (body := gf_Div_c) Try.func22 gf_Div_y gf_Div_n Try.ntmps22 (jok_from gf_Div_i trivial) rfl rfl (le_of_ble rfl) (gf_Div_e N)
noncomputable def gf_Inv_c : Code := codeOf Try.f14.body
noncomputable def gf_Inv_J (N : Nat) : Nat → Hint := fun cx => hintOf cx []
noncomputable def gf_Inv_C (N : Nat) : Nat → List GS := fun k => tabOf k [(22, [gf_Div_g N])]
def gf_Inv_o : List (Shp × List Nat) := [(⟨[(0, (.tup [(.one (.int .u8)), (.one (.int .i64))]))], []⟩, [])]
noncomputable def gf_Inv_g (N : Nat) : GS := { ins := ⟨[(0, (.av (.one (.int .u8))))], []⟩, lend := [.keep], outs := gf_Inv_o.map fun s => ssOf s.1, its := [.int], ots := [[.int, .int]], F := gf_Inv N }
noncomputable def gf_Inv_CA (N : Nat) (f0 : Int × Int → Option (Int × Int)) : Nat → List GS := fun k => tabOf k [(22, [{ gf_Div_g N with F := f0 }])]
theorem gf_Inv_CE (N : Nat) : gf_Inv_CA N (gf_Div N) = gf_Inv_C N := by kernel_rfl
theorem gf_Inv_t (N : Nat) : TabC Try.prog (gf_Inv_C N) := tab_ok ⟨⟨gf_Div_ok N, trivial⟩, trivial⟩
theorem gf_Inv_i : loopsOf gf_Inv_c = [] := by kernel_rfl
noncomputable def gf_Inv_a (N : Nat) (f0 : Int × Int → Option (Int × Int)) (x : Int) : Option (Int × Int) :=
  (Option.bind (f0 ((1 : Int), x)) fun r1 =>
  (some (r1.1, r1.2)))
theorem gf_Inv_f (N : Nat) (f0 : Int × Int → Option (Int × Int)) (x) : gf_Inv_a N f0 x = fnStep Γ (gf_Inv_CA N f0) (gf_Inv_J N) 8 Try.f14.results.toList (gf_Inv_g N) gf_Inv_o gf_Inv_c x := by kernel_rfl
theorem gf_Inv_e (N : Nat) (x) : (gf_Inv_g N).F x = fnStep Γ (gf_Inv_C N) (gf_Inv_J N) 8 Try.f14.results.toList (gf_Inv_g N) gf_Inv_o gf_Inv_c x := by
  rw [← gf_Inv_CE N]
  exact Eq.trans (by kernel_rfl) (gf_Inv_f N (gf_Div N) x)
theorem gf_Inv_y : Try.f14.body = some gf_Inv_c := by kernel_rfl
theorem gf_Inv_n : (Try.f14.name == "runtime.NumGoroutine") = false := by kernel_rfl
theorem gf_Inv_ok (N : Nat) : FnDoes Try.prog 14 (gf_Inv_g N) := fn_ok tabOK (gf_Inv_t N) mixedOK (J := gf_Inv_J N) (body := gf_Inv_c) Try.func14 gf_Inv_y gf_Inv_n Try.ntmps14 (jok_from gf_Inv_i trivial) rfl rfl (le_of_ble rfl) (gf_Inv_e N)
noncomputable def granarylaw02_num_c : Code := codeOf Try.f15.body
noncomputable def granarylaw02_num_J (N : Nat) : Nat → Hint := fun cx => hintOf cx []
noncomputable def granarylaw02_num_C (N : Nat) : Nat → List GS := fun k => tabOf k []
def granarylaw02_num_o : List (Shp × List Nat) := [(⟨[(0, (.av (.one (.int .i64))))], []⟩, [])]
noncomputable def granarylaw02_num_g (N : Nat) : GS := { ins := ⟨[(0, (.av (.one (.int .i64))))], []⟩, lend := [.keep], outs := granarylaw02_num_o.map fun s => ssOf s.1, its := [.int], ots := [[.int]], F := granarylaw02_num }
theorem granarylaw02_num_t (N : Nat) : TabC Try.prog (granarylaw02_num_C N) := tab_ok trivial
theorem granarylaw02_num_i : loopsOf granarylaw02_num_c = [] := by kernel_rfl
theorem granarylaw02_num_e (N : Nat) (x) : (granarylaw02_num_g N).F x = fnStep Γ (granarylaw02_num_C N) (granarylaw02_num_J N) 4 Try.f15.results.toList (granarylaw02_num_g N) granarylaw02_num_o granarylaw02_num_c x := by kernel_rfl
theorem granarylaw02_num_y : Try.f15.body = some granarylaw02_num_c := by kernel_rfl
theorem granarylaw02_num_n : (Try.f15.name == "runtime.NumGoroutine") = false := by kernel_rfl
theorem granarylaw02_num_ok (N : Nat) : FnDoes Try.prog 15 (granarylaw02_num_g N) := fn_ok tabOK (granarylaw02_num_t N) mixedOK (J := granarylaw02_num_J N) (body := granarylaw02_num_c) Try.func15 granarylaw02_num_y granarylaw02_num_n Try.ntmps15 (jok_from granarylaw02_num_i trivial) rfl rfl (le_of_ble rfl) (granarylaw02_num_e N)
noncomputable def gf_side_c : Code := codeOf Try.f57.body
noncomputable def gf_side_J (N : Nat) : Nat → Hint := fun cx => hintOf cx [(0, { reg := fun k => assoc0 k [(1, ⟨⟨[(2, (.av (.one .bool)))], []⟩, [], [], [.bool]⟩)], cnd := fun k => assoc0 k [], loop := fun k => assoc0 k [], nil := fun k => assoc0 k [], unr := fun k => assocN k [], blk := fun k => assoc0 k [] })]
noncomputable def gf_side_C (N : Nat) : Nat → List GS := fun k => tabOf k []
def gf_side_o : List (Shp × List Nat) := [(⟨[(0, (.av (.one .bool)))], []⟩, [])]
noncomputable def gf_side_g (N : Nat) : GS := { ins := ⟨[(0, (.av (.one (.int .i64))))], []⟩, lend := [.keep], outs := gf_side_o.map fun s => ssOf s.1, its := [.int], ots := [[.bool]], F := gf_side }
theorem gf_side_t (N : Nat) : TabC Try.prog (gf_side_C N) := tab_ok trivial
theorem gf_side_i : loopsOf gf_side_c = [] := by kernel_rfl
theorem gf_side_e (N : Nat) (x) : (gf_side_g N).F x = fnStep Γ (gf_side_C N) (gf_side_J N) 9 Try.f57.results.toList (gf_side_g N) gf_side_o gf_side_c x := by kernel_rfl
theorem gf_side_y : Try.f57.body = some gf_side_c := by kernel_rfl
theorem gf_side_n : (Try.f57.name == "runtime.NumGoroutine") = false := by kernel_rfl
theorem gf_side_ok (N : Nat) : FnDoes Try.prog 57 (gf_side_g N) := fn_ok tabOK (gf_side_t N) mixedOK (J := gf_side_J N) (body := gf_side_c) Try.func57 gf_side_y gf_side_n Try.ntmps57 (jok_from gf_side_i ⟨trivial, trivial⟩) rfl rfl (le_of_ble rfl) (gf_side_e N)
noncomputable def gf_Check_c : Code := codeOf Try.f50.body
noncomputable def gf_Check_J (N : Nat) : Nat → Hint := fun cx => hintOf cx [(0, { reg := fun k => assoc0 k [(1, ⟨⟨[(3, (.av (.one .bool)))], [(.keep, true), (.keep, true), (.keep, false)]⟩, [], [], [.bool]⟩)], cnd := fun k => assoc0 k [], loop := fun k => assoc0 k [], nil := fun k => assoc0 k [], unr := fun k => assocN k [], blk := fun k => assoc0 k [] })]
noncomputable def gf_Check_C (N : Nat) : Nat → List GS := fun k => tabOf k [(57, [gf_side_g N])]
def gf_Check_o : List (Shp × List Nat) := [(⟨[(0, (.av (.one (.int .i64))))], []⟩, [])]
noncomputable def gf_Check_g (N : Nat) : GS := { ins := ⟨[(0, (.av (.agg [(.one (.int .i64)), (.one (.int .i64)), (.one (.rsl (.int .u8)))])))], []⟩, lend := [.keep], outs := gf_Check_o.map fun s => ssOf s.1, its := [.int, .int, .lst (.int .u8)], ots := [[.int]], F := gf_Check }
noncomputable def gf_Check_CA (N : Nat) (f0 : Int → Option (Bool)) : Nat → List GS := fun k => tabOf k [(57, [{ gf_side_g N with F := f0 }])]
theorem gf_Check_CE (N : Nat) : gf_Check_CA N (gf_side) = gf_Check_C N := by kernel_rfl
theorem gf_Check_t (N : Nat) : TabC Try.prog (gf_Check_C N) := tab_ok ⟨⟨gf_side_ok N, trivial⟩, trivial⟩
theorem gf_Check_i : loopsOf gf_Check_c = [] := by kernel_rfl
noncomputable def gf_Check_a (N : Nat) (f0 : Int → Option (Bool)) (x : Int × Int × (List Int)) : Option (Int) :=
  (Option.bind
  (Option.bind (f0 x.1) fun r1 =>
  (cond (!r1)
  (some true)
  (Option.bind (f0 x.2.1) fun r3 =>
  (some (!r3)))))
  fun r5 =>
  (cond r5
  (some (2 : Int))
  (cond (!(decide ((((List.length x.2.2) : Nat) : Int) = (wrapF .i64 (x.1 * x.2.1)))))
  (some (23 : Int))
  (some (0 : Int)))))
theorem gf_Check_f (N : Nat) (f0 : Int → Option (Bool)) (x) : gf_Check_a N f0 x = fnStep Γ (gf_Check_CA N f0) (gf_Check_J N) 24 Try.f50.results.toList (gf_Check_g N) gf_Check_o gf_Check_c x := by kernel_rfl
theorem gf_Check_e (N : Nat) (x) : (gf_Check_g N).F x = fnStep Γ (gf_Check_C N) (gf_Check_J N) 24 Try.f50.results.toList (gf_Check_g N) gf_Check_o gf_Check_c x := by
  rw [← gf_Check_CE N]
  exact Eq.trans (by kernel_rfl) (gf_Check_f N (gf_side) x)
theorem gf_Check_y : Try.f50.body = some gf_Check_c := by kernel_rfl
theorem gf_Check_n : (Try.f50.name == "runtime.NumGoroutine") = false := by kernel_rfl
theorem gf_Check_ok (N : Nat) : FnDoes Try.prog 50 (gf_Check_g N) := fn_ok tabOK (gf_Check_t N) mixedOK (J := gf_Check_J N) (body := gf_Check_c) Try.func50 gf_Check_y gf_Check_n Try.ntmps50 (jok_from gf_Check_i ⟨trivial, trivial⟩) rfl rfl (le_of_ble rfl) (gf_Check_e N)
noncomputable def slices_Clone_byte_byte_c : Code := codeOf Try.f72.body
noncomputable def slices_Clone_byte_byte_J (N : Nat) : Nat → Hint := fun cx => hintOf cx []
noncomputable def slices_Clone_byte_byte_C (N : Nat) : Nat → List GS := fun k => tabOf k []
def slices_Clone_byte_byte_o : List (Shp × List Nat) := [(⟨[(0, (.av (.one (.const (.slw 0 1)))))], [(.sh (.arr (.int .u8) none), false)]⟩, [])]
noncomputable def slices_Clone_byte_byte_g (N : Nat) : GS := { ins := ⟨[(0, (.av (.one (.rsl (.int .u8)))))], []⟩, lend := [.keep], outs := slices_Clone_byte_byte_o.map fun s => ssOf s.1, its := [.lst (.int .u8)], ots := [[.lst (.int .u8)]], F := slices_Clone_byte_byte }
theorem slices_Clone_byte_byte_t (N : Nat) : TabC Try.prog (slices_Clone_byte_byte_C N) := tab_ok trivial
theorem slices_Clone_byte_byte_i : loopsOf slices_Clone_byte_byte_c = [] := by kernel_rfl
theorem slices_Clone_byte_byte_e (N : Nat) (x) : (slices_Clone_byte_byte_g N).F x = fnStep Γ (slices_Clone_byte_byte_C N) (slices_Clone_byte_byte_J N) 8 Try.f72.results.toList (slices_Clone_byte_byte_g N) slices_Clone_byte_byte_o slices_Clone_byte_byte_c x := by kernel_rfl
theorem slices_Clone_byte_byte_y : Try.f72.body = some slices_Clone_byte_byte_c := by kernel_rfl
theorem slices_Clone_byte_byte_n : (Try.f72.name == "runtime.NumGoroutine") = false := by kernel_rfl
theorem slices_Clone_byte_byte_ok (N : Nat) : FnDoes Try.prog 72 (slices_Clone_byte_byte_g N) := fn_ok tabOK (slices_Clone_byte_byte_t N) mixedOK (J := slices_Clone_byte_byte_J N) (body := slices_Clone_byte_byte_c) Try.func72 slices_Clone_byte_byte_y slices_Clone_byte_byte_n Try.ntmps72 (jok_from slices_Clone_byte_byte_i trivial) rfl rfl (le_of_ble rfl) (slices_Clone_byte_byte_e N)
noncomputable def gf_Make_c : Code := codeOf Try.f56.body
noncomputable def gf_Make_J (N : Nat) : Nat → Hint := fun cx => hintOf cx []
noncomputable def gf_Make_C (N : Nat) : Nat → List GS := fun k => tabOf k [(50, [gf_Check_g N]), (72, [slices_Clone_byte_byte_g N])]
def gf_Make_o : List (Shp × List Nat) := [(⟨[(0, (.tup [(.agg [(.one (.int .i64)), (.one (.int .i64)), (.one (.const (.slw 0 1)))]), (.one (.int .i64))]))], [(.sh (.arr (.int .u8) none), false)]⟩, [])]
noncomputable def gf_Make_g (N : Nat) : GS := { ins := ⟨[(0, (.av (.one (.int .i64)))), (1, (.av (.one (.int .i64)))), (2, (.av (.one (.rsl (.int .u8)))))], []⟩, lend := [.keep, .keep, .lend (.int .u8)], outs := gf_Make_o.map fun s => ssOf s.1, its := [.int, .int, .lst (.int .u8)], ots := [[.int, .int, .int, .lst (.int .u8)]], F := gf_Make }
noncomputable def gf_Make_CA (N : Nat) (f0 : Int × Int × (List Int) → Option (Int)) (f1 : (List Int) → Option ((List Int))) : Nat → List GS := fun k => tabOf k [(50, [{ gf_Check_g N with F := f0 }]), (72, [{ slices_Clone_byte_byte_g N with F := f1 }])]
theorem gf_Make_CE (N : Nat) : gf_Make_CA N (gf_Check) (slices_Clone_byte_byte) = gf_Make_C N := by kernel_rfl
theorem gf_Make_t (N : Nat) : TabC Try.prog (gf_Make_C N) := tab_ok ⟨⟨gf_Check_ok N, trivial⟩, ⟨slices_Clone_byte_byte_ok N, trivial⟩, trivial⟩
theorem gf_Make_i : loopsOf gf_Make_c = [] := by kernel_rfl
noncomputable def gf_Make_a (N : Nat) (f0 : Int × Int × (List Int) → Option (Int)) (f1 : (List Int) → Option ((List Int))) (x : Int × Int × (List Int)) : Option (Int × Int × Int × (List Int)) :=
  (Option.bind (f0 (x.1, x.2.1, x.2.2)) fun r1 =>
  (cond (!(decide (r1 = (0 : Int))))
  (some ((0 : Int), (0 : Int), r1, ([] : List Int)))
  (Option.bind (f1 x.2.2) fun r3 =>
  (some (x.1, x.2.1, (0 : Int), r3)))))
theorem gf_Make_f (N : Nat) (f0 : Int × Int × (List Int) → Option (Int)) (f1 : (List Int) → Option ((List Int))) (x) : gf_Make_a N f0 f1 x = fnStep Γ (gf_Make_CA N f0 f1) (gf_Make_J N) 24 Try.f56.results.toList (gf_Make_g N) gf_Make_o gf_Make_c x := by kernel_rfl
theorem gf_Make_e (N : Nat) (x) : (gf_Make_g N).F x = fnStep Γ (gf_Make_C N) (gf_Make_J N) 24 Try.f56.results.toList (gf_Make_g N) gf_Make_o gf_Make_c x := by
  rw [← gf_Make_CE N]
  exact Eq.trans (by kernel_rfl) (gf_Make_f N (gf_Check) (slices_Clone_byte_byte) x)
theorem gf_Make_y : Try.f56.body = some gf_Make_c := by kernel_rfl
theorem gf_Make_n : (Try.f56.name == "runtime.NumGoroutine") = false := by kernel_rfl
theorem gf_Make_ok (N : Nat) : FnDoes Try.prog 56 (gf_Make_g N) := fn_ok tabOK (gf_Make_t N) mixedOK (J := gf_Make_J N) (body := gf_Make_c) Try.func56 gf_Make_y gf_Make_n Try.ntmps56 (jok_from gf_Make_i trivial) rfl rfl (le_of_ble rfl) (gf_Make_e N)
noncomputable def gf_zeros_c : Code := codeOf Try.f58.body
noncomputable def gf_zeros_J (N : Nat) : Nat → Hint := fun cx => hintOf cx []
noncomputable def gf_zeros_C (N : Nat) : Nat → List GS := fun k => tabOf k []
def gf_zeros_o : List (Shp × List Nat) := [(⟨[(0, (.av (.agg [(.one (.int .i64)), (.one (.int .i64)), (.one (.const (.slw 0 1)))])))], [(.sh (.arr (.int .u8) none), false)]⟩, [])]
noncomputable def gf_zeros_g (N : Nat) : GS := { ins := ⟨[(0, (.av (.one (.int .i64)))), (1, (.av (.one (.int .i64))))], []⟩, lend := [.keep, .keep], outs := gf_zeros_o.map fun s => ssOf s.1, its := [.int, .int], ots := [[.int, .int, .lst (.int .u8)]], F := gf_zeros }
theorem gf_zeros_t (N : Nat) : TabC Try.prog (gf_zeros_C N) := tab_ok trivial
theorem gf_zeros_i : loopsOf gf_zeros_c = [] := by kernel_rfl
theorem gf_zeros_e (N : Nat) (x) : (gf_zeros_g N).F x = fnStep Γ (gf_zeros_C N) (gf_zeros_J N) 12 Try.f58.results.toList (gf_zeros_g N) gf_zeros_o gf_zeros_c x := by kernel_rfl
theorem gf_zeros_y : Try.f58.body = some gf_zeros_c := by kernel_rfl
theorem gf_zeros_n : (Try.f58.name == "runtime.NumGoroutine") = false := by kernel_rfl
theorem gf_zeros_ok (N : Nat) : FnDoes Try.prog 58 (gf_zeros_g N) := fn_ok tabOK (gf_zeros_t N) mixedOK (J := gf_zeros_J N) (body := gf_zeros_c) Try.func58 gf_zeros_y gf_zeros_n Try.ntmps58 (jok_from gf_zeros_i trivial) rfl rfl (le_of_ble rfl) (gf_zeros_e N)
noncomputable def gf_row_c : Code := codeOf Try.f59.body
noncomputable def gf_row_J (N : Nat) : Nat → Hint := fun cx => hintOf cx []
noncomputable def gf_row_C (N : Nat) : Nat → List GS := fun k => tabOf k []
def gf_row_o : List (Shp × List Nat) := [(⟨[(0, (.av (.one (.sl 0 1))))], [(.sh (.arr (.int .u8) none), false)]⟩, [])]
noncomputable def gf_row_g (N : Nat) : GS := { ins := ⟨[(0, (.av (.agg [(.one (.int .i64)), (.one (.int .i64)), (.one (.const (.slw 0 1)))]))), (1, (.av (.one (.int .i64))))], [(some (.arr (.int .u8) none), false)]⟩, lend := [.keep, .keep], outs := gf_row_o.map fun s => ssOf s.1, its := [.int, .int, .int, .lst (.int .u8)], ots := [[.nat, .nat, .lst (.int .u8)]], F := gf_row }
theorem gf_row_t (N : Nat) : TabC Try.prog (gf_row_C N) := tab_ok trivial
theorem gf_row_i : loopsOf gf_row_c = [] := by kernel_rfl
theorem gf_row_e (N : Nat) (x) : (gf_row_g N).F x = fnStep Γ (gf_row_C N) (gf_row_J N) 22 Try.f59.results.toList (gf_row_g N) gf_row_o gf_row_c x := by kernel_rfl
theorem gf_row_y : Try.f59.body = some gf_row_c := by kernel_rfl
theorem gf_row_n : (Try.f59.name == "runtime.NumGoroutine") = false := by kernel_rfl
theorem gf_row_ok (N : Nat) : FnDoes Try.prog 59 (gf_row_g N) := fn_ok tabOK (gf_row_t N) mixedOK (J := gf_row_J N) (body := gf_row_c) Try.func59 gf_row_y gf_row_n Try.ntmps59 (jok_from gf_row_i trivial) rfl rfl (le_of_ble rfl) (gf_row_e N)
noncomputable def gf_Identity_c : Code := codeOf Try.f17.body
noncomputable def gf_Identity_c0 : Code := codeOf (getLoop 0 gf_Identity_c)
def gf_Identity_d0 : LD := { ins := ⟨[(2, (.av (.one (.const (.ptr ⟨0, 0, 0, 0⟩))))), (4, (.av (.one (.const (.ptr ⟨4, 0, 0, 0⟩))))), (13, (.av (.one (.int .i64)))), (14, (.av (.one (.int .i64))))], [(.keep, false), (.keep, false), (.keep, false), (.sh (.arr (.int .u8) none), false), (.sh (.one (.int .i64)), true), (.sh (.one (.int .i64)), true), (.sh (.one (.const (.slw 3 1))), false)]⟩, mov := [], wr := [3, 4, 5, 6], outs := [(.exit 0, ⟨[], [(.keep, false), (.keep, false), (.keep, false), (.sh (.arr (.int .u8) none), false), (.sh (.one (.int .i64)), true), (.sh (.one (.int .i64)), true), (.sh (.one (.const (.slw 3 1))), false)]⟩)], its := [.int, .int, .lst (.int .u8), .int, .int], ots := [[.lst (.int .u8), .int, .int]] }
noncomputable def gf_Identity_J (N : Nat) : Nat → Hint := fun cx => hintOf cx [(0, { reg := fun k => assoc0 k [], cnd := fun k => assoc0 k [], loop := fun k => assoc0 k [(0, ⟨gf_Identity_d0, loopF (gf_Identity_b0 N) N⟩)], nil := fun k => assoc0 k [], unr := fun k => assocN k [], blk := fun k => assoc0 k [] })]
noncomputable def gf_Identity_C (N : Nat) : Nat → List GS := fun k => tabOf k [(57, [gf_side_g N]), (58, [gf_zeros_g N]), (59, [gf_row_g N])]
def gf_Identity_o : List (Shp × List Nat) := [(⟨[(0, (.tup [(.agg [(.one (.int .i64)), (.one (.int .i64)), (.one (.const (.slw 0 1)))]), (.one (.int .i64))]))], [(.sh (.arr (.int .u8) none), false)]⟩, [])]
noncomputable def gf_Identity_g (N : Nat) : GS := { ins := ⟨[(0, (.av (.one (.int .i64))))], []⟩, lend := [.keep], outs := gf_Identity_o.map fun s => ssOf s.1, its := [.int], ots := [[.int, .int, .int, .lst (.int .u8)]], F := gf_Identity N }
noncomputable def gf_Identity_CA (N : Nat) (f0 : Int → Option (Bool)) (f1 : Int × Int → Option (Int × Int × (List Int))) (f2 : Int × Int × Int × (List Int) → Option (Nat × Nat × (List Int))) : Nat → List GS := fun k => tabOf k [(57, [{ gf_side_g N with F := f0 }]), (58, [{ gf_zeros_g N with F := f1 }]), (59, [{ gf_row_g N with F := f2 }])]
theorem gf_Identity_CE (N : Nat) : gf_Identity_CA N (gf_side) (gf_zeros) (gf_row) = gf_Identity_C N := by kernel_rfl
theorem gf_Identity_t (N : Nat) : TabC Try.prog (gf_Identity_C N) := tab_ok ⟨⟨gf_side_ok N, trivial⟩, ⟨gf_zeros_ok N, trivial⟩, ⟨gf_row_ok N, trivial⟩, trivial⟩
theorem gf_Identity_i0 : loopsOf gf_Identity_c0 = [] := by kernel_rfl
noncomputable def gf_Identity_a0 (N : Nat) (f0 : Int → Option (Bool)) (f1 : Int × Int → Option (Int × Int × (List Int))) (f2 : Int × Int × Int × (List Int) → Option (Nat × Nat × (List Int))) (next : Int × Int × (List Int) × Int × Int → Option (((List Int) × Int × Int))) (x : Int × Int × (List Int) × Int × Int) : Option (((List Int) × Int × Int)) :=
  (cond (decide (x.2.1 < x.1))
  (Option.bind (f2 (x.2.2.2.1, x.2.2.2.2, x.2.1, x.2.2.1)) fun r2 =>
  (cond ((decide ((0 : Int) ≤ x.2.1)) && (decide (x.2.1 < ((r2.2.1 : Nat) : Int))))
  ((let v3 : Nat := ((Int.toNat x.2.1) + r2.1)
  (cond (decide (v3 < (List.length r2.2.2)))
  ((next (x.1, (wrapF .i64 (x.2.1 + (1 : Int))), (List.set r2.2.2 v3 (1 : Int)), x.2.2.2.1, x.2.2.2.2)))
  none)))
  none))
  (some (x.2.2.1, x.2.2.2.1, x.2.2.2.2)))
theorem gf_Identity_f0 (N : Nat) (f0 : Int → Option (Bool)) (f1 : Int × Int → Option (Int × Int × (List Int))) (f2 : Int × Int × Int × (List Int) → Option (Nat × Nat × (List Int))) (next) (x) : gf_Identity_a0 N f0 f1 f2 next x = loopStep Γ (gf_Identity_CA N f0 f1 f2) (gf_Identity_J N) 0 24 gf_Identity_d0 gf_Identity_c0 next x := by kernel_rfl
theorem gf_Identity_e0 (N : Nat) (next) (x) : gf_Identity_b0 N next x = loopStep Γ (gf_Identity_C N) (gf_Identity_J N) 0 24 gf_Identity_d0 gf_Identity_c0 next x := by
  rw [← gf_Identity_CE N]
  exact Eq.trans (by kernel_rfl) (gf_Identity_f0 N (gf_side) (gf_zeros) (gf_row) next x)
theorem gf_Identity_k0 (N : Nat) : LoopOK Try.prog 24 gf_Identity_c0 ⟨gf_Identity_d0, loopF (gf_Identity_b0 N) N⟩ := loop_ok tabOK (gf_Identity_t N) mixedOK (J := gf_Identity_J N) (cx := 0) (body := gf_Identity_c0) (nt := 24) (l := gf_Identity_d0) (b := gf_Identity_b0 N) (jok_from gf_Identity_i0 ⟨trivial, trivial⟩) (gf_Identity_e0 N) N
theorem gf_Identity_i : loopsOf gf_Identity_c = [(0, gf_Identity_c0)] := by kernel_rfl
noncomputable def gf_Identity_a (N : Nat) (f0 : Int → Option (Bool)) (f1 : Int × Int → Option (Int × Int × (List Int))) (f2 : Int × Int × Int × (List Int) → Option (Nat × Nat × (List Int))) (x : Int) : Option (Int × Int × Int × (List Int)) :=
  (Option.bind (f0 x) fun r1 =>
  (cond (!r1)
  (some ((0 : Int), (0 : Int), (2 : Int), ([] : List Int)))
  (Option.bind (f1 (x, x)) fun r3 =>
  (Option.bind (gf_Identity_l0 N (x, (0 : Int), r3.2.2, r3.1, r3.2.1)) fun r4 =>
  (some (r4.2.1, r4.2.2, (0 : Int), r4.1))))))
theorem gf_Identity_f (N : Nat) (f0 : Int → Option (Bool)) (f1 : Int × Int → Option (Int × Int × (List Int))) (f2 : Int × Int × Int × (List Int) → Option (Nat × Nat × (List Int))) (x) : gf_Identity_a N f0 f1 f2 x = fnStep Γ (gf_Identity_CA N f0 f1 f2) (gf_Identity_J N) 24 Try.f17.results.toList (gf_Identity_g N) gf_Identity_o gf_Identity_c x := by kernel_rfl
theorem gf_Identity_e (N : Nat) (x) : (gf_Identity_g N).F x = fnStep Γ (gf_Identity_C N) (gf_Identity_J N) 24 Try.f17.results.toList (gf_Identity_g N) gf_Identity_o gf_Identity_c x := by
  rw [← gf_Identity_CE N]
  exact Eq.trans (by kernel_rfl) (gf_Identity_f N (gf_side) (gf_zeros) (gf_row) x)
theorem gf_Identity_y : Try.f17.body = some gf_Identity_c := by kernel_rfl
theorem gf_Identity_n : (Try.f17.name == "runtime.NumGoroutine") = false := by kernel_rfl
theorem gf_Identity_ok (N : Nat) : FnDoes Try.prog 17 (gf_Identity_g N) := fn_ok tabOK (gf_Identity_t N) mixedOK (J := gf_Identity_J N) (body := gf_Identity_c) Try.func17 gf_Identity_y gf_Identity_n Try.ntmps17 (jok_from gf_Identity_i ⟨⟨.inr ⟨_, rfl, gf_Identity_k0 N⟩, trivial⟩, trivial⟩) rfl rfl (le_of_ble rfl) (gf_Identity_e N)
noncomputable def gf_own_c : Code := codeOf Try.f64.body
noncomputable def gf_own_J (N : Nat) : Nat → Hint := fun cx => hintOf cx []
noncomputable def gf_own_C (N : Nat) : Nat → List GS := fun k => tabOf k [(72, [slices_Clone_byte_byte_g N])]
def gf_own_o : List (Shp × List Nat) := [(⟨[(0, (.av (.agg [(.one (.int .i64)), (.one (.int .i64)), (.one (.const (.slw 0 1)))])))], [(.sh (.arr (.int .u8) none), false)]⟩, [])]
noncomputable def gf_own_g (N : Nat) : GS := { ins := ⟨[(0, (.av (.agg [(.one (.int .i64)), (.one (.int .i64)), (.one (.rsl (.int .u8)))])))], []⟩, lend := [.keep], outs := gf_own_o.map fun s => ssOf s.1, its := [.int, .int, .lst (.int .u8)], ots := [[.int, .int, .lst (.int .u8)]], F := gf_own }
noncomputable def gf_own_CA (N : Nat) (f0 : (List Int) → Option ((List Int))) : Nat → List GS := fun k => tabOf k [(72, [{ slices_Clone_byte_byte_g N with F := f0 }])]
theorem gf_own_CE (N : Nat) : gf_own_CA N (slices_Clone_byte_byte) = gf_own_C N := by kernel_rfl
theorem gf_own_t (N : Nat) : TabC Try.prog (gf_own_C N) := tab_ok ⟨⟨slices_Clone_byte_byte_ok N, trivial⟩, trivial⟩
theorem gf_own_i : loopsOf gf_own_c = [] := by kernel_rfl
noncomputable def gf_own_a (N : Nat) (f0 : (List Int) → Option ((List Int))) (x : Int × Int × (List Int)) : Option (Int × Int × (List Int)) :=
  (Option.bind (f0 x.2.2) fun r1 =>
  (some (x.1, x.2.1, r1)))
theorem gf_own_f (N : Nat) (f0 : (List Int) → Option ((List Int))) (x) : gf_own_a N f0 x = fnStep Γ (gf_own_CA N f0) (gf_own_J N) 8 Try.f64.results.toList (gf_own_g N) gf_own_o gf_own_c x := by kernel_rfl
theorem gf_own_e (N : Nat) (x) : (gf_own_g N).F x = fnStep Γ (gf_own_C N) (gf_own_J N) 8 Try.f64.results.toList (gf_own_g N) gf_own_o gf_own_c x := by
  rw [← gf_own_CE N]
  exact Eq.trans (by kernel_rfl) (gf_own_f N (slices_Clone_byte_byte) x)
theorem gf_own_y : Try.f64.body = some gf_own_c := by kernel_rfl
theorem gf_own_n : (Try.f64.name == "runtime.NumGoroutine") = false := by kernel_rfl
theorem gf_own_ok (N : Nat) : FnDoes Try.prog 64 (gf_own_g N) := fn_ok tabOK (gf_own_t N) mixedOK (J := gf_own_J N) (body := gf_own_c) Try.func64 gf_own_y gf_own_n Try.ntmps64 (jok_from gf_own_i trivial) rfl rfl (le_of_ble rfl) (gf_own_e N)
noncomputable def gf_Scale_c : Code := codeOf Try.f45.body
noncomputable def gf_Scale_c0 : Code := codeOf (getLoop 0 gf_Scale_c)
def gf_Scale_d0 : LD := { ins := ⟨[(0, (.av (.one (.int .u8)))), (5, (.av (.one (.const (.slw 0 1))))), (11, (.av (.one (.rsl (.int .u8))))), (12, (.av (.one (.int .i64)))), (13, (.av (.one (.int .i64))))], [(.sh (.arr (.int .u8) none), false)]⟩, mov := [], wr := [0], outs := [(.exit 0, ⟨[], [(.sh (.arr (.int .u8) none), false)]⟩)], its := [.int, .lst (.int .u8), .int, .int, .lst (.int .u8)], ots := [[.lst (.int .u8)]] }
noncomputable def gf_Scale_J (N : Nat) : Nat → Hint := fun cx => hintOf cx [(0, { reg := fun k => assoc0 k [], cnd := fun k => assoc0 k [], loop := fun k => assoc0 k [(0, ⟨gf_Scale_d0, loopF (gf_Scale_b0 N) N⟩)], nil := fun k => assoc0 k [], unr := fun k => assocN k [], blk := fun k => assoc0 k [] })]
noncomputable def gf_Scale_C (N : Nat) : Nat → List GS := fun k => tabOf k [(12, [gf_Mul_g N])]
def gf_Scale_o : List (Shp × List Nat) := [(⟨[(0, (.av (.one (.const (.slw 0 1)))))], [(.sh (.arr (.int .u8) none), false)]⟩, [])]
noncomputable def gf_Scale_g (N : Nat) : GS := { ins := ⟨[(0, (.av (.one (.int .u8)))), (1, (.av (.one (.rsl (.int .u8)))))], []⟩, lend := [.keep, .lend (.int .u8)], outs := gf_Scale_o.map fun s => ssOf s.1, its := [.int, .lst (.int .u8)], ots := [[.lst (.int .u8)]], F := gf_Scale N }
noncomputable def gf_Scale_CA (N : Nat) (f0 : Int × Int → Option (Int)) : Nat → List GS := fun k => tabOf k [(12, [{ gf_Mul_g N with F := f0 }])]
theorem gf_Scale_CE (N : Nat) : gf_Scale_CA N (gf_Mul N) = gf_Scale_C N := by kernel_rfl
theorem gf_Scale_t (N : Nat) : TabC Try.prog (gf_Scale_C N) := tab_ok ⟨⟨gf_Mul_ok N, trivial⟩, trivial⟩
theorem gf_Scale_i0 : loopsOf gf_Scale_c0 = [] := by kernel_rfl
noncomputable def gf_Scale_a0 (N : Nat) (f0 : Int × Int → Option (Int)) (next : Int × (List Int) × Int × Int × (List Int) → Option (((List Int)))) (x : Int × (List Int) × Int × Int × (List Int)) : Option (((List Int))) :=
  (cond (decide (x.2.2.2.1 < x.2.2.1))
  (cond ((decide ((0 : Int) ≤ x.2.2.2.1)) && (decide (x.2.2.2.1 < (((List.length x.2.1) : Nat) : Int))))
  ((Option.bind (f0 (x.1, (List.getD x.2.1 (Int.toNat x.2.2.2.1) (EK.dflt (.int .u8))))) fun r3 =>
  (cond ((decide ((0 : Int) ≤ x.2.2.2.1)) && (decide (x.2.2.2.1 < (((List.length x.2.2.2.2) : Nat) : Int))))
  ((let v4 : Nat := (Int.toNat x.2.2.2.1)
  (cond (decide (v4 < (List.length x.2.2.2.2)))
  ((next (x.1, x.2.1, x.2.2.1, (wrapF .i64 (x.2.2.2.1 + (1 : Int))), (List.set x.2.2.2.2 v4 r3))))
  none)))
  none)))
  none)
  (some x.2.2.2.2))
theorem gf_Scale_f0 (N : Nat) (f0 : Int × Int → Option (Int)) (next) (x) : gf_Scale_a0 N f0 next x = loopStep Γ (gf_Scale_CA N f0) (gf_Scale_J N) 0 26 gf_Scale_d0 gf_Scale_c0 next x := by kernel_rfl
theorem gf_Scale_e0 (N : Nat) (next) (x) : gf_Scale_b0 N next x = loopStep Γ (gf_Scale_C N) (gf_Scale_J N) 0 26 gf_Scale_d0 gf_Scale_c0 next x := by
  rw [← gf_Scale_CE N]
  exact Eq.trans (by kernel_rfl) (gf_Scale_f0 N (gf_Mul N) next x)
theorem gf_Scale_k0 (N : Nat) : LoopOK Try.prog 26 gf_Scale_c0 ⟨gf_Scale_d0, loopF (gf_Scale_b0 N) N⟩ := loop_ok tabOK (gf_Scale_t N) mixedOK (J := gf_Scale_J N) (cx := 0) (body := gf_Scale_c0) (nt := 26) (l := gf_Scale_d0) (b := gf_Scale_b0 N) (jok_from gf_Scale_i0 ⟨trivial, trivial⟩) (gf_Scale_e0 N) N
theorem gf_Scale_i : loopsOf gf_Scale_c = [(0, gf_Scale_c0)] := by kernel_rfl
noncomputable def gf_Scale_a (N : Nat) (f0 : Int × Int → Option (Int)) (x : Int × (List Int)) : Option ((List Int)) :=
  (let v1 : Int := (((List.length x.2) : Nat) : Int)
  (cond ((decide ((0 : Int) ≤ v1)) && (fits 1 (Int.toNat v1)))
  ((Option.bind (gf_Scale_l0 N (x.1, x.2, (((List.length x.2) : Nat) : Int), (0 : Int), (List.replicate (Int.toNat v1) (EK.dflt (.int .u8))))) fun r4 =>
  (some r4)))
  none))
theorem gf_Scale_f (N : Nat) (f0 : Int × Int → Option (Int)) (x) : gf_Scale_a N f0 x = fnStep Γ (gf_Scale_CA N f0) (gf_Scale_J N) 26 Try.f45.results.toList (gf_Scale_g N) gf_Scale_o gf_Scale_c x := by kernel_rfl
theorem gf_Scale_e (N : Nat) (x) : (gf_Scale_g N).F x = fnStep Γ (gf_Scale_C N) (gf_Scale_J N) 26 Try.f45.results.toList (gf_Scale_g N) gf_Scale_o gf_Scale_c x := by
  rw [← gf_Scale_CE N]
  exact Eq.trans (by kernel_rfl) (gf_Scale_f N (gf_Mul N) x)
theorem gf_Scale_y : Try.f45.body = some gf_Scale_c := by kernel_rfl
theorem gf_Scale_n : (Try.f45.name == "runtime.NumGoroutine") = false := by kernel_rfl
theorem gf_Scale_ok (N : Nat) : FnDoes Try.prog 45 (gf_Scale_g N) := fn_ok tabOK (gf_Scale_t N) mixedOK (J := gf_Scale_J N) (body := gf_Scale_c) Try.func45 gf_Scale_y gf_Scale_n Try.ntmps45 (jok_from gf_Scale_i ⟨⟨.inr ⟨_, rfl, gf_Scale_k0 N⟩, trivial⟩, trivial⟩) rfl rfl (le_of_ble rfl) (gf_Scale_e N)
noncomputable def gf_add_c : Code := codeOf Try.f66.body
noncomputable def gf_add_c0 : Code := codeOf (getLoop 0 gf_add_c)
def gf_add_d0 : LD := { ins := ⟨[(0, (.av (.one (.sl 0 1)))), (1, (.av (.one (.int .u8)))), (10, (.av (.one (.sl 0 1)))), (11, (.av (.one (.int .i64)))), (12, (.av (.one (.int .i64))))], [(.sh (.arr (.int .u8) none), false)]⟩, mov := [], wr := [0], outs := [(.exit 0, ⟨[], [(.sh (.arr (.int .u8) none), false)]⟩)], its := [.nat, .nat, .int, .nat, .nat, .int, .int, .lst (.int .u8)], ots := [[.lst (.int .u8)]] }
noncomputable def gf_add_J (N : Nat) : Nat → Hint := fun cx => hintOf cx [(0, { reg := fun k => assoc0 k [], cnd := fun k => assoc0 k [], loop := fun k => assoc0 k [(0, ⟨gf_add_d0, loopF (gf_add_b0 N) N⟩)], nil := fun k => assoc0 k [], unr := fun k => assocN k [], blk := fun k => assoc0 k [] })]
noncomputable def gf_add_C (N : Nat) : Nat → List GS := fun k => tabOf k [(12, [gf_Mul_g N])]
def gf_add_o : List (Shp × List Nat) := [(⟨[(0, (.tup []))], [(.sh (.arr (.int .u8) none), false)]⟩, [])]
noncomputable def gf_add_g (N : Nat) : GS := { ins := ⟨[(0, (.av (.one (.sl 0 1)))), (1, (.av (.one (.int .u8)))), (2, (.av (.one (.sl 0 1))))], [(some (.arr (.int .u8) none), false)]⟩, lend := [.keep, .keep, .keep], outs := gf_add_o.map fun s => ssOf s.1, its := [.nat, .nat, .int, .nat, .nat, .lst (.int .u8)], ots := [[.lst (.int .u8)]], F := gf_add N }
noncomputable def gf_add_CA (N : Nat) (f0 : Int × Int → Option (Int)) : Nat → List GS := fun k => tabOf k [(12, [{ gf_Mul_g N with F := f0 }])]
theorem gf_add_CE (N : Nat) : gf_add_CA N (gf_Mul N) = gf_add_C N := by kernel_rfl
theorem gf_add_t (N : Nat) : TabC Try.prog (gf_add_C N) := tab_ok ⟨⟨gf_Mul_ok N, trivial⟩, trivial⟩
theorem gf_add_i0 : loopsOf gf_add_c0 = [] := by kernel_rfl
noncomputable def gf_add_a0 (N : Nat) (f0 : Int × Int → Option (Int)) (next : Nat × Nat × Int × Nat × Nat × Int × Int × (List Int) → Option (((List Int)))) (x : Nat × Nat × Int × Nat × Nat × Int × Int × (List Int)) : Option (((List Int))) :=
  (cond (decide (x.2.2.2.2.2.2.1 < x.2.2.2.2.2.1))
  (cond ((decide ((0 : Int) ≤ x.2.2.2.2.2.2.1)) && (decide (x.2.2.2.2.2.2.1 < ((x.2.2.2.2.1 : Nat) : Int))))
  ((let v2 : Nat := ((Int.toNat x.2.2.2.2.2.2.1) + x.2.2.2.1)
  (cond (decide (v2 < (List.length x.2.2.2.2.2.2.2)))
  ((cond ((decide ((0 : Int) ≤ x.2.2.2.2.2.2.1)) && (decide (x.2.2.2.2.2.2.1 < ((x.2.1 : Nat) : Int))))
  ((let v4 : Nat := ((Int.toNat x.2.2.2.2.2.2.1) + x.1)
  (cond (decide (v4 < (List.length x.2.2.2.2.2.2.2)))
  ((Option.bind (f0 (x.2.2.1, (List.getD x.2.2.2.2.2.2.2 v2 (EK.dflt (.int .u8))))) fun r6 =>
  (cond ((decide ((0 : Int) ≤ x.2.2.2.2.2.2.1)) && (decide (x.2.2.2.2.2.2.1 < ((x.2.1 : Nat) : Int))))
  ((let v8 : Nat := ((Int.toNat x.2.2.2.2.2.2.1) + x.1)
  (cond (decide (v8 < (List.length x.2.2.2.2.2.2.2)))
  ((next (x.1, x.2.1, x.2.2.1, x.2.2.2.1, x.2.2.2.2.1, x.2.2.2.2.2.1, (wrapF .i64 (x.2.2.2.2.2.2.1 + (1 : Int))), (List.set x.2.2.2.2.2.2.2 v8 (xorF .u8 (List.getD x.2.2.2.2.2.2.2 v4 (EK.dflt (.int .u8))) r6)))))
  none)))
  none)))
  none)))
  none))
  none)))
  none)
  (some x.2.2.2.2.2.2.2))
theorem gf_add_f0 (N : Nat) (f0 : Int × Int → Option (Int)) (next) (x) : gf_add_a0 N f0 next x = loopStep Γ (gf_add_CA N f0) (gf_add_J N) 0 27 gf_add_d0 gf_add_c0 next x := by kernel_rfl
theorem gf_add_e0 (N : Nat) (next) (x) : gf_add_b0 N next x = loopStep Γ (gf_add_C N) (gf_add_J N) 0 27 gf_add_d0 gf_add_c0 next x := by
  rw [← gf_add_CE N]
  exact Eq.trans (by kernel_rfl) (gf_add_f0 N (gf_Mul N) next x)
theorem gf_add_k0 (N : Nat) : LoopOK Try.prog 27 gf_add_c0 ⟨gf_add_d0, loopF (gf_add_b0 N) N⟩ := loop_ok tabOK (gf_add_t N) mixedOK (J := gf_add_J N) (cx := 0) (body := gf_add_c0) (nt := 27) (l := gf_add_d0) (b := gf_add_b0 N) (jok_from gf_add_i0 ⟨trivial, trivial⟩) (gf_add_e0 N) N
theorem gf_add_i : loopsOf gf_add_c = [(0, gf_add_c0)] := by kernel_rfl
noncomputable def gf_add_a (N : Nat) (f0 : Int × Int → Option (Int)) (x : Nat × Nat × Int × Nat × Nat × (List Int)) : Option ((List Int)) :=
  (cond (decide (x.2.2.1 = (0 : Int)))
  (some x.2.2.2.2.2)
  (Option.bind (gf_add_l0 N (x.1, x.2.1, x.2.2.1, x.2.2.2.1, x.2.2.2.2.1, ((x.2.2.2.2.1 : Nat) : Int), (0 : Int), x.2.2.2.2.2)) fun r3 =>
  (some r3)))
theorem gf_add_f (N : Nat) (f0 : Int × Int → Option (Int)) (x) : gf_add_a N f0 x = fnStep Γ (gf_add_CA N f0) (gf_add_J N) 27 Try.f66.results.toList (gf_add_g N) gf_add_o gf_add_c x := by kernel_rfl
theorem gf_add_e (N : Nat) (x) : (gf_add_g N).F x = fnStep Γ (gf_add_C N) (gf_add_J N) 27 Try.f66.results.toList (gf_add_g N) gf_add_o gf_add_c x := by
  rw [← gf_add_CE N]
  exact Eq.trans (by kernel_rfl) (gf_add_f N (gf_Mul N) x)
theorem gf_add_y : Try.f66.body = some gf_add_c := by kernel_rfl
theorem gf_add_n : (Try.f66.name == "runtime.NumGoroutine") = false := by kernel_rfl
theorem gf_add_ok (N : Nat) : FnDoes Try.prog 66 (gf_add_g N) := fn_ok tabOK (gf_add_t N) mixedOK (J := gf_add_J N) (body := gf_add_c) Try.func66 gf_add_y gf_add_n Try.ntmps66 (jok_from gf_add_i ⟨⟨.inr ⟨_, rfl, gf_add_k0 N⟩, trivial⟩, trivial⟩) rfl rfl (le_of_ble rfl) (gf_add_e N)
noncomputable def gf_clear2_c : Code := codeOf Try.f63.body
noncomputable def gf_clear2_c0 : Code := codeOf (getLoop 0 gf_clear2_c)
noncomputable def gf_clear2_c2 : Code := codeOf (getLoop 2 gf_clear2_c)
noncomputable def gf_clear2_c6 : Code := codeOf (getLoop 6 gf_clear2_c)
noncomputable def gf_clear2_c8 : Code := codeOf (getLoop 8 gf_clear2_c)
def gf_clear2_d2 : LD := { ins := ⟨[(2, (.av (.one (.const (.ptr ⟨2, 0, 0, 0⟩))))), (3, (.av (.one (.const (.ptr ⟨5, 0, 0, 0⟩))))), (5, (.av (.one (.int .i64)))), (6, (.av (.one (.int .i64)))), (7, (.av (.one (.int .i64)))), (18, (.av (.one (.int .i64)))), (19, (.av (.one (.int .i64))))], [(.sh (.arr (.int .u8) none), false), (.keep, false), (.sh (.one (.int .i64)), true), (.sh (.one (.int .i64)), true), (.sh (.one (.const (.slw 0 1))), false), (.keep, false), (.keep, false), (.keep, false)]⟩, mov := [], wr := [0, 2, 3, 4], outs := [(.exit 2, ⟨[(7, (.av (.one (.int .i64))))], [(.sh (.arr (.int .u8) none), false), (.keep, false), (.sh (.one (.int .i64)), true), (.sh (.one (.int .i64)), true), (.sh (.one (.const (.slw 0 1))), false), (.keep, false), (.keep, false), (.keep, false)]⟩)], its := [.int, .int, .int, .int, .int, .lst (.int .u8), .int, .int], ots := [[.int, .lst (.int .u8), .int, .int]] }
def gf_clear2_d6_1 : LD := { ins := ⟨[(2, (.av (.one (.const (.ptr ⟨2, 0, 0, 0⟩))))), (3, (.av (.one (.const (.ptr ⟨5, 0, 0, 0⟩))))), (5, (.av (.one (.int .i64)))), (6, (.av (.one (.int .i64)))), (7, (.av (.one (.int .i64)))), (8, (.av (.one (.int .u8)))), (12, (.av (.one (.sl 0 1)))), (13, (.av (.one (.sl 0 1)))), (18, (.av (.one (.int .i64)))), (19, (.av (.one (.int .i64)))), (54, (.av (.one (.sl 8 3)))), (55, (.av (.one (.const (.int .i64 (2 : Int)))))), (56, (.av (.one (.const (.int .i64 (0 : Int)))))), (70, (.av (.one (.int .i64)))), (71, (.av (.one (.int .i64))))], [(.sh (.arr (.int .u8) none), false), (.keep, false), (.keep, false), (.keep, false), (.keep, false), (.keep, false), (.keep, false), (.keep, false), (.keep, false), (.keep, false), (.keep, false), (.keep, false)]⟩, mov := [], wr := [0], outs := [(.exit 6, ⟨[], [(.sh (.arr (.int .u8) none), false), (.keep, false), (.keep, false), (.keep, false), (.keep, false), (.keep, false), (.keep, false), (.keep, false), (.keep, false), (.keep, false), (.keep, false), (.keep, false)]⟩)], its := [.int, .int, .int, .int, .nat, .nat, .nat, .nat, .int, .int, .nat, .nat, .int, .int, .lst (.int .u8)], ots := [[.lst (.int .u8)]] }
def gf_clear2_d6_2 : LD := { ins := ⟨[(2, (.av (.one (.const (.ptr ⟨2, 0, 0, 0⟩))))), (3, (.av (.one (.const (.ptr ⟨5, 0, 0, 0⟩))))), (5, (.av (.one (.int .i64)))), (6, (.av (.one (.int .i64)))), (7, (.av (.one (.int .i64)))), (8, (.av (.one (.int .u8)))), (12, (.av (.one (.sl 1 1)))), (13, (.av (.one (.sl 1 1)))), (18, (.av (.one (.int .i64)))), (19, (.av (.one (.int .i64)))), (54, (.av (.one (.sl 8 3)))), (55, (.av (.one (.const (.int .i64 (2 : Int)))))), (56, (.av (.one (.const (.int .i64 (1 : Int)))))), (70, (.av (.one (.int .i64)))), (71, (.av (.one (.int .i64))))], [(.keep, false), (.sh (.arr (.int .u8) none), false), (.keep, false), (.keep, false), (.keep, false), (.keep, false), (.keep, false), (.keep, false), (.keep, false), (.keep, false), (.keep, false), (.keep, false)]⟩, mov := [], wr := [1], outs := [(.exit 6, ⟨[], [(.keep, false), (.sh (.arr (.int .u8) none), false), (.keep, false), (.keep, false), (.keep, false), (.keep, false), (.keep, false), (.keep, false), (.keep, false), (.keep, false), (.keep, false), (.keep, false)]⟩)], its := [.int, .int, .int, .int, .nat, .nat, .nat, .nat, .int, .int, .nat, .nat, .int, .int, .lst (.int .u8)], ots := [[.lst (.int .u8)]] }
def gf_clear2_d8 : LD := { ins := ⟨[(2, (.av (.one (.const (.ptr ⟨2, 0, 0, 0⟩))))), (3, (.av (.one (.const (.ptr ⟨5, 0, 0, 0⟩))))), (5, (.av (.one (.int .i64)))), (6, (.av (.one (.int .i64)))), (18, (.av (.one (.int .i64)))), (19, (.av (.one (.int .i64)))), (96, (.av (.one (.int .i64)))), (97, (.av (.one (.int .i64))))], [(.sh (.arr (.int .u8) none), false), (.sh (.arr (.int .u8) none), false), (.sh (.one (.int .i64)), true), (.sh (.one (.int .i64)), true), (.sh (.one (.const (.slw 0 1))), false), (.sh (.one (.int .i64)), true), (.sh (.one (.int .i64)), true), (.sh (.one (.const (.slw 1 1))), false), (.keep, false)]⟩, mov := [], wr := [0, 1, 2, 3, 4, 5, 6, 7], outs := [(.exit 8, ⟨[], [(.sh (.arr (.int .u8) none), false), (.sh (.arr (.int .u8) none), false), (.sh (.one (.int .i64)), true), (.sh (.one (.int .i64)), true), (.sh (.one (.const (.slw 0 1))), false), (.sh (.one (.int .i64)), true), (.sh (.one (.int .i64)), true), (.sh (.one (.const (.slw 1 1))), false), (.keep, false)]⟩)], its := [.int, .int, .int, .int, .int, .int, .lst (.int .u8), .lst (.int .u8), .int, .int, .int, .int], ots := [[.lst (.int .u8), .lst (.int .u8), .int, .int, .int, .int]] }
def gf_clear2_d0 : LD := { ins := ⟨[(2, (.av (.one (.const (.ptr ⟨2, 0, 0, 0⟩))))), (3, (.av (.one (.const (.ptr ⟨5, 0, 0, 0⟩))))), (5, (.av (.one (.int .i64)))), (18, (.av (.one (.int .i64)))), (19, (.av (.one (.int .i64))))], [(.sh (.arr (.int .u8) none), false), (.sh (.arr (.int .u8) none), false), (.sh (.one (.int .i64)), true), (.sh (.one (.int .i64)), true), (.sh (.one (.const (.slw 0 1))), false), (.sh (.one (.int .i64)), true), (.sh (.one (.int .i64)), true), (.sh (.one (.const (.slw 1 1))), false)]⟩, mov := [], wr := [0, 1, 2, 3, 4, 5, 6, 7], outs := [(.exit 0, ⟨[(5, (.av (.one (.int .i64))))], [(.sh (.arr (.int .u8) none), false), (.sh (.arr (.int .u8) none), false), (.sh (.one (.int .i64)), true), (.sh (.one (.int .i64)), true), (.sh (.one (.const (.slw 0 1))), false), (.sh (.one (.int .i64)), true), (.sh (.one (.int .i64)), true), (.sh (.one (.const (.slw 1 1))), false)]⟩)], its := [.int, .int, .int, .lst (.int .u8), .lst (.int .u8), .int, .int, .int, .int], ots := [[.int, .lst (.int .u8), .lst (.int .u8), .int, .int, .int, .int]] }
noncomputable def gf_clear2_J (N : Nat) : Nat → Hint := fun cx => hintOf cx [(0, { reg := fun k => assoc0 k [(6, ⟨⟨[(35, (.av (.one .bool)))], [(.sh (.arr (.int .u8) none), false), (.dead, false), (.keep, true), (.keep, true), (.keep, false), (.dead, false), (.dead, false), (.dead, false)]⟩, [], [0], [.bool, .lst (.int .u8)]⟩)], cnd := fun k => assoc0 k [(119, ⟨[], [1], [(.normal, ⟨[], [(.keep, false), (.sh (.arr (.int .u8) none), false), (.keep, true), (.keep, true), (.keep, false), (.keep, true), (.keep, true), (.keep, false), (.dead, false)]⟩)], [[.lst (.int .u8)]]⟩), (102, ⟨[], [0, 1], [(.normal, ⟨[], [(.sh (.arr (.int .u8) none), false), (.sh (.arr (.int .u8) none), false), (.keep, true), (.keep, true), (.keep, false), (.keep, true), (.keep, true), (.keep, false), (.dead, false)]⟩)], [[.lst (.int .u8), .lst (.int .u8)]]⟩)], loop := fun k => assoc0 k [(2, ⟨gf_clear2_d2, loopF (gf_clear2_b2 N) N⟩), (8, ⟨gf_clear2_d8, loopF (gf_clear2_b8 N) N⟩), (0, ⟨gf_clear2_d0, loopF (gf_clear2_b0 N) N⟩)], nil := fun k => assoc0 k [], unr := fun k => assocN k [(4, 3)], blk := fun k => assoc0 k [(1, ⟨[], [0, 1, 2, 3, 4, 5, 6, 7], [(.normal, ⟨[(5, (.av (.one (.int .i64))))], [(.sh (.arr (.int .u8) none), false), (.sh (.arr (.int .u8) none), false), (.sh (.one (.int .i64)), true), (.sh (.one (.int .i64)), true), (.sh (.one (.const (.slw 0 1))), false), (.sh (.one (.int .i64)), true), (.sh (.one (.int .i64)), true), (.sh (.one (.const (.slw 1 1))), false)]⟩)], [[.int, .lst (.int .u8), .lst (.int .u8), .int, .int, .int, .int]]⟩)] }),
  (1, { reg := fun k => assoc0 k [], cnd := fun k => assoc0 k [], loop := fun k => assoc0 k [(6, ⟨gf_clear2_d6_1, loopF (gf_clear2_b6_1 N) N⟩)], nil := fun k => assoc0 k [], unr := fun k => assocN k [], blk := fun k => assoc0 k [(5, ⟨[], [0], [(.normal, ⟨[], [(.sh (.arr (.int .u8) none), false), (.keep, false), (.keep, true), (.keep, true), (.keep, false), (.keep, true), (.keep, true), (.keep, false), (.keep, false)]⟩)], [[.lst (.int .u8)]]⟩)] }),
  (2, { reg := fun k => assoc0 k [], cnd := fun k => assoc0 k [], loop := fun k => assoc0 k [(6, ⟨gf_clear2_d6_2, loopF (gf_clear2_b6_2 N) N⟩)], nil := fun k => assoc0 k [], unr := fun k => assocN k [], blk := fun k => assoc0 k [(5, ⟨[], [1], [(.normal, ⟨[], [(.keep, false), (.sh (.arr (.int .u8) none), false), (.keep, true), (.keep, true), (.keep, false), (.keep, true), (.keep, true), (.keep, false), (.keep, false)]⟩)], [[.lst (.int .u8)]]⟩)] })]
noncomputable def gf_clear2_C (N : Nat) : Nat → List GS := fun k => tabOf k [(59, [gf_row_g N]), (14, [gf_Inv_g N]), (45, [gf_Scale_g N]), (66, [gf_add_g N])]
def gf_clear2_o : List (Shp × List Nat) := [(⟨[(0, (.av (.one (.int .i64))))], [(.sh (.arr (.int .u8) none), false), (.sh (.arr (.int .u8) none), false)]⟩, [])]
noncomputable def gf_clear2_g (N : Nat) : GS := { ins := ⟨[(0, (.av (.agg [(.one (.int .i64)), (.one (.int .i64)), (.one (.const (.slw 0 1)))]))), (1, (.av (.agg [(.one (.int .i64)), (.one (.int .i64)), (.one (.const (.slw 1 1)))])))], [(some (.arr (.int .u8) none), false), (some (.arr (.int .u8) none), false)]⟩, lend := [.keep, .keep], outs := gf_clear2_o.map fun s => ssOf s.1, its := [.int, .int, .int, .int, .lst (.int .u8), .lst (.int .u8)], ots := [[.int, .lst (.int .u8), .lst (.int .u8)]], F := gf_clear2 N }
noncomputable def gf_clear2_CA (N : Nat) (f0 : Int × Int × Int × (List Int) → Option (Nat × Nat × (List Int))) (f1 : Int → Option (Int × Int)) (f2 : Int × (List Int) → Option ((List Int))) (f3 : Nat × Nat × Int × Nat × Nat × (List Int) → Option ((List Int))) : Nat → List GS := fun k => tabOf k [(59, [{ gf_row_g N with F := f0 }]), (14, [{ gf_Inv_g N with F := f1 }]), (45, [{ gf_Scale_g N with F := f2 }]), (66, [{ gf_add_g N with F := f3 }])]
theorem gf_clear2_CE (N : Nat) : gf_clear2_CA N (gf_row) (gf_Inv N) (gf_Scale N) (gf_add N) = gf_clear2_C N := by kernel_rfl
theorem gf_clear2_t (N : Nat) : TabC Try.prog (gf_clear2_C N) := tab_ok ⟨⟨gf_row_ok N, trivial⟩, ⟨gf_Inv_ok N, trivial⟩, ⟨gf_Scale_ok N, trivial⟩, ⟨gf_add_ok N, trivial⟩, trivial⟩
theorem gf_clear2_i6 : loopsOf gf_clear2_c6 = [] := by kernel_rfl
noncomputable def gf_clear2_a6_1 (N : Nat) (f0 : Int × Int × Int × (List Int) → Option (Nat × Nat × (List Int))) (f1 : Int → Option (Int × Int)) (f2 : Int × (List Int) → Option ((List Int))) (f3 : Nat × Nat × Int × Nat × Nat × (List Int) → Option ((List Int))) (next : Int × Int × Int × Int × Nat × Nat × Nat × Nat × Int × Int × Nat × Nat × Int × Int × (List Int) → Option (((List Int)))) (x : Int × Int × Int × Int × Nat × Nat × Nat × Nat × Int × Int × Nat × Nat × Int × Int × (List Int)) : Option (((List Int))) :=
  (cond (decide (x.2.2.2.2.2.2.2.2.2.2.2.2.2.1 < x.2.2.2.2.2.2.2.2.2.2.2.2.1))
  (cond ((decide ((0 : Int) ≤ x.2.2.2.2.2.2.2.2.2.2.2.2.2.1)) && (decide (x.2.2.2.2.2.2.2.2.2.2.2.2.2.1 < ((x.2.2.2.2.2.2.2.1 : Nat) : Int))))
  ((let v2 : Nat := ((Int.toNat x.2.2.2.2.2.2.2.2.2.2.2.2.2.1) + x.2.2.2.2.2.2.1)
  (cond (decide (v2 < (List.length x.2.2.2.2.2.2.2.2.2.2.2.2.2.2)))
  ((cond ((decide ((0 : Int) ≤ x.2.2.2.2.2.2.2.2.2.2.2.2.2.1)) && (decide (x.2.2.2.2.2.2.2.2.2.2.2.2.2.1 < ((x.2.2.2.2.2.1 : Nat) : Int))))
  ((let v4 : Nat := ((Int.toNat x.2.2.2.2.2.2.2.2.2.2.2.2.2.1) + x.2.2.2.2.1)
  (cond (decide (v4 < (List.length x.2.2.2.2.2.2.2.2.2.2.2.2.2.2)))
  ((cond ((decide ((0 : Int) ≤ x.2.2.2.2.2.2.2.2.2.2.2.2.2.1)) && (decide (x.2.2.2.2.2.2.2.2.2.2.2.2.2.1 < ((x.2.2.2.2.2.1 : Nat) : Int))))
  ((let v6 : Nat := ((Int.toNat x.2.2.2.2.2.2.2.2.2.2.2.2.2.1) + x.2.2.2.2.1)
  (cond (decide (v6 < (List.length x.2.2.2.2.2.2.2.2.2.2.2.2.2.2)))
  ((let v7 : List Int := (List.set x.2.2.2.2.2.2.2.2.2.2.2.2.2.2 v6 (List.getD x.2.2.2.2.2.2.2.2.2.2.2.2.2.2 v2 (EK.dflt (.int .u8))))
  (cond ((decide ((0 : Int) ≤ x.2.2.2.2.2.2.2.2.2.2.2.2.2.1)) && (decide (x.2.2.2.2.2.2.2.2.2.2.2.2.2.1 < ((x.2.2.2.2.2.2.2.1 : Nat) : Int))))
  ((let v8 : Nat := ((Int.toNat x.2.2.2.2.2.2.2.2.2.2.2.2.2.1) + x.2.2.2.2.2.2.1)
  (cond (decide (v8 < (List.length v7)))
  ((next (x.1, x.2.1, x.2.2.1, x.2.2.2.1, x.2.2.2.2.1, x.2.2.2.2.2.1, x.2.2.2.2.2.2.1, x.2.2.2.2.2.2.2.1, x.2.2.2.2.2.2.2.2.1, x.2.2.2.2.2.2.2.2.2.1, x.2.2.2.2.2.2.2.2.2.2.1, x.2.2.2.2.2.2.2.2.2.2.2.1, x.2.2.2.2.2.2.2.2.2.2.2.2.1, (wrapF .i64 (x.2.2.2.2.2.2.2.2.2.2.2.2.2.1 + (1 : Int))), (List.set v7 v8 (List.getD x.2.2.2.2.2.2.2.2.2.2.2.2.2.2 v4 (EK.dflt (.int .u8)))))))
  none)))
  none)))
  none)))
  none))
  none)))
  none))
  none)))
  none)
  (some x.2.2.2.2.2.2.2.2.2.2.2.2.2.2))
theorem gf_clear2_f6_1 (N : Nat) (f0 : Int × Int × Int × (List Int) → Option (Nat × Nat × (List Int))) (f1 : Int → Option (Int × Int)) (f2 : Int × (List Int) → Option ((List Int))) (f3 : Nat × Nat × Int × Nat × Nat × (List Int) → Option ((List Int))) (next) (x) : gf_clear2_a6_1 N f0 f1 f2 f3 next x = loopStep Γ (gf_clear2_CA N f0 f1 f2 f3) (gf_clear2_J N) 1 133 gf_clear2_d6_1 gf_clear2_c6 next x := by kernel_rfl
theorem gf_clear2_e6_1 (N : Nat) (next) (x) : gf_clear2_b6_1 N next x = loopStep Γ (gf_clear2_C N) (gf_clear2_J N) 1 133 gf_clear2_d6_1 gf_clear2_c6 next x := by
  rw [← gf_clear2_CE N]
  exact Eq.trans (by kernel_rfl) (gf_clear2_f6_1 N (gf_row) (gf_Inv N) (gf_Scale N) (gf_add N) next x)
theorem gf_clear2_k6_1 (N : Nat) : LoopOK Try.prog 133 gf_clear2_c6 ⟨gf_clear2_d6_1, loopF (gf_clear2_b6_1 N) N⟩ := loop_ok tabOK (gf_clear2_t N) mixedOK (J := gf_clear2_J N) (cx := 1) (body := gf_clear2_c6) (nt := 133) (l := gf_clear2_d6_1) (b := gf_clear2_b6_1 N) (jok_from gf_clear2_i6 ⟨trivial, trivial, trivial, trivial⟩) (gf_clear2_e6_1 N) N
noncomputable def gf_clear2_a6_2 (N : Nat) (f0 : Int × Int × Int × (List Int) → Option (Nat × Nat × (List Int))) (f1 : Int → Option (Int × Int)) (f2 : Int × (List Int) → Option ((List Int))) (f3 : Nat × Nat × Int × Nat × Nat × (List Int) → Option ((List Int))) (next : Int × Int × Int × Int × Nat × Nat × Nat × Nat × Int × Int × Nat × Nat × Int × Int × (List Int) → Option (((List Int)))) (x : Int × Int × Int × Int × Nat × Nat × Nat × Nat × Int × Int × Nat × Nat × Int × Int × (List Int)) : Option (((List Int))) :=
  (cond (decide (x.2.2.2.2.2.2.2.2.2.2.2.2.2.1 < x.2.2.2.2.2.2.2.2.2.2.2.2.1))
  (cond ((decide ((0 : Int) ≤ x.2.2.2.2.2.2.2.2.2.2.2.2.2.1)) && (decide (x.2.2.2.2.2.2.2.2.2.2.2.2.2.1 < ((x.2.2.2.2.2.2.2.1 : Nat) : Int))))
  ((let v2 : Nat := ((Int.toNat x.2.2.2.2.2.2.2.2.2.2.2.2.2.1) + x.2.2.2.2.2.2.1)
  (cond (decide (v2 < (List.length x.2.2.2.2.2.2.2.2.2.2.2.2.2.2)))
  ((cond ((decide ((0 : Int) ≤ x.2.2.2.2.2.2.2.2.2.2.2.2.2.1)) && (decide (x.2.2.2.2.2.2.2.2.2.2.2.2.2.1 < ((x.2.2.2.2.2.1 : Nat) : Int))))
  ((let v4 : Nat := ((Int.toNat x.2.2.2.2.2.2.2.2.2.2.2.2.2.1) + x.2.2.2.2.1)
  (cond (decide (v4 < (List.length x.2.2.2.2.2.2.2.2.2.2.2.2.2.2)))
  ((cond ((decide ((0 : Int) ≤ x.2.2.2.2.2.2.2.2.2.2.2.2.2.1)) && (decide (x.2.2.2.2.2.2.2.2.2.2.2.2.2.1 < ((x.2.2.2.2.2.1 : Nat) : Int))))
  ((let v6 : Nat := ((Int.toNat x.2.2.2.2.2.2.2.2.2.2.2.2.2.1) + x.2.2.2.2.1)
  (cond (decide (v6 < (List.length x.2.2.2.2.2.2.2.2.2.2.2.2.2.2)))
  ((let v7 : List Int := (List.set x.2.2.2.2.2.2.2.2.2.2.2.2.2.2 v6 (List.getD x.2.2.2.2.2.2.2.2.2.2.2.2.2.2 v2 (EK.dflt (.int .u8))))
  (cond ((decide ((0 : Int) ≤ x.2.2.2.2.2.2.2.2.2.2.2.2.2.1)) && (decide (x.2.2.2.2.2.2.2.2.2.2.2.2.2.1 < ((x.2.2.2.2.2.2.2.1 : Nat) : Int))))
  ((let v8 : Nat := ((Int.toNat x.2.2.2.2.2.2.2.2.2.2.2.2.2.1) + x.2.2.2.2.2.2.1)
  (cond (decide (v8 < (List.length v7)))
  ((next (x.1, x.2.1, x.2.2.1, x.2.2.2.1, x.2.2.2.2.1, x.2.2.2.2.2.1, x.2.2.2.2.2.2.1, x.2.2.2.2.2.2.2.1, x.2.2.2.2.2.2.2.2.1, x.2.2.2.2.2.2.2.2.2.1, x.2.2.2.2.2.2.2.2.2.2.1, x.2.2.2.2.2.2.2.2.2.2.2.1, x.2.2.2.2.2.2.2.2.2.2.2.2.1, (wrapF .i64 (x.2.2.2.2.2.2.2.2.2.2.2.2.2.1 + (1 : Int))), (List.set v7 v8 (List.getD x.2.2.2.2.2.2.2.2.2.2.2.2.2.2 v4 (EK.dflt (.int .u8)))))))
  none)))
  none)))
  none)))
  none))
  none)))
  none))
  none)))
  none)
  (some x.2.2.2.2.2.2.2.2.2.2.2.2.2.2))
theorem gf_clear2_f6_2 (N : Nat) (f0 : Int × Int × Int × (List Int) → Option (Nat × Nat × (List Int))) (f1 : Int → Option (Int × Int)) (f2 : Int × (List Int) → Option ((List Int))) (f3 : Nat × Nat × Int × Nat × Nat × (List Int) → Option ((List Int))) (next) (x) : gf_clear2_a6_2 N f0 f1 f2 f3 next x = loopStep Γ (gf_clear2_CA N f0 f1 f2 f3) (gf_clear2_J N) 2 133 gf_clear2_d6_2 gf_clear2_c6 next x := by kernel_rfl
theorem gf_clear2_e6_2 (N : Nat) (next) (x) : gf_clear2_b6_2 N next x = loopStep Γ (gf_clear2_C N) (gf_clear2_J N) 2 133 gf_clear2_d6_2 gf_clear2_c6 next x := by
  rw [← gf_clear2_CE N]
  exact Eq.trans (by kernel_rfl) (gf_clear2_f6_2 N (gf_row) (gf_Inv N) (gf_Scale N) (gf_add N) next x)
theorem gf_clear2_k6_2 (N : Nat) : LoopOK Try.prog 133 gf_clear2_c6 ⟨gf_clear2_d6_2, loopF (gf_clear2_b6_2 N) N⟩ := loop_ok tabOK (gf_clear2_t N) mixedOK (J := gf_clear2_J N) (cx := 2) (body := gf_clear2_c6) (nt := 133) (l := gf_clear2_d6_2) (b := gf_clear2_b6_2 N) (jok_from gf_clear2_i6 ⟨trivial, trivial, trivial, trivial⟩) (gf_clear2_e6_2 N) N
theorem gf_clear2_i2 : loopsOf gf_clear2_c2 = [] := by kernel_rfl
noncomputable def gf_clear2_a2 (N : Nat) (f0 : Int × Int × Int × (List Int) → Option (Nat × Nat × (List Int))) (f1 : Int → Option (Int × Int)) (f2 : Int × (List Int) → Option ((List Int))) (f3 : Nat × Nat × Int × Nat × Nat × (List Int) → Option ((List Int))) (next : Int × Int × Int × Int × Int × (List Int) × Int × Int → Option ((Int × (List Int) × Int × Int))) (x : Int × Int × Int × Int × Int × (List Int) × Int × Int) : Option ((Int × (List Int) × Int × Int)) :=
  (Option.bind
  (cond (decide (x.2.2.1 < x.2.2.2.2.2.2.1))
  (Option.bind (f0 (x.2.2.2.2.2.2.1, x.2.2.2.2.2.2.2, x.2.2.1, x.2.2.2.2.2.1)) fun r2 =>
  (cond ((decide ((0 : Int) ≤ x.2.1)) && (decide (x.2.1 < ((r2.2.1 : Nat) : Int))))
  ((let v3 : Nat := ((Int.toNat x.2.1) + r2.1)
  (cond (decide (v3 < (List.length r2.2.2)))
  ((some ((decide ((List.getD r2.2.2 v3 (EK.dflt (.int .u8))) = (0 : Int))), r2.2.2)))
  none)))
  none))
  (some (false, x.2.2.2.2.2.1)))
  fun r6 =>
  (cond r6.1
  (next (x.1, x.2.1, (wrapF .i64 (x.2.2.1 + (1 : Int))), x.2.2.2.1, x.2.2.2.2.1, r6.2, x.2.2.2.2.2.2.1, x.2.2.2.2.2.2.2))
  (some (x.2.2.1, r6.2, x.2.2.2.2.2.2.1, x.2.2.2.2.2.2.2))))
theorem gf_clear2_f2 (N : Nat) (f0 : Int × Int × Int × (List Int) → Option (Nat × Nat × (List Int))) (f1 : Int → Option (Int × Int)) (f2 : Int × (List Int) → Option ((List Int))) (f3 : Nat × Nat × Int × Nat × Nat × (List Int) → Option ((List Int))) (next) (x) : gf_clear2_a2 N f0 f1 f2 f3 next x = loopStep Γ (gf_clear2_CA N f0 f1 f2 f3) (gf_clear2_J N) 0 133 gf_clear2_d2 gf_clear2_c2 next x := by kernel_rfl
theorem gf_clear2_e2 (N : Nat) (next) (x) : gf_clear2_b2 N next x = loopStep Γ (gf_clear2_C N) (gf_clear2_J N) 0 133 gf_clear2_d2 gf_clear2_c2 next x := by
  rw [← gf_clear2_CE N]
  exact Eq.trans (by kernel_rfl) (gf_clear2_f2 N (gf_row) (gf_Inv N) (gf_Scale N) (gf_add N) next x)
theorem gf_clear2_k2 (N : Nat) : LoopOK Try.prog 133 gf_clear2_c2 ⟨gf_clear2_d2, loopF (gf_clear2_b2 N) N⟩ := loop_ok tabOK (gf_clear2_t N) mixedOK (J := gf_clear2_J N) (cx := 0) (body := gf_clear2_c2) (nt := 133) (l := gf_clear2_d2) (b := gf_clear2_b2 N) (jok_from gf_clear2_i2 ⟨trivial, trivial, trivial, trivial⟩) (gf_clear2_e2 N) N
theorem gf_clear2_i8 : loopsOf gf_clear2_c8 = [] := by kernel_rfl
noncomputable def gf_clear2_a8 (N : Nat) (f0 : Int × Int × Int × (List Int) → Option (Nat × Nat × (List Int))) (f1 : Int → Option (Int × Int)) (f2 : Int × (List Int) → Option ((List Int))) (f3 : Nat × Nat × Int × Nat × Nat × (List Int) → Option ((List Int))) (next : Int × Int × Int × Int × Int × Int × (List Int) × (List Int) × Int × Int × Int × Int → Option (((List Int) × (List Int) × Int × Int × Int × Int))) (x : Int × Int × Int × Int × Int × Int × (List Int) × (List Int) × Int × Int × Int × Int) : Option (((List Int) × (List Int) × Int × Int × Int × Int)) :=
  (cond (decide (x.2.2.2.2.2.1 < x.2.2.2.2.1))
  (Option.bind
  (cond (!(decide (x.2.2.2.2.2.1 = x.1)))
  (Option.bind (f0 (x.2.2.2.2.2.2.2.2.1, x.2.2.2.2.2.2.2.2.2.1, x.2.2.2.2.2.1, x.2.2.2.2.2.2.1)) fun r3 =>
  (cond ((decide ((0 : Int) ≤ x.2.1)) && (decide (x.2.1 < ((r3.2.1 : Nat) : Int))))
  ((let v4 : Nat := ((Int.toNat x.2.1) + r3.1)
  (cond (decide (v4 < (List.length r3.2.2)))
  ((let v5 : Int := (List.getD r3.2.2 v4 (EK.dflt (.int .u8)))
  (Option.bind (f0 (x.2.2.2.2.2.2.2.2.1, x.2.2.2.2.2.2.2.2.2.1, x.2.2.2.2.2.1, r3.2.2)) fun r6 =>
  (Option.bind (f0 (x.2.2.2.2.2.2.2.2.1, x.2.2.2.2.2.2.2.2.2.1, x.1, r6.2.2)) fun r7 =>
  (Option.bind (f3 (r6.1, r6.2.1, v5, r7.1, r7.2.1, r7.2.2)) fun r8 =>
  (Option.bind
  (cond (decide ((0 : Int) < x.2.2.2.2.2.2.2.2.2.2.1))
  (Option.bind (f0 (x.2.2.2.2.2.2.2.2.2.2.1, x.2.2.2.2.2.2.2.2.2.2.2, x.2.2.2.2.2.1, x.2.2.2.2.2.2.2.1)) fun r10 =>
  (Option.bind (f0 (x.2.2.2.2.2.2.2.2.2.2.1, x.2.2.2.2.2.2.2.2.2.2.2, x.1, r10.2.2)) fun r11 =>
  (Option.bind (f3 (r10.1, r10.2.1, v5, r11.1, r11.2.1, r11.2.2)) fun r12 =>
  (some r12))))
  (some x.2.2.2.2.2.2.2.1))
  fun r13 =>
  (some (r8, r13))))))))
  none)))
  none))
  (some (x.2.2.2.2.2.2.1, x.2.2.2.2.2.2.2.1)))
  fun r14 =>
  (next (x.1, x.2.1, x.2.2.1, x.2.2.2.1, x.2.2.2.2.1, (wrapF .i64 (x.2.2.2.2.2.1 + (1 : Int))), r14.1, r14.2, x.2.2.2.2.2.2.2.2.1, x.2.2.2.2.2.2.2.2.2.1, x.2.2.2.2.2.2.2.2.2.2.1, x.2.2.2.2.2.2.2.2.2.2.2)))
  (some (x.2.2.2.2.2.2.1, x.2.2.2.2.2.2.2.1, x.2.2.2.2.2.2.2.2.1, x.2.2.2.2.2.2.2.2.2.1, x.2.2.2.2.2.2.2.2.2.2.1, x.2.2.2.2.2.2.2.2.2.2.2)))
theorem gf_clear2_f8 (N : Nat) (f0 : Int × Int × Int × (List Int) → Option (Nat × Nat × (List Int))) (f1 : Int → Option (Int × Int)) (f2 : Int × (List Int) → Option ((List Int))) (f3 : Nat × Nat × Int × Nat × Nat × (List Int) → Option ((List Int))) (next) (x) : gf_clear2_a8 N f0 f1 f2 f3 next x = loopStep Γ (gf_clear2_CA N f0 f1 f2 f3) (gf_clear2_J N) 0 133 gf_clear2_d8 gf_clear2_c8 next x := by kernel_rfl
theorem gf_clear2_e8 (N : Nat) (next) (x) : gf_clear2_b8 N next x = loopStep Γ (gf_clear2_C N) (gf_clear2_J N) 0 133 gf_clear2_d8 gf_clear2_c8 next x := by
  rw [← gf_clear2_CE N]
  exact Eq.trans (by kernel_rfl) (gf_clear2_f8 N (gf_row) (gf_Inv N) (gf_Scale N) (gf_add N) next x)
theorem gf_clear2_k8 (N : Nat) : LoopOK Try.prog 133 gf_clear2_c8 ⟨gf_clear2_d8, loopF (gf_clear2_b8 N) N⟩ := loop_ok tabOK (gf_clear2_t N) mixedOK (J := gf_clear2_J N) (cx := 0) (body := gf_clear2_c8) (nt := 133) (l := gf_clear2_d8) (b := gf_clear2_b8 N) (jok_from gf_clear2_i8 ⟨trivial, trivial, trivial, trivial⟩) (gf_clear2_e8 N) N
theorem gf_clear2_i0 : loopsOf gf_clear2_c0 = [(2, gf_clear2_c2), (4, codeOf (getLoop 4 gf_clear2_c)), (6, gf_clear2_c6), (8, gf_clear2_c8)] := by kernel_rfl
noncomputable def gf_clear2_a0 (N : Nat) (f0 : Int × Int × Int × (List Int) → Option (Nat × Nat × (List Int))) (f1 : Int → Option (Int × Int)) (f2 : Int × (List Int) → Option ((List Int))) (f3 : Nat × Nat × Int × Nat × Nat × (List Int) → Option ((List Int))) (next : Int × Int × Int × (List Int) × (List Int) × Int × Int × Int × Int → Option ((Int × (List Int) × (List Int) × Int × Int × Int × Int))) (x : Int × Int × Int × (List Int) × (List Int) × Int × Int × Int × Int) : Option ((Int × (List Int) × (List Int) × Int × Int × Int × Int)) :=
  (cond (decide (x.2.2.1 < x.2.1))
  (Option.bind
  (Option.bind (gf_clear2_l2 N (x.1, x.2.2.1, x.1, x.2.1, x.2.2.1, x.2.2.2.1, x.2.2.2.2.2.1, x.2.2.2.2.2.2.1)) fun r2 =>
  (cond (decide (r2.1 = r2.2.2.1))
  (some (x.1, r2.2.1, x.2.2.2.2.1, r2.2.2.1, r2.2.2.2, x.2.2.2.2.2.2.2.1, x.2.2.2.2.2.2.2.2))
  (Option.bind (f0 (r2.2.2.1, r2.2.2.2, r2.1, r2.2.1)) fun r4 =>
  (cond ((decide ((0 : Int) ≤ x.2.2.1)) && (decide (x.2.2.1 < ((r4.2.1 : Nat) : Int))))
  ((let v5 : Nat := ((Int.toNat x.2.2.1) + r4.1)
  (cond (decide (v5 < (List.length r4.2.2)))
  ((Option.bind (f1 (List.getD r4.2.2 v5 (EK.dflt (.int .u8)))) fun r7 =>
  (Option.bind
  (cond (decide (r2.2.2.1 = (0 : Int)))
  (some r4.2.2)
  (Option.bind (f0 (r2.2.2.1, r2.2.2.2, r2.1, r4.2.2)) fun r9 =>
  (Option.bind (f0 (r2.2.2.1, r2.2.2.2, x.1, r9.2.2)) fun r10 =>
  (Option.bind (gf_clear2_l6_1 N (x.1, x.2.2.1, r2.1, r7.1, r9.1, r9.2.1, r10.1, r10.2.1, x.2.1, x.2.2.1, 0, 2, ((r9.2.1 : Nat) : Int), (0 : Int), r10.2.2)) fun r12 =>
  (cond (cond (decide ((r10.1 + r10.2.1) ≤ (List.length r12))) true false)
  (Option.bind (f2 (r7.1, (List.take r10.2.1 (List.drop r10.1 r12)))) fun r13 =>
  (cond (decide ((r10.1 + r10.2.1) ≤ (List.length r12)))
  ((some (List.take r10.1 r12 ++ List.take (min (List.length r13) r10.2.1) r13 ++ List.drop (r10.1 + (min (List.length r13) r10.2.1)) r12)))
  none))
  none)))))
  fun r16 =>
  (Option.bind
  (cond (decide (x.2.2.2.2.2.2.2.1 = (0 : Int)))
  (some x.2.2.2.2.1)
  (Option.bind (f0 (x.2.2.2.2.2.2.2.1, x.2.2.2.2.2.2.2.2, r2.1, x.2.2.2.2.1)) fun r18 =>
  (Option.bind (f0 (x.2.2.2.2.2.2.2.1, x.2.2.2.2.2.2.2.2, x.1, r18.2.2)) fun r19 =>
  (Option.bind (gf_clear2_l6_2 N (x.1, x.2.2.1, r2.1, r7.1, r18.1, r18.2.1, r19.1, r19.2.1, x.2.1, x.2.2.1, 0, 2, ((r18.2.1 : Nat) : Int), (0 : Int), r19.2.2)) fun r21 =>
  (cond (cond (decide ((r19.1 + r19.2.1) ≤ (List.length r21))) true false)
  (Option.bind (f2 (r7.1, (List.take r19.2.1 (List.drop r19.1 r21)))) fun r22 =>
  (cond (decide ((r19.1 + r19.2.1) ≤ (List.length r21)))
  ((some (List.take r19.1 r21 ++ List.take (min (List.length r22) r19.2.1) r22 ++ List.drop (r19.1 + (min (List.length r22) r19.2.1)) r21)))
  none))
  none)))))
  fun r25 =>
  (Option.bind (gf_clear2_l8 N (x.1, x.2.2.1, x.2.1, x.2.2.1, r2.2.2.1, (0 : Int), r16, r25, r2.2.2.1, r2.2.2.2, x.2.2.2.2.2.2.2.1, x.2.2.2.2.2.2.2.2)) fun r26 =>
  (some ((wrapF .i64 (x.1 + (1 : Int))), r26.1, r26.2.1, r26.2.2.1, r26.2.2.2.1, r26.2.2.2.2.1, r26.2.2.2.2.2)))))))
  none)))
  none))))
  fun r28 =>
  (next (r28.1, x.2.1, (wrapF .i64 (x.2.2.1 + (1 : Int))), r28.2.1, r28.2.2.1, r28.2.2.2.1, r28.2.2.2.2.1, r28.2.2.2.2.2.1, r28.2.2.2.2.2.2)))
  (some (x.1, x.2.2.2.1, x.2.2.2.2.1, x.2.2.2.2.2.1, x.2.2.2.2.2.2.1, x.2.2.2.2.2.2.2.1, x.2.2.2.2.2.2.2.2)))
theorem gf_clear2_f0 (N : Nat) (f0 : Int × Int × Int × (List Int) → Option (Nat × Nat × (List Int))) (f1 : Int → Option (Int × Int)) (f2 : Int × (List Int) → Option ((List Int))) (f3 : Nat × Nat × Int × Nat × Nat × (List Int) → Option ((List Int))) (next) (x) : gf_clear2_a0 N f0 f1 f2 f3 next x = loopStep Γ (gf_clear2_CA N f0 f1 f2 f3) (gf_clear2_J N) 0 133 gf_clear2_d0 gf_clear2_c0 next x := by kernel_rfl
theorem gf_clear2_e0 (N : Nat) (next) (x) : gf_clear2_b0 N next x = loopStep Γ (gf_clear2_C N) (gf_clear2_J N) 0 133 gf_clear2_d0 gf_clear2_c0 next x := by
  rw [← gf_clear2_CE N]
  exact Eq.trans (by kernel_rfl) (gf_clear2_f0 N (gf_row) (gf_Inv N) (gf_Scale N) (gf_add N) next x)
theorem gf_clear2_k0 (N : Nat) : LoopOK Try.prog 133 gf_clear2_c0 ⟨gf_clear2_d0, loopF (gf_clear2_b0 N) N⟩ := loop_ok tabOK (gf_clear2_t N) mixedOK (J := gf_clear2_J N) (cx := 0) (body := gf_clear2_c0) (nt := 133) (l := gf_clear2_d0) (b := gf_clear2_b0 N) (jok_from gf_clear2_i0 ⟨⟨.inr ⟨_, rfl, gf_clear2_k2 N⟩, .inl rfl, .inl rfl, .inr ⟨_, rfl, gf_clear2_k8 N⟩, trivial⟩, ⟨.inl rfl, .inl rfl, .inr ⟨_, rfl, gf_clear2_k6_1 N⟩, .inl rfl, trivial⟩, ⟨.inl rfl, .inl rfl, .inr ⟨_, rfl, gf_clear2_k6_2 N⟩, .inl rfl, trivial⟩, trivial⟩) (gf_clear2_e0 N) N
theorem gf_clear2_i : loopsOf gf_clear2_c = [(0, gf_clear2_c0), (2, gf_clear2_c2), (4, codeOf (getLoop 4 gf_clear2_c)), (6, gf_clear2_c6), (8, gf_clear2_c8)] := by kernel_rfl
noncomputable def gf_clear2_a (N : Nat) (f0 : Int × Int × Int × (List Int) → Option (Nat × Nat × (List Int))) (f1 : Int → Option (Int × Int)) (f2 : Int × (List Int) → Option ((List Int))) (f3 : Nat × Nat × Int × Nat × Nat × (List Int) → Option ((List Int))) (x : Int × Int × Int × Int × (List Int) × (List Int)) : Option (Int × (List Int) × (List Int)) :=
  (Option.bind (gf_clear2_l0 N ((0 : Int), x.2.1, (0 : Int), x.2.2.2.2.1, x.2.2.2.2.2, x.1, x.2.1, x.2.2.1, x.2.2.2.1)) fun r1 =>
  (some (r1.1, r1.2.1, r1.2.2.1)))
theorem gf_clear2_f (N : Nat) (f0 : Int × Int × Int × (List Int) → Option (Nat × Nat × (List Int))) (f1 : Int → Option (Int × Int)) (f2 : Int × (List Int) → Option ((List Int))) (f3 : Nat × Nat × Int × Nat × Nat × (List Int) → Option ((List Int))) (x) : gf_clear2_a N f0 f1 f2 f3 x = fnStep Γ (gf_clear2_CA N f0 f1 f2 f3) (gf_clear2_J N) 133 Try.f63.results.toList (gf_clear2_g N) gf_clear2_o gf_clear2_c x := by kernel_rfl
theorem gf_clear2_e (N : Nat) (x) : (gf_clear2_g N).F x = fnStep Γ (gf_clear2_C N) (gf_clear2_J N) 133 Try.f63.results.toList (gf_clear2_g N) gf_clear2_o gf_clear2_c x := by
  rw [← gf_clear2_CE N]
  exact Eq.trans (by kernel_rfl) (gf_clear2_f N (gf_row) (gf_Inv N) (gf_Scale N) (gf_add N) x)
theorem gf_clear2_y : Try.f63.body = some gf_clear2_c := by kernel_rfl
theorem gf_clear2_n : (Try.f63.name == "runtime.NumGoroutine") = false := by kernel_rfl
theorem gf_clear2_ok (N : Nat) : FnDoes Try.prog 63 (gf_clear2_g N) := fn_ok tabOK (gf_clear2_t N) mixedOK (J := gf_clear2_J N) (body := gf_clear2_c) Try.func63 gf_clear2_y gf_clear2_n Try.ntmps63 (jok_from gf_clear2_i ⟨⟨.inr ⟨_, rfl, gf_clear2_k0 N⟩, .inr ⟨_, rfl, gf_clear2_k2 N⟩, .inl rfl, .inl rfl, .inr ⟨_, rfl, gf_clear2_k8 N⟩, trivial⟩, ⟨.inl rfl, .inl rfl, .inl rfl, .inr ⟨_, rfl, gf_clear2_k6_1 N⟩, .inl rfl, trivial⟩, ⟨.inl rfl, .inl rfl, .inl rfl, .inr ⟨_, rfl, gf_clear2_k6_2 N⟩, .inl rfl, trivial⟩, trivial⟩) rfl rfl (le_of_ble rfl) (gf_clear2_e N)
noncomputable def gf_Inverse_c : Code := codeOf Try.f37.body
noncomputable def gf_Inverse_J (N : Nat) : Nat → Hint := fun cx => hintOf cx []
noncomputable def gf_Inverse_C (N : Nat) : Nat → List GS := fun k => tabOf k [(50, [gf_Check_g N]), (17, [gf_Identity_g N]), (64, [gf_own_g N]), (63, [gf_clear2_g N])]
def gf_Inverse_o : List (Shp × List Nat) := [(⟨[(0, (.tup [(.agg [(.one (.int .i64)), (.one (.int .i64)), (.one (.const (.slw 0 1)))]), (.one (.int .i64))]))], [(.sh (.arr (.int .u8) none), false)]⟩, [])]
noncomputable def gf_Inverse_g (N : Nat) : GS := { ins := ⟨[(0, (.av (.agg [(.one (.int .i64)), (.one (.int .i64)), (.one (.rsl (.int .u8)))])))], []⟩, lend := [.agg [none, none, some (.int .u8)]], outs := gf_Inverse_o.map fun s => ssOf s.1, its := [.int, .int, .lst (.int .u8)], ots := [[.int, .int, .int, .lst (.int .u8)]], F := gf_Inverse N }
noncomputable def gf_Inverse_CA (N : Nat) (f0 : Int × Int × (List Int) → Option (Int)) (f1 : Int → Option (Int × Int × Int × (List Int))) (f2 : Int × Int × (List Int) → Option (Int × Int × (List Int))) (f3 : Int × Int × Int × Int × (List Int) × (List Int) → Option (Int × (List Int) × (List Int))) : Nat → List GS := fun k => tabOf k [(50, [{ gf_Check_g N with F := f0 }]), (17, [{ gf_Identity_g N with F := f1 }]), (64, [{ gf_own_g N with F := f2 }]), (63, [{ gf_clear2_g N with F := f3 }])]
theorem gf_Inverse_CE (N : Nat) : gf_Inverse_CA N (gf_Check) (gf_Identity N) (gf_own) (gf_clear2 N) = gf_Inverse_C N := by kernel_rfl
theorem gf_Inverse_t (N : Nat) : TabC Try.prog (gf_Inverse_C N) := tab_ok ⟨⟨gf_Check_ok N, trivial⟩, ⟨gf_Identity_ok N, trivial⟩, ⟨gf_own_ok N, trivial⟩, ⟨gf_clear2_ok N, trivial⟩, trivial⟩
theorem gf_Inverse_i : loopsOf gf_Inverse_c = [] := by kernel_rfl
noncomputable def gf_Inverse_a (N : Nat) (f0 : Int × Int × (List Int) → Option (Int)) (f1 : Int → Option (Int × Int × Int × (List Int))) (f2 : Int × Int × (List Int) → Option (Int × Int × (List Int))) (f3 : Int × Int × Int × Int × (List Int) × (List Int) → Option (Int × (List Int) × (List Int))) (x : Int × Int × (List Int)) : Option (Int × Int × Int × (List Int)) :=
  (Option.bind (f0 (x.1, x.2.1, x.2.2)) fun r1 =>
  (cond (!(decide (r1 = (0 : Int))))
  (some ((0 : Int), (0 : Int), r1, ([] : List Int)))
  (cond (!(decide (x.1 = x.2.1)))
  (some ((0 : Int), (0 : Int), (23 : Int), ([] : List Int)))
  (Option.bind (f1 x.1) fun r4 =>
  (Option.bind (f2 (x.1, x.2.1, x.2.2)) fun r5 =>
  (Option.bind (f3 (r5.1, r5.2.1, r4.1, r4.2.1, r5.2.2, r4.2.2.2)) fun r6 =>
  (cond (decide (r6.1 < x.1))
  (some ((0 : Int), (0 : Int), (22 : Int), ([] : List Int)))
  (some (r4.1, r4.2.1, (0 : Int), r6.2.2)))))))))
theorem gf_Inverse_f (N : Nat) (f0 : Int × Int × (List Int) → Option (Int)) (f1 : Int → Option (Int × Int × Int × (List Int))) (f2 : Int × Int × (List Int) → Option (Int × Int × (List Int))) (f3 : Int × Int × Int × Int × (List Int) × (List Int) → Option (Int × (List Int) × (List Int))) (x) : gf_Inverse_a N f0 f1 f2 f3 x = fnStep Γ (gf_Inverse_CA N f0 f1 f2 f3) (gf_Inverse_J N) 34 Try.f37.results.toList (gf_Inverse_g N) gf_Inverse_o gf_Inverse_c x := by kernel_rfl
theorem gf_Inverse_e (N : Nat) (x) : (gf_Inverse_g N).F x = fnStep Γ (gf_Inverse_C N) (gf_Inverse_J N) 34 Try.f37.results.toList (gf_Inverse_g N) gf_Inverse_o gf_Inverse_c x := by
  rw [← gf_Inverse_CE N]
  exact Eq.trans (by kernel_rfl) (gf_Inverse_f N (gf_Check) (gf_Identity N) (gf_own) (gf_clear2 N) x)
theorem gf_Inverse_y : Try.f37.body = some gf_Inverse_c := by kernel_rfl
theorem gf_Inverse_n : (Try.f37.name == "runtime.NumGoroutine") = false := by kernel_rfl
theorem gf_Inverse_ok (N : Nat) : FnDoes Try.prog 37 (gf_Inverse_g N) := fn_ok tabOK (gf_Inverse_t N) mixedOK (J := gf_Inverse_J N) (body := gf_Inverse_c) Try.func37 gf_Inverse_y gf_Inverse_n Try.ntmps37 (jok_from gf_Inverse_i trivial) rfl rfl (le_of_ble rfl) (gf_Inverse_e N)
noncomputable def granaryref02_Same_c : Code := codeOf Try.f38.body
noncomputable def granaryref02_Same_J (N : Nat) : Nat → Hint := fun cx => hintOf cx [(0, { reg := fun k => assoc0 k [(1, ⟨⟨[(4, (.av (.one .bool)))], [(.keep, true), (.keep, true), (.keep, false), (.keep, true), (.keep, true), (.keep, false)]⟩, [], [], [.bool]⟩)], cnd := fun k => assoc0 k [], loop := fun k => assoc0 k [], nil := fun k => assoc0 k [], unr := fun k => assocN k [], blk := fun k => assoc0 k [] })]
noncomputable def granaryref02_Same_C (N : Nat) : Nat → List GS := fun k => tabOf k []
def granaryref02_Same_o : List (Shp × List Nat) := [(⟨[(0, (.av (.one .bool)))], []⟩, [])]
noncomputable def granaryref02_Same_g (N : Nat) : GS := { ins := ⟨[(0, (.av (.agg [(.one (.int .i64)), (.one (.int .i64)), (.one (.rsl (.int .u8)))]))), (1, (.av (.agg [(.one (.int .i64)), (.one (.int .i64)), (.one (.rsl (.int .u8)))])))], []⟩, lend := [.agg [none, none, some (.int .u8)], .agg [none, none, some (.int .u8)]], outs := granaryref02_Same_o.map fun s => ssOf s.1, its := [.int, .int, .lst (.int .u8), .int, .int, .lst (.int .u8)], ots := [[.bool]], F := granaryref02_Same }
theorem granaryref02_Same_t (N : Nat) : TabC Try.prog (granaryref02_Same_C N) := tab_ok trivial
theorem granaryref02_Same_i : loopsOf granaryref02_Same_c = [] := by kernel_rfl
theorem granaryref02_Same_e (N : Nat) (x) : (granaryref02_Same_g N).F x = fnStep Γ (granaryref02_Same_C N) (granaryref02_Same_J N) 26 Try.f38.results.toList (granaryref02_Same_g N) granaryref02_Same_o granaryref02_Same_c x := by kernel_rfl
theorem granaryref02_Same_y : Try.f38.body = some granaryref02_Same_c := by kernel_rfl
theorem granaryref02_Same_n : (Try.f38.name == "runtime.NumGoroutine") = false := by kernel_rfl
theorem granaryref02_Same_ok (N : Nat) : FnDoes Try.prog 38 (granaryref02_Same_g N) := fn_ok tabOK (granaryref02_Same_t N) mixedOK (J := granaryref02_Same_J N) (body := granaryref02_Same_c) Try.func38 granaryref02_Same_y granaryref02_Same_n Try.ntmps38 (jok_from granaryref02_Same_i ⟨trivial, trivial⟩) rfl rfl (le_of_ble rfl) (granaryref02_Same_e N)
noncomputable def granarylaw02_live_c : Code := codeOf Try.f16.body
noncomputable def granarylaw02_live_J (N : Nat) : Nat → Hint := fun cx => hintOf cx [(0, { reg := fun k => assoc0 k [(6, ⟨⟨[(0, (.av (.one .bool)))], [(.keep, false), (.keep, false), (.keep, true), (.keep, true), (.keep, false), (.keep, false), (.keep, true), (.keep, true), (.keep, false), (.keep, false), (.keep, false), (.keep, true), (.keep, true), (.keep, false)]⟩, [], [], [.bool]⟩)], cnd := fun k => assoc0 k [], loop := fun k => assoc0 k [], nil := fun k => assoc0 k [], unr := fun k => assocN k [], blk := fun k => assoc0 k [] })]
noncomputable def granarylaw02_live_C (N : Nat) : Nat → List GS := fun k => tabOf k [(14, [gf_Inv_g N]), (56, [gf_Make_g N]), (37, [gf_Inverse_g N]), (12, [gf_Mul_g N]), (15, [granarylaw02_num_g N]), (38, [granaryref02_Same_g N]), (28, [gf_Pow_g N])]
def granarylaw02_live_o : List (Shp × List Nat) := [(⟨[(0, (.av (.one .bool)))], []⟩, [])]
noncomputable def granarylaw02_live_g (N : Nat) : GS := { ins := ⟨[], []⟩, lend := [], outs := granarylaw02_live_o.map fun s => ssOf s.1, its := [], ots := [[.bool]], F := granarylaw02_live N }
noncomputable def granarylaw02_live_CA (N : Nat) (f0 : Int → Option (Int × Int)) (f1 : Int × Int × (List Int) → Option (Int × Int × Int × (List Int))) (f2 : Int × Int × (List Int) → Option (Int × Int × Int × (List Int))) (f3 : Int × Int → Option (Int)) (f4 : Int → Option (Int)) (f5 : Int × Int × (List Int) × Int × Int × (List Int) → Option (Bool)) (f6 : Int × Int → Option (Int)) : Nat → List GS := fun k => tabOf k [(14, [{ gf_Inv_g N with F := f0 }]), (56, [{ gf_Make_g N with F := f1 }]), (37, [{ gf_Inverse_g N with F := f2 }]), (12, [{ gf_Mul_g N with F := f3 }]), (15, [{ granarylaw02_num_g N with F := f4 }]), (38, [{ granaryref02_Same_g N with F := f5 }]), (28, [{ gf_Pow_g N with F := f6 }])]
theorem granarylaw02_live_CE (N : Nat) : granarylaw02_live_CA N (gf_Inv N) (gf_Make) (gf_Inverse N) (gf_Mul N) (granarylaw02_num) (granaryref02_Same) (gf_Pow N) = granarylaw02_live_C N := by kernel_rfl
theorem granarylaw02_live_t (N : Nat) : TabC Try.prog (granarylaw02_live_C N) := tab_ok ⟨⟨gf_Inv_ok N, trivial⟩, ⟨gf_Make_ok N, trivial⟩, ⟨gf_Inverse_ok N, trivial⟩, ⟨gf_Mul_ok N, trivial⟩, ⟨granarylaw02_num_ok N, trivial⟩, ⟨granaryref02_Same_ok N, trivial⟩, ⟨gf_Pow_ok N, trivial⟩, trivial⟩
theorem granarylaw02_live_i : loopsOf granarylaw02_live_c = [] := by kernel_rfl
noncomputable def granarylaw02_live_a (N : Nat) (f0 : Int → Option (Int × Int)) (f1 : Int × Int × (List Int) → Option (Int × Int × Int × (List Int))) (f2 : Int × Int × (List Int) → Option (Int × Int × Int × (List Int))) (f3 : Int × Int → Option (Int)) (f4 : Int → Option (Int)) (f5 : Int × Int × (List Int) × Int × Int × (List Int) → Option (Bool)) (f6 : Int × Int → Option (Int)) (x : Unit) : Option (Bool) :=
  (Option.bind (f0 (2 : Int)) fun r1 =>
  (Option.bind (f0 (0 : Int)) fun r2 =>
  (let v3 : List Int := ([(1 : Int), (0 : Int), (1 : Int), (1 : Int)] : List Int)
  (cond (cond (decide (4 ≤ (List.length v3))) true false)
  (Option.bind (f1 ((2 : Int), (2 : Int), (List.take 4 (List.drop 0 v3)))) fun r4 =>
  (Option.bind (f2 (r4.1, r4.2.1, r4.2.2.2)) fun r5 =>
  (let v6 : List Int := ([(1 : Int), (1 : Int), (1 : Int), (1 : Int)] : List Int)
  (cond (cond ((decide (4 ≤ (List.length v6))) && true) true false)
  (Option.bind (f2 ((2 : Int), (2 : Int), (List.take 4 (List.drop 0 v6)))) fun r7 =>
  (Option.bind
  (Option.bind (f3 ((2 : Int), (128 : Int))) fun r8 =>
  (cond (decide (r8 = (29 : Int)))
  (Option.bind (f3 ((3 : Int), (7 : Int))) fun r10 =>
  (cond (decide (r10 = (9 : Int)))
  (cond (decide (r1.1 = (142 : Int)))
  (Option.bind (f4 r1.2) fun r13 =>
  (cond (decide (r13 = (0 : Int)))
  (Option.bind (f4 r2.2) fun r15 =>
  (cond (decide (r15 = (20 : Int)))
  (Option.bind (f4 r4.2.2.1) fun r17 =>
  (cond (decide (r17 = (0 : Int)))
  (Option.bind (f4 r5.2.2.1) fun r19 =>
  (cond (decide (r19 = (0 : Int)))
  (Option.bind (f5 (r4.1, r4.2.1, r4.2.2.2, r5.1, r5.2.1, r5.2.2.2)) fun r21 =>
  (cond r21
  (Option.bind (f4 r7.2.2.1) fun r22 =>
  (cond (decide (r22 = (22 : Int)))
  (Option.bind (f6 ((2 : Int), (-1 : Int))) fun r24 =>
  (some (decide (r24 = (142 : Int)))))
  (some false)))
  (some false)))
  (some false)))
  (some false)))
  (some false)))
  (some false)))
  (some false))
  (some false)))
  (some false)))
  fun r26 =>
  (some r26)))
  none))))
  none))))
theorem granarylaw02_live_f (N : Nat) (f0 : Int → Option (Int × Int)) (f1 : Int × Int × (List Int) → Option (Int × Int × Int × (List Int))) (f2 : Int × Int × (List Int) → Option (Int × Int × Int × (List Int))) (f3 : Int × Int → Option (Int)) (f4 : Int → Option (Int)) (f5 : Int × Int × (List Int) × Int × Int × (List Int) → Option (Bool)) (f6 : Int × Int → Option (Int)) (x) : granarylaw02_live_a N f0 f1 f2 f3 f4 f5 f6 x = fnStep Γ (granarylaw02_live_CA N f0 f1 f2 f3 f4 f5 f6) (granarylaw02_live_J N) 79 Try.f16.results.toList (granarylaw02_live_g N) granarylaw02_live_o granarylaw02_live_c x := by kernel_rfl
theorem granarylaw02_live_e (N : Nat) (x) : (granarylaw02_live_g N).F x = fnStep Γ (granarylaw02_live_C N) (granarylaw02_live_J N) 79 Try.f16.results.toList (granarylaw02_live_g N) granarylaw02_live_o granarylaw02_live_c x := by
  rw [← granarylaw02_live_CE N]
  exact Eq.trans (by kernel_rfl) (granarylaw02_live_f N (gf_Inv N) (gf_Make) (gf_Inverse N) (gf_Mul N) (granarylaw02_num) (granaryref02_Same) (gf_Pow N) x)
theorem granarylaw02_live_y : Try.f16.body = some granarylaw02_live_c := by kernel_rfl
theorem granarylaw02_live_n : (Try.f16.name == "runtime.NumGoroutine") = false := by kernel_rfl
theorem granarylaw02_live_ok (N : Nat) : FnDoes Try.prog 16 (granarylaw02_live_g N) := fn_ok tabOK (granarylaw02_live_t N) mixedOK (J := granarylaw02_live_J N) (body := granarylaw02_live_c) Try.func16 granarylaw02_live_y granarylaw02_live_n Try.ntmps16 (jok_from granarylaw02_live_i ⟨trivial, trivial⟩) rfl rfl (le_of_ble rfl) (granarylaw02_live_e N)
noncomputable def granaryref02_New_c : Code := codeOf Try.f60.body
noncomputable def granaryref02_New_J (N : Nat) : Nat → Hint := fun cx => hintOf cx []
noncomputable def granaryref02_New_C (N : Nat) : Nat → List GS := fun k => tabOf k []
def granaryref02_New_o : List (Shp × List Nat) := [(⟨[(0, (.av (.agg [(.one (.int .i64)), (.one (.int .i64)), (.one (.const (.slw 0 1)))])))], [(.sh (.arr (.int .u8) none), false)]⟩, [])]
noncomputable def granaryref02_New_g (N : Nat) : GS := { ins := ⟨[(0, (.av (.one (.int .i64)))), (1, (.av (.one (.int .i64))))], []⟩, lend := [.keep, .keep], outs := granaryref02_New_o.map fun s => ssOf s.1, its := [.int, .int], ots := [[.int, .int, .lst (.int .u8)]], F := granaryref02_New }
theorem granaryref02_New_t (N : Nat) : TabC Try.prog (granaryref02_New_C N) := tab_ok trivial
theorem granaryref02_New_i : loopsOf granaryref02_New_c = [] := by kernel_rfl
theorem granaryref02_New_e (N : Nat) (x) : (granaryref02_New_g N).F x = fnStep Γ (granaryref02_New_C N) (granaryref02_New_J N) 12 Try.f60.results.toList (granaryref02_New_g N) granaryref02_New_o granaryref02_New_c x := by kernel_rfl
theorem granaryref02_New_y : Try.f60.body = some granaryref02_New_c := by kernel_rfl
theorem granaryref02_New_n : (Try.f60.name == "runtime.NumGoroutine") = false := by kernel_rfl
theorem granaryref02_New_ok (N : Nat) : FnDoes Try.prog 60 (granaryref02_New_g N) := fn_ok tabOK (granaryref02_New_t N) mixedOK (J := granaryref02_New_J N) (body := granaryref02_New_c) Try.func60 granaryref02_New_y granaryref02_New_n Try.ntmps60 (jok_from granaryref02_New_i trivial) rfl rfl (le_of_ble rfl) (granaryref02_New_e N)
noncomputable def granaryref02_Identity_c : Code := codeOf Try.f18.body
noncomputable def granaryref02_Identity_c0 : Code := codeOf (getLoop 0 granaryref02_Identity_c)
def granaryref02_Identity_d0 : LD := { ins := ⟨[(0, (.av (.one (.int .i64)))), (2, (.av (.one (.const (.ptr ⟨0, 0, 0, 0⟩))))), (4, (.av (.one (.const (.ptr ⟨4, 0, 0, 0⟩))))), (5, (.av (.one (.int .i64))))], [(.keep, false), (.keep, false), (.keep, false), (.sh (.arr (.int .u8) none), false), (.sh (.one (.int .i64)), true), (.sh (.one (.int .i64)), true), (.sh (.one (.const (.slw 3 1))), false)]⟩, mov := [], wr := [3, 4, 5, 6], outs := [(.exit 0, ⟨[], [(.keep, false), (.keep, false), (.keep, false), (.sh (.arr (.int .u8) none), false), (.sh (.one (.int .i64)), true), (.sh (.one (.int .i64)), true), (.sh (.one (.const (.slw 3 1))), false)]⟩)], its := [.int, .int, .lst (.int .u8), .int, .int], ots := [[.lst (.int .u8), .int, .int]] }
noncomputable def granaryref02_Identity_J (N : Nat) : Nat → Hint := fun cx => hintOf cx [(0, { reg := fun k => assoc0 k [(1, ⟨⟨[(11, (.av (.one .bool)))], [(.keep, true), (.keep, true), (.keep, false)]⟩, [], [], [.bool]⟩)], cnd := fun k => assoc0 k [], loop := fun k => assoc0 k [(0, ⟨granaryref02_Identity_d0, loopF (granaryref02_Identity_b0 N) N⟩)], nil := fun k => assoc0 k [], unr := fun k => assocN k [], blk := fun k => assoc0 k [] })]
noncomputable def granaryref02_Identity_C (N : Nat) : Nat → List GS := fun k => tabOf k [(60, [granaryref02_New_g N])]
def granaryref02_Identity_o : List (Shp × List Nat) := [(⟨[(0, (.tup [(.agg [(.one (.int .i64)), (.one (.int .i64)), (.one (.const (.slw 0 1)))]), (.one (.int .i64))]))], [(.sh (.arr (.int .u8) none), false)]⟩, [])]
noncomputable def granaryref02_Identity_g (N : Nat) : GS := { ins := ⟨[(0, (.av (.one (.int .i64))))], []⟩, lend := [.keep], outs := granaryref02_Identity_o.map fun s => ssOf s.1, its := [.int], ots := [[.int, .int, .int, .lst (.int .u8)]], F := granaryref02_Identity N }
noncomputable def granaryref02_Identity_CA (N : Nat) (f0 : Int × Int → Option (Int × Int × (List Int))) : Nat → List GS := fun k => tabOf k [(60, [{ granaryref02_New_g N with F := f0 }])]
theorem granaryref02_Identity_CE (N : Nat) : granaryref02_Identity_CA N (granaryref02_New) = granaryref02_Identity_C N := by kernel_rfl
theorem granaryref02_Identity_t (N : Nat) : TabC Try.prog (granaryref02_Identity_C N) := tab_ok ⟨⟨granaryref02_New_ok N, trivial⟩, trivial⟩
theorem granaryref02_Identity_i0 : loopsOf granaryref02_Identity_c0 = [] := by kernel_rfl
noncomputable def granaryref02_Identity_a0 (N : Nat) (f0 : Int × Int → Option (Int × Int × (List Int))) (next : Int × Int × (List Int) × Int × Int → Option (((List Int) × Int × Int))) (x : Int × Int × (List Int) × Int × Int) : Option (((List Int) × Int × Int)) :=
  (cond (decide (x.2.1 < x.1))
  (let v3 : Int := (wrapF .i64 ((wrapF .i64 (x.2.1 * x.1)) + x.2.1))
  (cond ((decide ((0 : Int) ≤ v3)) && (decide (v3 < (((List.length x.2.2.1) : Nat) : Int))))
  ((let v4 : Nat := (Int.toNat v3)
  (cond (decide (v4 < (List.length x.2.2.1)))
  ((next (x.1, (wrapF .i64 (x.2.1 + (1 : Int))), (List.set x.2.2.1 v4 (1 : Int)), x.2.2.2.1, x.2.2.2.2)))
  none)))
  none))
  (some (x.2.2.1, x.2.2.2.1, x.2.2.2.2)))
theorem granaryref02_Identity_f0 (N : Nat) (f0 : Int × Int → Option (Int × Int × (List Int))) (next) (x) : granaryref02_Identity_a0 N f0 next x = loopStep Γ (granaryref02_Identity_CA N f0) (granaryref02_Identity_J N) 0 30 granaryref02_Identity_d0 granaryref02_Identity_c0 next x := by kernel_rfl
theorem granaryref02_Identity_e0 (N : Nat) (next) (x) : granaryref02_Identity_b0 N next x = loopStep Γ (granaryref02_Identity_C N) (granaryref02_Identity_J N) 0 30 granaryref02_Identity_d0 granaryref02_Identity_c0 next x := by
  rw [← granaryref02_Identity_CE N]
  exact Eq.trans (by kernel_rfl) (granaryref02_Identity_f0 N (granaryref02_New) next x)
theorem granaryref02_Identity_k0 (N : Nat) : LoopOK Try.prog 30 granaryref02_Identity_c0 ⟨granaryref02_Identity_d0, loopF (granaryref02_Identity_b0 N) N⟩ := loop_ok tabOK (granaryref02_Identity_t N) mixedOK (J := granaryref02_Identity_J N) (cx := 0) (body := granaryref02_Identity_c0) (nt := 30) (l := granaryref02_Identity_d0) (b := granaryref02_Identity_b0 N) (jok_from granaryref02_Identity_i0 ⟨trivial, trivial⟩) (granaryref02_Identity_e0 N) N
theorem granaryref02_Identity_i : loopsOf granaryref02_Identity_c = [(0, granaryref02_Identity_c0)] := by kernel_rfl
noncomputable def granaryref02_Identity_a (N : Nat) (f0 : Int × Int → Option (Int × Int × (List Int))) (x : Int) : Option (Int × Int × Int × (List Int)) :=
  (Option.bind
  (cond (decide (x < (1 : Int)))
  (some true)
  (some (decide ((64 : Int) < x))))
  fun r3 =>
  (cond r3
  (some ((0 : Int), (0 : Int), (2 : Int), ([] : List Int)))
  (Option.bind (f0 (x, x)) fun r4 =>
  (Option.bind (granaryref02_Identity_l0 N (x, (0 : Int), r4.2.2, r4.1, r4.2.1)) fun r5 =>
  (some (r5.2.1, r5.2.2, (0 : Int), r5.1))))))
theorem granaryref02_Identity_f (N : Nat) (f0 : Int × Int → Option (Int × Int × (List Int))) (x) : granaryref02_Identity_a N f0 x = fnStep Γ (granaryref02_Identity_CA N f0) (granaryref02_Identity_J N) 30 Try.f18.results.toList (granaryref02_Identity_g N) granaryref02_Identity_o granaryref02_Identity_c x := by kernel_rfl
theorem granaryref02_Identity_e (N : Nat) (x) : (granaryref02_Identity_g N).F x = fnStep Γ (granaryref02_Identity_C N) (granaryref02_Identity_J N) 30 Try.f18.results.toList (granaryref02_Identity_g N) granaryref02_Identity_o granaryref02_Identity_c x := by
  rw [← granaryref02_Identity_CE N]
  exact Eq.trans (by kernel_rfl) (granaryref02_Identity_f N (granaryref02_New) x)
theorem granaryref02_Identity_y : Try.f18.body = some granaryref02_Identity_c := by kernel_rfl
theorem granaryref02_Identity_n : (Try.f18.name == "runtime.NumGoroutine") = false := by kernel_rfl
theorem granaryref02_Identity_ok (N : Nat) : FnDoes Try.prog 18 (granaryref02_Identity_g N) := fn_ok tabOK (granaryref02_Identity_t N) mixedOK (J := granaryref02_Identity_J N) (body := granaryref02_Identity_c) Try.func18 granaryref02_Identity_y granaryref02_Identity_n Try.ntmps18 (jok_from granaryref02_Identity_i ⟨⟨.inr ⟨_, rfl, granaryref02_Identity_k0 N⟩, trivial⟩, trivial⟩) rfl rfl (le_of_ble rfl) (granaryref02_Identity_e N)
noncomputable def gf_Powers_c : Code := codeOf Try.f19.body
noncomputable def gf_Powers_c0 : Code := codeOf (getLoop 0 gf_Powers_c)
noncomputable def gf_Powers_c2 : Code := codeOf (getLoop 2 gf_Powers_c)
def gf_Powers_d2 : LD := { ins := ⟨[(1, (.av (.one (.int .i64)))), (4, (.av (.one (.const (.ptr ⟨0, 0, 0, 0⟩))))), (6, (.av (.one (.const (.ptr ⟨4, 0, 0, 0⟩))))), (7, (.av (.one (.int .i64)))), (21, (.av (.one (.int .i64)))), (22, (.av (.one (.int .i64)))), (25, (.av (.one (.int .i64)))), (26, (.av (.one (.int .i64))))], [(.keep, false), (.keep, false), (.keep, false), (.sh (.arr (.int .u8) none), false), (.sh (.one (.int .i64)), true), (.sh (.one (.int .i64)), true), (.sh (.one (.const (.slw 3 1))), false)]⟩, mov := [], wr := [3, 4, 5, 6], outs := [(.exit 2, ⟨[], [(.keep, false), (.keep, false), (.keep, false), (.sh (.arr (.int .u8) none), false), (.sh (.one (.int .i64)), true), (.sh (.one (.int .i64)), true), (.sh (.one (.const (.slw 3 1))), false)]⟩)], its := [.int, .int, .int, .int, .int, .int, .lst (.int .u8), .int, .int], ots := [[.lst (.int .u8), .int, .int]] }
def gf_Powers_d0 : LD := { ins := ⟨[(1, (.av (.one (.int .i64)))), (4, (.av (.one (.const (.ptr ⟨0, 0, 0, 0⟩))))), (6, (.av (.one (.const (.ptr ⟨4, 0, 0, 0⟩))))), (21, (.av (.one (.int .i64)))), (22, (.av (.one (.int .i64))))], [(.keep, false), (.keep, false), (.keep, false), (.sh (.arr (.int .u8) none), false), (.sh (.one (.int .i64)), true), (.sh (.one (.int .i64)), true), (.sh (.one (.const (.slw 3 1))), false)]⟩, mov := [], wr := [3, 4, 5, 6], outs := [(.exit 0, ⟨[], [(.keep, false), (.keep, false), (.keep, false), (.sh (.arr (.int .u8) none), false), (.sh (.one (.int .i64)), true), (.sh (.one (.int .i64)), true), (.sh (.one (.const (.slw 3 1))), false)]⟩)], its := [.int, .int, .int, .lst (.int .u8), .int, .int], ots := [[.lst (.int .u8), .int, .int]] }
noncomputable def gf_Powers_J (N : Nat) : Nat → Hint := fun cx => hintOf cx [(0, { reg := fun k => assoc0 k [(1, ⟨⟨[(16, (.av (.one .bool)))], [(.keep, true), (.keep, true), (.keep, false)]⟩, [], [], [.bool]⟩)], cnd := fun k => assoc0 k [], loop := fun k => assoc0 k [(2, ⟨gf_Powers_d2, loopF (gf_Powers_b2 N) N⟩), (0, ⟨gf_Powers_d0, loopF (gf_Powers_b0 N) N⟩)], nil := fun k => assoc0 k [], unr := fun k => assocN k [], blk := fun k => assoc0 k [] })]
noncomputable def gf_Powers_C (N : Nat) : Nat → List GS := fun k => tabOf k [(57, [gf_side_g N]), (58, [gf_zeros_g N]), (59, [gf_row_g N]), (28, [gf_Pow_g N])]
def gf_Powers_o : List (Shp × List Nat) := [(⟨[(0, (.tup [(.agg [(.one (.int .i64)), (.one (.int .i64)), (.one (.const (.slw 0 1)))]), (.one (.int .i64))]))], [(.sh (.arr (.int .u8) none), false)]⟩, [])]
noncomputable def gf_Powers_g (N : Nat) : GS := { ins := ⟨[(0, (.av (.one (.int .i64)))), (1, (.av (.one (.int .i64))))], []⟩, lend := [.keep, .keep], outs := gf_Powers_o.map fun s => ssOf s.1, its := [.int, .int], ots := [[.int, .int, .int, .lst (.int .u8)]], F := gf_Powers N }
noncomputable def gf_Powers_CA (N : Nat) (f0 : Int → Option (Bool)) (f1 : Int × Int → Option (Int × Int × (List Int))) (f2 : Int × Int × Int × (List Int) → Option (Nat × Nat × (List Int))) (f3 : Int × Int → Option (Int)) : Nat → List GS := fun k => tabOf k [(57, [{ gf_side_g N with F := f0 }]), (58, [{ gf_zeros_g N with F := f1 }]), (59, [{ gf_row_g N with F := f2 }]), (28, [{ gf_Pow_g N with F := f3 }])]
theorem gf_Powers_CE (N : Nat) : gf_Powers_CA N (gf_side) (gf_zeros) (gf_row) (gf_Pow N) = gf_Powers_C N := by kernel_rfl
theorem gf_Powers_t (N : Nat) : TabC Try.prog (gf_Powers_C N) := tab_ok ⟨⟨gf_side_ok N, trivial⟩, ⟨gf_zeros_ok N, trivial⟩, ⟨gf_row_ok N, trivial⟩, ⟨gf_Pow_ok N, trivial⟩, trivial⟩
theorem gf_Powers_i2 : loopsOf gf_Powers_c2 = [] := by kernel_rfl
noncomputable def gf_Powers_a2 (N : Nat) (f0 : Int → Option (Bool)) (f1 : Int × Int → Option (Int × Int × (List Int))) (f2 : Int × Int × Int × (List Int) → Option (Nat × Nat × (List Int))) (f3 : Int × Int → Option (Int)) (next : Int × Int × Int × Int × Int × Int × (List Int) × Int × Int → Option (((List Int) × Int × Int))) (x : Int × Int × Int × Int × Int × Int × (List Int) × Int × Int) : Option (((List Int) × Int × Int)) :=
  (cond (decide (x.2.2.2.2.2.1 < x.2.2.2.2.1))
  (Option.bind (f2 (x.2.2.2.2.2.2.2.1, x.2.2.2.2.2.2.2.2, x.2.1, x.2.2.2.2.2.2.1)) fun r2 =>
  (Option.bind (f3 ((wrapF .u8 x.2.1), x.2.2.2.2.2.1)) fun r4 =>
  (cond ((decide ((0 : Int) ≤ x.2.2.2.2.2.1)) && (decide (x.2.2.2.2.2.1 < ((r2.2.1 : Nat) : Int))))
  ((let v5 : Nat := ((Int.toNat x.2.2.2.2.2.1) + r2.1)
  (cond (decide (v5 < (List.length r2.2.2)))
  ((next (x.1, x.2.1, x.2.2.1, x.2.2.2.1, x.2.2.2.2.1, (wrapF .i64 (x.2.2.2.2.2.1 + (1 : Int))), (List.set r2.2.2 v5 r4), x.2.2.2.2.2.2.2.1, x.2.2.2.2.2.2.2.2)))
  none)))
  none)))
  (some (x.2.2.2.2.2.2.1, x.2.2.2.2.2.2.2.1, x.2.2.2.2.2.2.2.2)))
theorem gf_Powers_f2 (N : Nat) (f0 : Int → Option (Bool)) (f1 : Int × Int → Option (Int × Int × (List Int))) (f2 : Int × Int × Int × (List Int) → Option (Nat × Nat × (List Int))) (f3 : Int × Int → Option (Int)) (next) (x) : gf_Powers_a2 N f0 f1 f2 f3 next x = loopStep Γ (gf_Powers_CA N f0 f1 f2 f3) (gf_Powers_J N) 0 41 gf_Powers_d2 gf_Powers_c2 next x := by kernel_rfl
theorem gf_Powers_e2 (N : Nat) (next) (x) : gf_Powers_b2 N next x = loopStep Γ (gf_Powers_C N) (gf_Powers_J N) 0 41 gf_Powers_d2 gf_Powers_c2 next x := by
  rw [← gf_Powers_CE N]
  exact Eq.trans (by kernel_rfl) (gf_Powers_f2 N (gf_side) (gf_zeros) (gf_row) (gf_Pow N) next x)
theorem gf_Powers_k2 (N : Nat) : LoopOK Try.prog 41 gf_Powers_c2 ⟨gf_Powers_d2, loopF (gf_Powers_b2 N) N⟩ := loop_ok tabOK (gf_Powers_t N) mixedOK (J := gf_Powers_J N) (cx := 0) (body := gf_Powers_c2) (nt := 41) (l := gf_Powers_d2) (b := gf_Powers_b2 N) (jok_from gf_Powers_i2 ⟨trivial, trivial⟩) (gf_Powers_e2 N) N
theorem gf_Powers_i0 : loopsOf gf_Powers_c0 = [(2, gf_Powers_c2)] := by kernel_rfl
noncomputable def gf_Powers_a0 (N : Nat) (f0 : Int → Option (Bool)) (f1 : Int × Int → Option (Int × Int × (List Int))) (f2 : Int × Int × Int × (List Int) → Option (Nat × Nat × (List Int))) (f3 : Int × Int → Option (Int)) (next : Int × Int × Int × (List Int) × Int × Int → Option (((List Int) × Int × Int))) (x : Int × Int × Int × (List Int) × Int × Int) : Option (((List Int) × Int × Int)) :=
  (cond (decide (x.2.2.1 < x.2.1))
  (Option.bind (gf_Powers_l2 N (x.1, x.2.2.1, x.2.1, x.2.2.1, x.1, (0 : Int), x.2.2.2.1, x.2.2.2.2.1, x.2.2.2.2.2)) fun r2 =>
  (next (x.1, x.2.1, (wrapF .i64 (x.2.2.1 + (1 : Int))), r2.1, r2.2.1, r2.2.2)))
  (some (x.2.2.2.1, x.2.2.2.2.1, x.2.2.2.2.2)))
theorem gf_Powers_f0 (N : Nat) (f0 : Int → Option (Bool)) (f1 : Int × Int → Option (Int × Int × (List Int))) (f2 : Int × Int × Int × (List Int) → Option (Nat × Nat × (List Int))) (f3 : Int × Int → Option (Int)) (next) (x) : gf_Powers_a0 N f0 f1 f2 f3 next x = loopStep Γ (gf_Powers_CA N f0 f1 f2 f3) (gf_Powers_J N) 0 41 gf_Powers_d0 gf_Powers_c0 next x := by kernel_rfl
theorem gf_Powers_e0 (N : Nat) (next) (x) : gf_Powers_b0 N next x = loopStep Γ (gf_Powers_C N) (gf_Powers_J N) 0 41 gf_Powers_d0 gf_Powers_c0 next x := by
  rw [← gf_Powers_CE N]
  exact Eq.trans (by kernel_rfl) (gf_Powers_f0 N (gf_side) (gf_zeros) (gf_row) (gf_Pow N) next x)
theorem gf_Powers_k0 (N : Nat) : LoopOK Try.prog 41 gf_Powers_c0 ⟨gf_Powers_d0, loopF (gf_Powers_b0 N) N⟩ := loop_ok tabOK (gf_Powers_t N) mixedOK (J := gf_Powers_J N) (cx := 0) (body := gf_Powers_c0) (nt := 41) (l := gf_Powers_d0) (b := gf_Powers_b0 N) (jok_from gf_Powers_i0 ⟨⟨.inr ⟨_, rfl, gf_Powers_k2 N⟩, trivial⟩, trivial⟩) (gf_Powers_e0 N) N
theorem gf_Powers_i : loopsOf gf_Powers_c = [(0, gf_Powers_c0), (2, gf_Powers_c2)] := by kernel_rfl
noncomputable def gf_Powers_a (N : Nat) (f0 : Int → Option (Bool)) (f1 : Int × Int → Option (Int × Int × (List Int))) (f2 : Int × Int × Int × (List Int) → Option (Nat × Nat × (List Int))) (f3 : Int × Int → Option (Int)) (x : Int × Int) : Option (Int × Int × Int × (List Int)) :=
  (Option.bind
  (Option.bind (f0 x.1) fun r1 =>
  (cond (!r1)
  (some true)
  (Option.bind (f0 x.2) fun r3 =>
  (some (!r3)))))
  fun r5 =>
  (cond r5
  (some ((0 : Int), (0 : Int), (2 : Int), ([] : List Int)))
  (Option.bind (f1 (x.1, x.2)) fun r6 =>
  (Option.bind (gf_Powers_l0 N (x.2, x.1, (0 : Int), r6.2.2, r6.1, r6.2.1)) fun r7 =>
  (some (r7.2.1, r7.2.2, (0 : Int), r7.1))))))
theorem gf_Powers_f (N : Nat) (f0 : Int → Option (Bool)) (f1 : Int × Int → Option (Int × Int × (List Int))) (f2 : Int × Int × Int × (List Int) → Option (Nat × Nat × (List Int))) (f3 : Int × Int → Option (Int)) (x) : gf_Powers_a N f0 f1 f2 f3 x = fnStep Γ (gf_Powers_CA N f0 f1 f2 f3) (gf_Powers_J N) 41 Try.f19.results.toList (gf_Powers_g N) gf_Powers_o gf_Powers_c x := by kernel_rfl
theorem gf_Powers_e (N : Nat) (x) : (gf_Powers_g N).F x = fnStep Γ (gf_Powers_C N) (gf_Powers_J N) 41 Try.f19.results.toList (gf_Powers_g N) gf_Powers_o gf_Powers_c x := by
  rw [← gf_Powers_CE N]
  exact Eq.trans (by kernel_rfl) (gf_Powers_f N (gf_side) (gf_zeros) (gf_row) (gf_Pow N) x)
theorem gf_Powers_y : Try.f19.body = some gf_Powers_c := by kernel_rfl
theorem gf_Powers_n : (Try.f19.name == "runtime.NumGoroutine") = false := by kernel_rfl
theorem gf_Powers_ok (N : Nat) : FnDoes Try.prog 19 (gf_Powers_g N) := fn_ok tabOK (gf_Powers_t N) mixedOK (J := gf_Powers_J N) (body := gf_Powers_c) Try.func19 gf_Powers_y gf_Powers_n Try.ntmps19 (jok_from gf_Powers_i ⟨⟨.inr ⟨_, rfl, gf_Powers_k0 N⟩, .inr ⟨_, rfl, gf_Powers_k2 N⟩, trivial⟩, trivial⟩) rfl rfl (le_of_ble rfl) (gf_Powers_e N)
noncomputable def granaryref02_Mul_c : Code := codeOf Try.f27.body
noncomputable def granaryref02_Mul_c0 : Code := codeOf (getLoop 0 granaryref02_Mul_c)
def granaryref02_Mul_d0 : LD := { ins := ⟨[(1, (.av (.one (.int .u8)))), (5, (.av (.one (.int .i64)))), (6, (.av (.one (.int .i64)))), (7, (.av (.one (.int .i64))))], []⟩, mov := [], wr := [], outs := [(.exit 0, ⟨[(5, (.av (.one (.int .i64))))], []⟩)], its := [.int, .int, .int, .int], ots := [[.int]] }
noncomputable def granaryref02_Mul_J (N : Nat) : Nat → Hint := fun cx => hintOf cx [(0, { reg := fun k => assoc0 k [], cnd := fun k => assoc0 k [(19, ⟨[], [], [(.normal, ⟨[(5, (.av (.one (.int .i64))))], []⟩)], [[.int]]⟩), (26, ⟨[], [], [(.normal, ⟨[(6, (.av (.one (.int .i64))))], []⟩)], [[.int]]⟩)], loop := fun k => assoc0 k [(0, ⟨granaryref02_Mul_d0, loopF (granaryref02_Mul_b0 N) N⟩)], nil := fun k => assoc0 k [], unr := fun k => assocN k [], blk := fun k => assoc0 k [] })]
noncomputable def granaryref02_Mul_C (N : Nat) : Nat → List GS := fun k => tabOf k []
def granaryref02_Mul_o : List (Shp × List Nat) := [(⟨[(0, (.av (.one (.int .u8))))], []⟩, [])]
noncomputable def granaryref02_Mul_g (N : Nat) : GS := { ins := ⟨[(0, (.av (.one (.int .u8)))), (1, (.av (.one (.int .u8))))], []⟩, lend := [.keep, .keep], outs := granaryref02_Mul_o.map fun s => ssOf s.1, its := [.int, .int], ots := [[.int]], F := granaryref02_Mul N }
theorem granaryref02_Mul_t (N : Nat) : TabC Try.prog (granaryref02_Mul_C N) := tab_ok trivial
theorem granaryref02_Mul_i0 : loopsOf granaryref02_Mul_c0 = [] := by kernel_rfl
theorem granaryref02_Mul_e0 (N : Nat) (next) (x) : granaryref02_Mul_b0 N next x = loopStep Γ (granaryref02_Mul_C N) (granaryref02_Mul_J N) 0 31 granaryref02_Mul_d0 granaryref02_Mul_c0 next x := by kernel_rfl
theorem granaryref02_Mul_k0 (N : Nat) : LoopOK Try.prog 31 granaryref02_Mul_c0 ⟨granaryref02_Mul_d0, loopF (granaryref02_Mul_b0 N) N⟩ := loop_ok tabOK (granaryref02_Mul_t N) mixedOK (J := granaryref02_Mul_J N) (cx := 0) (body := granaryref02_Mul_c0) (nt := 31) (l := granaryref02_Mul_d0) (b := granaryref02_Mul_b0 N) (jok_from granaryref02_Mul_i0 ⟨trivial, trivial⟩) (granaryref02_Mul_e0 N) N
theorem granaryref02_Mul_i : loopsOf granaryref02_Mul_c = [(0, granaryref02_Mul_c0)] := by kernel_rfl
theorem granaryref02_Mul_e (N : Nat) (x) : (granaryref02_Mul_g N).F x = fnStep Γ (granaryref02_Mul_C N) (granaryref02_Mul_J N) 31 Try.f27.results.toList (granaryref02_Mul_g N) granaryref02_Mul_o granaryref02_Mul_c x := by kernel_rfl
theorem granaryref02_Mul_y : Try.f27.body = some granaryref02_Mul_c := by kernel_rfl
theorem granaryref02_Mul_n : (Try.f27.name == "runtime.NumGoroutine") = false := by kernel_rfl
theorem granaryref02_Mul_ok (N : Nat) : FnDoes Try.prog 27 (granaryref02_Mul_g N) := fn_ok tabOK (granaryref02_Mul_t N) mixedOK (J := granaryref02_Mul_J N) (body := granaryref02_Mul_c) Try.func27 granaryref02_Mul_y granaryref02_Mul_n Try.ntmps27 (jok_from granaryref02_Mul_i ⟨⟨.inr ⟨_, rfl, granaryref02_Mul_k0 N⟩, trivial⟩, trivial⟩) rfl rfl (le_of_ble rfl) (granaryref02_Mul_e N)
noncomputable def granaryref02_power_c : Code := codeOf Try.f61.body
noncomputable def granaryref02_power_c0 : Code := codeOf (getLoop 0 granaryref02_power_c)
def granaryref02_power_d0 : LD := { ins := ⟨[(0, (.av (.one (.int .u8)))), (1, (.av (.one (.int .i64)))), (5, (.av (.one (.int .u8)))), (6, (.av (.one (.int .i64))))], []⟩, mov := [], wr := [], outs := [(.exit 0, ⟨[(5, (.av (.one (.int .u8))))], []⟩)], its := [.int, .int, .int, .int], ots := [[.int]] }
noncomputable def granaryref02_power_J (N : Nat) : Nat → Hint := fun cx => hintOf cx [(0, { reg := fun k => assoc0 k [], cnd := fun k => assoc0 k [], loop := fun k => assoc0 k [(0, ⟨granaryref02_power_d0, loopF (granaryref02_power_b0 N) N⟩)], nil := fun k => assoc0 k [], unr := fun k => assocN k [], blk := fun k => assoc0 k [] })]
noncomputable def granaryref02_power_C (N : Nat) : Nat → List GS := fun k => tabOf k [(27, [granaryref02_Mul_g N])]
def granaryref02_power_o : List (Shp × List Nat) := [(⟨[(0, (.av (.one (.int .u8))))], []⟩, [])]
noncomputable def granaryref02_power_g (N : Nat) : GS := { ins := ⟨[(0, (.av (.one (.int .u8)))), (1, (.av (.one (.int .i64))))], []⟩, lend := [.keep, .keep], outs := granaryref02_power_o.map fun s => ssOf s.1, its := [.int, .int], ots := [[.int]], F := granaryref02_power N }
noncomputable def granaryref02_power_CA (N : Nat) (f0 : Int × Int → Option (Int)) : Nat → List GS := fun k => tabOf k [(27, [{ granaryref02_Mul_g N with F := f0 }])]
theorem granaryref02_power_CE (N : Nat) : granaryref02_power_CA N (granaryref02_Mul N) = granaryref02_power_C N := by kernel_rfl
theorem granaryref02_power_t (N : Nat) : TabC Try.prog (granaryref02_power_C N) := tab_ok ⟨⟨granaryref02_Mul_ok N, trivial⟩, trivial⟩
theorem granaryref02_power_i0 : loopsOf granaryref02_power_c0 = [] := by kernel_rfl
noncomputable def granaryref02_power_a0 (N : Nat) (f0 : Int × Int → Option (Int)) (next : Int × Int × Int × Int → Option (Int)) (x : Int × Int × Int × Int) : Option (Int) :=
  (cond (decide (x.2.2.2 < x.2.1))
  (Option.bind (f0 (x.2.2.1, x.1)) fun r2 =>
  (next (x.1, x.2.1, r2, (wrapF .i64 (x.2.2.2 + (1 : Int))))))
  (some x.2.2.1))
theorem granaryref02_power_f0 (N : Nat) (f0 : Int × Int → Option (Int)) (next) (x) : granaryref02_power_a0 N f0 next x = loopStep Γ (granaryref02_power_CA N f0) (granaryref02_power_J N) 0 16 granaryref02_power_d0 granaryref02_power_c0 next x := by kernel_rfl
theorem granaryref02_power_e0 (N : Nat) (next) (x) : granaryref02_power_b0 N next x = loopStep Γ (granaryref02_power_C N) (granaryref02_power_J N) 0 16 granaryref02_power_d0 granaryref02_power_c0 next x := by
  rw [← granaryref02_power_CE N]
  exact Eq.trans (by kernel_rfl) (granaryref02_power_f0 N (granaryref02_Mul N) next x)
theorem granaryref02_power_k0 (N : Nat) : LoopOK Try.prog 16 granaryref02_power_c0 ⟨granaryref02_power_d0, loopF (granaryref02_power_b0 N) N⟩ := loop_ok tabOK (granaryref02_power_t N) mixedOK (J := granaryref02_power_J N) (cx := 0) (body := granaryref02_power_c0) (nt := 16) (l := granaryref02_power_d0) (b := granaryref02_power_b0 N) (jok_from granaryref02_power_i0 ⟨trivial, trivial⟩) (granaryref02_power_e0 N) N
theorem granaryref02_power_i : loopsOf granaryref02_power_c = [(0, granaryref02_power_c0)] := by kernel_rfl
noncomputable def granaryref02_power_a (N : Nat) (f0 : Int × Int → Option (Int)) (x : Int × Int) : Option (Int) :=
  (Option.bind (granaryref02_power_l0 N (x.1, x.2, (1 : Int), (0 : Int))) fun r1 =>
  (some r1))
theorem granaryref02_power_f (N : Nat) (f0 : Int × Int → Option (Int)) (x) : granaryref02_power_a N f0 x = fnStep Γ (granaryref02_power_CA N f0) (granaryref02_power_J N) 16 Try.f61.results.toList (granaryref02_power_g N) granaryref02_power_o granaryref02_power_c x := by kernel_rfl
theorem granaryref02_power_e (N : Nat) (x) : (granaryref02_power_g N).F x = fnStep Γ (granaryref02_power_C N) (granaryref02_power_J N) 16 Try.f61.results.toList (granaryref02_power_g N) granaryref02_power_o granaryref02_power_c x := by
  rw [← granaryref02_power_CE N]
  exact Eq.trans (by kernel_rfl) (granaryref02_power_f N (granaryref02_Mul N) x)
theorem granaryref02_power_y : Try.f61.body = some granaryref02_power_c := by kernel_rfl
theorem granaryref02_power_n : (Try.f61.name == "runtime.NumGoroutine") = false := by kernel_rfl
theorem granaryref02_power_ok (N : Nat) : FnDoes Try.prog 61 (granaryref02_power_g N) := fn_ok tabOK (granaryref02_power_t N) mixedOK (J := granaryref02_power_J N) (body := granaryref02_power_c) Try.func61 granaryref02_power_y granaryref02_power_n Try.ntmps61 (jok_from granaryref02_power_i ⟨⟨.inr ⟨_, rfl, granaryref02_power_k0 N⟩, trivial⟩, trivial⟩) rfl rfl (le_of_ble rfl) (granaryref02_power_e N)
noncomputable def granaryref02_Pow_c : Code := codeOf Try.f29.body
noncomputable def granaryref02_Pow_J (N : Nat) : Nat → Hint := fun cx => hintOf cx [(0, { reg := fun k => assoc0 k [], cnd := fun k => assoc0 k [(13, ⟨[], [], [(.normal, ⟨[(5, (.av (.one (.int .i64))))], []⟩)], [[.int]]⟩)], loop := fun k => assoc0 k [], nil := fun k => assoc0 k [], unr := fun k => assocN k [], blk := fun k => assoc0 k [] })]
noncomputable def granaryref02_Pow_C (N : Nat) : Nat → List GS := fun k => tabOf k [(61, [granaryref02_power_g N])]
def granaryref02_Pow_o : List (Shp × List Nat) := [(⟨[(0, (.av (.one (.int .u8))))], []⟩, [])]
noncomputable def granaryref02_Pow_g (N : Nat) : GS := { ins := ⟨[(0, (.av (.one (.int .u8)))), (1, (.av (.one (.int .i64))))], []⟩, lend := [.keep, .keep], outs := granaryref02_Pow_o.map fun s => ssOf s.1, its := [.int, .int], ots := [[.int]], F := granaryref02_Pow N }
noncomputable def granaryref02_Pow_CA (N : Nat) (f0 : Int × Int → Option (Int)) : Nat → List GS := fun k => tabOf k [(61, [{ granaryref02_power_g N with F := f0 }])]
theorem granaryref02_Pow_CE (N : Nat) : granaryref02_Pow_CA N (granaryref02_power N) = granaryref02_Pow_C N := by kernel_rfl
theorem granaryref02_Pow_t (N : Nat) : TabC Try.prog (granaryref02_Pow_C N) := tab_ok ⟨⟨granaryref02_power_ok N, trivial⟩, trivial⟩
theorem granaryref02_Pow_i : loopsOf granaryref02_Pow_c = [] := by kernel_rfl
noncomputable def granaryref02_Pow_a (N : Nat) (f0 : Int × Int → Option (Int)) (x : Int × Int) : Option (Int) :=
  (cond (decide (x.1 = (0 : Int)))
  (cond (decide (x.2 = (0 : Int)))
  (some (1 : Int))
  (some (0 : Int)))
  (let v3 : Int := (Int.tmod x.2 (255 : Int))
  (Option.bind
  (cond (decide (v3 < (0 : Int)))
  (some (wrapF .i64 (v3 + (255 : Int))))
  (some v3))
  fun r6 =>
  (Option.bind (f0 (x.1, r6)) fun r7 =>
  (some r7)))))
theorem granaryref02_Pow_f (N : Nat) (f0 : Int × Int → Option (Int)) (x) : granaryref02_Pow_a N f0 x = fnStep Γ (granaryref02_Pow_CA N f0) (granaryref02_Pow_J N) 19 Try.f29.results.toList (granaryref02_Pow_g N) granaryref02_Pow_o granaryref02_Pow_c x := by kernel_rfl
theorem granaryref02_Pow_e (N : Nat) (x) : (granaryref02_Pow_g N).F x = fnStep Γ (granaryref02_Pow_C N) (granaryref02_Pow_J N) 19 Try.f29.results.toList (granaryref02_Pow_g N) granaryref02_Pow_o granaryref02_Pow_c x := by
  rw [← granaryref02_Pow_CE N]
  exact Eq.trans (by kernel_rfl) (granaryref02_Pow_f N (granaryref02_power N) x)
theorem granaryref02_Pow_y : Try.f29.body = some granaryref02_Pow_c := by kernel_rfl
theorem granaryref02_Pow_n : (Try.f29.name == "runtime.NumGoroutine") = false := by kernel_rfl
theorem granaryref02_Pow_ok (N : Nat) : FnDoes Try.prog 29 (granaryref02_Pow_g N) := fn_ok tabOK (granaryref02_Pow_t N) mixedOK (J := granaryref02_Pow_J N) (body := granaryref02_Pow_c) Try.func29 granaryref02_Pow_y granaryref02_Pow_n Try.ntmps29 (jok_from granaryref02_Pow_i ⟨trivial, trivial⟩) rfl rfl (le_of_ble rfl) (granaryref02_Pow_e N)
noncomputable def granaryref02_Powers_c : Code := codeOf Try.f20.body
noncomputable def granaryref02_Powers_c0 : Code := codeOf (getLoop 0 granaryref02_Powers_c)
noncomputable def granaryref02_Powers_c2 : Code := codeOf (getLoop 2 granaryref02_Powers_c)
def granaryref02_Powers_d2 : LD := { ins := ⟨[(0, (.av (.one (.int .i64)))), (1, (.av (.one (.int .i64)))), (4, (.av (.one (.const (.ptr ⟨0, 0, 0, 0⟩))))), (6, (.av (.one (.const (.ptr ⟨4, 0, 0, 0⟩))))), (7, (.av (.one (.int .i64)))), (8, (.av (.one (.int .i64))))], [(.keep, false), (.keep, false), (.keep, false), (.sh (.arr (.int .u8) none), false), (.sh (.one (.int .i64)), true), (.sh (.one (.int .i64)), true), (.sh (.one (.const (.slw 3 1))), false)]⟩, mov := [], wr := [3, 4, 5, 6], outs := [(.exit 2, ⟨[], [(.keep, false), (.keep, false), (.keep, false), (.sh (.arr (.int .u8) none), false), (.sh (.one (.int .i64)), true), (.sh (.one (.int .i64)), true), (.sh (.one (.const (.slw 3 1))), false)]⟩)], its := [.int, .int, .int, .int, .lst (.int .u8), .int, .int], ots := [[.lst (.int .u8), .int, .int]] }
def granaryref02_Powers_d0 : LD := { ins := ⟨[(0, (.av (.one (.int .i64)))), (1, (.av (.one (.int .i64)))), (4, (.av (.one (.const (.ptr ⟨0, 0, 0, 0⟩))))), (6, (.av (.one (.const (.ptr ⟨4, 0, 0, 0⟩))))), (7, (.av (.one (.int .i64))))], [(.keep, false), (.keep, false), (.keep, false), (.sh (.arr (.int .u8) none), false), (.sh (.one (.int .i64)), true), (.sh (.one (.int .i64)), true), (.sh (.one (.const (.slw 3 1))), false)]⟩, mov := [], wr := [3, 4, 5, 6], outs := [(.exit 0, ⟨[], [(.keep, false), (.keep, false), (.keep, false), (.sh (.arr (.int .u8) none), false), (.sh (.one (.int .i64)), true), (.sh (.one (.int .i64)), true), (.sh (.one (.const (.slw 3 1))), false)]⟩)], its := [.int, .int, .int, .lst (.int .u8), .int, .int], ots := [[.lst (.int .u8), .int, .int]] }
noncomputable def granaryref02_Powers_J (N : Nat) : Nat → Hint := fun cx => hintOf cx [(0, { reg := fun k => assoc0 k [(1, ⟨⟨[(22, (.av (.one .bool)))], [(.keep, true), (.keep, true), (.keep, false)]⟩, [], [], [.bool]⟩)], cnd := fun k => assoc0 k [], loop := fun k => assoc0 k [(2, ⟨granaryref02_Powers_d2, loopF (granaryref02_Powers_b2 N) N⟩), (0, ⟨granaryref02_Powers_d0, loopF (granaryref02_Powers_b0 N) N⟩)], nil := fun k => assoc0 k [], unr := fun k => assocN k [], blk := fun k => assoc0 k [] })]
noncomputable def granaryref02_Powers_C (N : Nat) : Nat → List GS := fun k => tabOf k [(60, [granaryref02_New_g N]), (29, [granaryref02_Pow_g N])]
def granaryref02_Powers_o : List (Shp × List Nat) := [(⟨[(0, (.tup [(.agg [(.one (.int .i64)), (.one (.int .i64)), (.one (.const (.slw 0 1)))]), (.one (.int .i64))]))], [(.sh (.arr (.int .u8) none), false)]⟩, [])]
noncomputable def granaryref02_Powers_g (N : Nat) : GS := { ins := ⟨[(0, (.av (.one (.int .i64)))), (1, (.av (.one (.int .i64))))], []⟩, lend := [.keep, .keep], outs := granaryref02_Powers_o.map fun s => ssOf s.1, its := [.int, .int], ots := [[.int, .int, .int, .lst (.int .u8)]], F := granaryref02_Powers N }
noncomputable def granaryref02_Powers_CA (N : Nat) (f0 : Int × Int → Option (Int × Int × (List Int))) (f1 : Int × Int → Option (Int)) : Nat → List GS := fun k => tabOf k [(60, [{ granaryref02_New_g N with F := f0 }]), (29, [{ granaryref02_Pow_g N with F := f1 }])]
theorem granaryref02_Powers_CE (N : Nat) : granaryref02_Powers_CA N (granaryref02_New) (granaryref02_Pow N) = granaryref02_Powers_C N := by kernel_rfl
theorem granaryref02_Powers_t (N : Nat) : TabC Try.prog (granaryref02_Powers_C N) := tab_ok ⟨⟨granaryref02_New_ok N, trivial⟩, ⟨granaryref02_Pow_ok N, trivial⟩, trivial⟩
theorem granaryref02_Powers_i2 : loopsOf granaryref02_Powers_c2 = [] := by kernel_rfl
noncomputable def granaryref02_Powers_a2 (N : Nat) (f0 : Int × Int → Option (Int × Int × (List Int))) (f1 : Int × Int → Option (Int)) (next : Int × Int × Int × Int × (List Int) × Int × Int → Option (((List Int) × Int × Int))) (x : Int × Int × Int × Int × (List Int) × Int × Int) : Option (((List Int) × Int × Int)) :=
  (cond (decide (x.2.2.2.1 < x.2.1))
  (let v3 : Int := (wrapF .i64 ((wrapF .i64 (x.2.2.1 * x.2.1)) + x.2.2.2.1))
  (Option.bind (f1 ((wrapF .u8 x.2.2.1), x.2.2.2.1)) fun r5 =>
  (cond ((decide ((0 : Int) ≤ v3)) && (decide (v3 < (((List.length x.2.2.2.2.1) : Nat) : Int))))
  ((let v6 : Nat := (Int.toNat v3)
  (cond (decide (v6 < (List.length x.2.2.2.2.1)))
  ((next (x.1, x.2.1, x.2.2.1, (wrapF .i64 (x.2.2.2.1 + (1 : Int))), (List.set x.2.2.2.2.1 v6 r5), x.2.2.2.2.2.1, x.2.2.2.2.2.2)))
  none)))
  none)))
  (some (x.2.2.2.2.1, x.2.2.2.2.2.1, x.2.2.2.2.2.2)))
theorem granaryref02_Powers_f2 (N : Nat) (f0 : Int × Int → Option (Int × Int × (List Int))) (f1 : Int × Int → Option (Int)) (next) (x) : granaryref02_Powers_a2 N f0 f1 next x = loopStep Γ (granaryref02_Powers_CA N f0 f1) (granaryref02_Powers_J N) 0 50 granaryref02_Powers_d2 granaryref02_Powers_c2 next x := by kernel_rfl
theorem granaryref02_Powers_e2 (N : Nat) (next) (x) : granaryref02_Powers_b2 N next x = loopStep Γ (granaryref02_Powers_C N) (granaryref02_Powers_J N) 0 50 granaryref02_Powers_d2 granaryref02_Powers_c2 next x := by
  rw [← granaryref02_Powers_CE N]
  exact Eq.trans (by kernel_rfl) (granaryref02_Powers_f2 N (granaryref02_New) (granaryref02_Pow N) next x)
theorem granaryref02_Powers_k2 (N : Nat) : LoopOK Try.prog 50 granaryref02_Powers_c2 ⟨granaryref02_Powers_d2, loopF (granaryref02_Powers_b2 N) N⟩ := loop_ok tabOK (granaryref02_Powers_t N) mixedOK (J := granaryref02_Powers_J N) (cx := 0) (body := granaryref02_Powers_c2) (nt := 50) (l := granaryref02_Powers_d2) (b := granaryref02_Powers_b2 N) (jok_from granaryref02_Powers_i2 ⟨trivial, trivial⟩) (granaryref02_Powers_e2 N) N
theorem granaryref02_Powers_i0 : loopsOf granaryref02_Powers_c0 = [(2, granaryref02_Powers_c2)] := by kernel_rfl
noncomputable def granaryref02_Powers_a0 (N : Nat) (f0 : Int × Int → Option (Int × Int × (List Int))) (f1 : Int × Int → Option (Int)) (next : Int × Int × Int × (List Int) × Int × Int → Option (((List Int) × Int × Int))) (x : Int × Int × Int × (List Int) × Int × Int) : Option (((List Int) × Int × Int)) :=
  (cond (decide (x.2.2.1 < x.1))
  (Option.bind (granaryref02_Powers_l2 N (x.1, x.2.1, x.2.2.1, (0 : Int), x.2.2.2.1, x.2.2.2.2.1, x.2.2.2.2.2)) fun r2 =>
  (next (x.1, x.2.1, (wrapF .i64 (x.2.2.1 + (1 : Int))), r2.1, r2.2.1, r2.2.2)))
  (some (x.2.2.2.1, x.2.2.2.2.1, x.2.2.2.2.2)))
theorem granaryref02_Powers_f0 (N : Nat) (f0 : Int × Int → Option (Int × Int × (List Int))) (f1 : Int × Int → Option (Int)) (next) (x) : granaryref02_Powers_a0 N f0 f1 next x = loopStep Γ (granaryref02_Powers_CA N f0 f1) (granaryref02_Powers_J N) 0 50 granaryref02_Powers_d0 granaryref02_Powers_c0 next x := by kernel_rfl
theorem granaryref02_Powers_e0 (N : Nat) (next) (x) : granaryref02_Powers_b0 N next x = loopStep Γ (granaryref02_Powers_C N) (granaryref02_Powers_J N) 0 50 granaryref02_Powers_d0 granaryref02_Powers_c0 next x := by
  rw [← granaryref02_Powers_CE N]
  exact Eq.trans (by kernel_rfl) (granaryref02_Powers_f0 N (granaryref02_New) (granaryref02_Pow N) next x)
theorem granaryref02_Powers_k0 (N : Nat) : LoopOK Try.prog 50 granaryref02_Powers_c0 ⟨granaryref02_Powers_d0, loopF (granaryref02_Powers_b0 N) N⟩ := loop_ok tabOK (granaryref02_Powers_t N) mixedOK (J := granaryref02_Powers_J N) (cx := 0) (body := granaryref02_Powers_c0) (nt := 50) (l := granaryref02_Powers_d0) (b := granaryref02_Powers_b0 N) (jok_from granaryref02_Powers_i0 ⟨⟨.inr ⟨_, rfl, granaryref02_Powers_k2 N⟩, trivial⟩, trivial⟩) (granaryref02_Powers_e0 N) N
theorem granaryref02_Powers_i : loopsOf granaryref02_Powers_c = [(0, granaryref02_Powers_c0), (2, granaryref02_Powers_c2)] := by kernel_rfl
noncomputable def granaryref02_Powers_a (N : Nat) (f0 : Int × Int → Option (Int × Int × (List Int))) (f1 : Int × Int → Option (Int)) (x : Int × Int) : Option (Int × Int × Int × (List Int)) :=
  (Option.bind
  (cond (decide (x.1 < (1 : Int)))
  (some true)
  (cond (decide ((64 : Int) < x.1))
  (some true)
  (cond (decide (x.2 < (1 : Int)))
  (some true)
  (some (decide ((64 : Int) < x.2))))))
  fun r5 =>
  (cond r5
  (some ((0 : Int), (0 : Int), (2 : Int), ([] : List Int)))
  (Option.bind (f0 (x.1, x.2)) fun r6 =>
  (Option.bind (granaryref02_Powers_l0 N (x.1, x.2, (0 : Int), r6.2.2, r6.1, r6.2.1)) fun r7 =>
  (some (r7.2.1, r7.2.2, (0 : Int), r7.1))))))
theorem granaryref02_Powers_f (N : Nat) (f0 : Int × Int → Option (Int × Int × (List Int))) (f1 : Int × Int → Option (Int)) (x) : granaryref02_Powers_a N f0 f1 x = fnStep Γ (granaryref02_Powers_CA N f0 f1) (granaryref02_Powers_J N) 50 Try.f20.results.toList (granaryref02_Powers_g N) granaryref02_Powers_o granaryref02_Powers_c x := by kernel_rfl
theorem granaryref02_Powers_e (N : Nat) (x) : (granaryref02_Powers_g N).F x = fnStep Γ (granaryref02_Powers_C N) (granaryref02_Powers_J N) 50 Try.f20.results.toList (granaryref02_Powers_g N) granaryref02_Powers_o granaryref02_Powers_c x := by
  rw [← granaryref02_Powers_CE N]
  exact Eq.trans (by kernel_rfl) (granaryref02_Powers_f N (granaryref02_New) (granaryref02_Pow N) x)
theorem granaryref02_Powers_y : Try.f20.body = some granaryref02_Powers_c := by kernel_rfl
theorem granaryref02_Powers_n : (Try.f20.name == "runtime.NumGoroutine") = false := by kernel_rfl
theorem granaryref02_Powers_ok (N : Nat) : FnDoes Try.prog 20 (granaryref02_Powers_g N) := fn_ok tabOK (granaryref02_Powers_t N) mixedOK (J := granaryref02_Powers_J N) (body := granaryref02_Powers_c) Try.func20 granaryref02_Powers_y granaryref02_Powers_n Try.ntmps20 (jok_from granaryref02_Powers_i ⟨⟨.inr ⟨_, rfl, granaryref02_Powers_k0 N⟩, .inr ⟨_, rfl, granaryref02_Powers_k2 N⟩, trivial⟩, trivial⟩) rfl rfl (le_of_ble rfl) (granaryref02_Powers_e N)
noncomputable def granaryref02_Same_v1_c : Code := codeOf Try.f38.body
noncomputable def granaryref02_Same_v1_J (N : Nat) : Nat → Hint := fun cx => hintOf cx [(0, { reg := fun k => assoc0 k [(1, ⟨⟨[(4, (.av (.one .bool)))], [(.keep, true), (.keep, true), (.keep, false), (.keep, true), (.keep, true), (.keep, false)]⟩, [], [], [.bool]⟩)], cnd := fun k => assoc0 k [], loop := fun k => assoc0 k [], nil := fun k => assoc0 k [], unr := fun k => assocN k [], blk := fun k => assoc0 k [] })]
noncomputable def granaryref02_Same_v1_C (N : Nat) : Nat → List GS := fun k => tabOf k []
def granaryref02_Same_v1_o : List (Shp × List Nat) := [(⟨[(0, (.av (.one .bool)))], []⟩, [])]
noncomputable def granaryref02_Same_v1_g (N : Nat) : GS := { ins := ⟨[(0, (.av (.agg [(.one (.int .i64)), (.one (.int .i64)), (.one (.rsl (.int .u8)))]))), (1, (.av (.agg [(.one (.int .i64)), (.one (.int .i64)), (.one (.rsl (.int .u8)))])))], []⟩, lend := [.keep, .keep], outs := granaryref02_Same_v1_o.map fun s => ssOf s.1, its := [.int, .int, .lst (.int .u8), .int, .int, .lst (.int .u8)], ots := [[.bool]], F := granaryref02_Same_v1 }
theorem granaryref02_Same_v1_t (N : Nat) : TabC Try.prog (granaryref02_Same_v1_C N) := tab_ok trivial
theorem granaryref02_Same_v1_i : loopsOf granaryref02_Same_v1_c = [] := by kernel_rfl
theorem granaryref02_Same_v1_e (N : Nat) (x) : (granaryref02_Same_v1_g N).F x = fnStep Γ (granaryref02_Same_v1_C N) (granaryref02_Same_v1_J N) 26 Try.f38.results.toList (granaryref02_Same_v1_g N) granaryref02_Same_v1_o granaryref02_Same_v1_c x := by kernel_rfl
theorem granaryref02_Same_v1_y : Try.f38.body = some granaryref02_Same_v1_c := by kernel_rfl
theorem granaryref02_Same_v1_n : (Try.f38.name == "runtime.NumGoroutine") = false := by kernel_rfl
theorem granaryref02_Same_v1_ok (N : Nat) : FnDoes Try.prog 38 (granaryref02_Same_v1_g N) := fn_ok tabOK (granaryref02_Same_v1_t N) mixedOK (J := granaryref02_Same_v1_J N) (body := granaryref02_Same_v1_c) Try.func38 granaryref02_Same_v1_y granaryref02_Same_v1_n Try.ntmps38 (jok_from granaryref02_Same_v1_i ⟨trivial, trivial⟩) rfl rfl (le_of_ble rfl) (granaryref02_Same_v1_e N)
noncomputable def granarylaw02_same_c : Code := codeOf Try.f21.body
noncomputable def granarylaw02_same_J (N : Nat) : Nat → Hint := fun cx => hintOf cx [(0, { reg := fun k => assoc0 k [(1, ⟨⟨[(8, (.av (.one .bool)))], [(.keep, true), (.keep, true), (.keep, false), (.keep, true), (.keep, true), (.keep, false)]⟩, [], [], [.bool]⟩)], cnd := fun k => assoc0 k [], loop := fun k => assoc0 k [], nil := fun k => assoc0 k [], unr := fun k => assocN k [], blk := fun k => assoc0 k [] })]
noncomputable def granarylaw02_same_C (N : Nat) : Nat → List GS := fun k => tabOf k [(38, [granaryref02_Same_v1_g N]), (15, [granarylaw02_num_g N])]
def granarylaw02_same_o : List (Shp × List Nat) := [(⟨[(0, (.av (.one .bool)))], []⟩, [])]
noncomputable def granarylaw02_same_g (N : Nat) : GS := { ins := ⟨[(0, (.av (.agg [(.one (.int .i64)), (.one (.int .i64)), (.one (.rsl (.int .u8)))]))), (1, (.av (.one (.int .i64)))), (2, (.av (.agg [(.one (.int .i64)), (.one (.int .i64)), (.one (.rsl (.int .u8)))]))), (3, (.av (.one (.int .i64))))], []⟩, lend := [.agg [none, none, some (.int .u8)], .keep, .agg [none, none, some (.int .u8)], .keep], outs := granarylaw02_same_o.map fun s => ssOf s.1, its := [.int, .int, .lst (.int .u8), .int, .int, .int, .lst (.int .u8), .int], ots := [[.bool]], F := granarylaw02_same }
noncomputable def granarylaw02_same_CA (N : Nat) (f0 : Int × Int × (List Int) × Int × Int × (List Int) → Option (Bool)) (f1 : Int → Option (Int)) : Nat → List GS := fun k => tabOf k [(38, [{ granaryref02_Same_v1_g N with F := f0 }]), (15, [{ granarylaw02_num_g N with F := f1 }])]
theorem granarylaw02_same_CE (N : Nat) : granarylaw02_same_CA N (granaryref02_Same_v1) (granarylaw02_num) = granarylaw02_same_C N := by kernel_rfl
theorem granarylaw02_same_t (N : Nat) : TabC Try.prog (granarylaw02_same_C N) := tab_ok ⟨⟨granaryref02_Same_v1_ok N, trivial⟩, ⟨granarylaw02_num_ok N, trivial⟩, trivial⟩
theorem granarylaw02_same_i : loopsOf granarylaw02_same_c = [] := by kernel_rfl
noncomputable def granarylaw02_same_a (N : Nat) (f0 : Int × Int × (List Int) × Int × Int × (List Int) → Option (Bool)) (f1 : Int → Option (Int)) (x : Int × Int × (List Int) × Int × Int × Int × (List Int) × Int) : Option (Bool) :=
  (Option.bind
  (Option.bind (f0 (x.1, x.2.1, x.2.2.1, x.2.2.2.2.1, x.2.2.2.2.2.1, x.2.2.2.2.2.2.1)) fun r1 =>
  (cond r1
  (Option.bind (f1 x.2.2.2.1) fun r2 =>
  (some (decide (r2 = x.2.2.2.2.2.2.2))))
  (some false)))
  fun r4 =>
  (some r4))
theorem granarylaw02_same_f (N : Nat) (f0 : Int × Int × (List Int) × Int × Int × (List Int) → Option (Bool)) (f1 : Int → Option (Int)) (x) : granarylaw02_same_a N f0 f1 x = fnStep Γ (granarylaw02_same_CA N f0 f1) (granarylaw02_same_J N) 18 Try.f21.results.toList (granarylaw02_same_g N) granarylaw02_same_o granarylaw02_same_c x := by kernel_rfl
theorem granarylaw02_same_e (N : Nat) (x) : (granarylaw02_same_g N).F x = fnStep Γ (granarylaw02_same_C N) (granarylaw02_same_J N) 18 Try.f21.results.toList (granarylaw02_same_g N) granarylaw02_same_o granarylaw02_same_c x := by
  rw [← granarylaw02_same_CE N]
  exact Eq.trans (by kernel_rfl) (granarylaw02_same_f N (granaryref02_Same_v1) (granarylaw02_num) x)
theorem granarylaw02_same_y : Try.f21.body = some granarylaw02_same_c := by kernel_rfl
theorem granarylaw02_same_n : (Try.f21.name == "runtime.NumGoroutine") = false := by kernel_rfl
theorem granarylaw02_same_ok (N : Nat) : FnDoes Try.prog 21 (granarylaw02_same_g N) := fn_ok tabOK (granarylaw02_same_t N) mixedOK (J := granarylaw02_same_J N) (body := granarylaw02_same_c) Try.func21 granarylaw02_same_y granarylaw02_same_n Try.ntmps21 (jok_from granarylaw02_same_i ⟨trivial, trivial⟩) rfl rfl (le_of_ble rfl) (granarylaw02_same_e N)
noncomputable def granaryref02_Inv_c : Code := codeOf Try.f24.body
noncomputable def granaryref02_Inv_J (N : Nat) : Nat → Hint := fun cx => hintOf cx []
noncomputable def granaryref02_Inv_C (N : Nat) : Nat → List GS := fun k => tabOf k [(61, [granaryref02_power_g N])]
def granaryref02_Inv_o : List (Shp × List Nat) := [(⟨[(0, (.tup [(.one (.int .u8)), (.one (.int .i64))]))], []⟩, [])]
noncomputable def granaryref02_Inv_g (N : Nat) : GS := { ins := ⟨[(0, (.av (.one (.int .u8))))], []⟩, lend := [.keep], outs := granaryref02_Inv_o.map fun s => ssOf s.1, its := [.int], ots := [[.int, .int]], F := granaryref02_Inv N }
noncomputable def granaryref02_Inv_CA (N : Nat) (f0 : Int × Int → Option (Int)) : Nat → List GS := fun k => tabOf k [(61, [{ granaryref02_power_g N with F := f0 }])]
theorem granaryref02_Inv_CE (N : Nat) : granaryref02_Inv_CA N (granaryref02_power N) = granaryref02_Inv_C N := by kernel_rfl
theorem granaryref02_Inv_t (N : Nat) : TabC Try.prog (granaryref02_Inv_C N) := tab_ok ⟨⟨granaryref02_power_ok N, trivial⟩, trivial⟩
theorem granaryref02_Inv_i : loopsOf granaryref02_Inv_c = [] := by kernel_rfl
noncomputable def granaryref02_Inv_a (N : Nat) (f0 : Int × Int → Option (Int)) (x : Int) : Option (Int × Int) :=
  (cond (decide (x = (0 : Int)))
  (some ((0 : Int), (20 : Int)))
  (Option.bind (f0 (x, (254 : Int))) fun r2 =>
  (some (r2, (0 : Int)))))
theorem granaryref02_Inv_f (N : Nat) (f0 : Int × Int → Option (Int)) (x) : granaryref02_Inv_a N f0 x = fnStep Γ (granaryref02_Inv_CA N f0) (granaryref02_Inv_J N) 8 Try.f24.results.toList (granaryref02_Inv_g N) granaryref02_Inv_o granaryref02_Inv_c x := by kernel_rfl
theorem granaryref02_Inv_e (N : Nat) (x) : (granaryref02_Inv_g N).F x = fnStep Γ (granaryref02_Inv_C N) (granaryref02_Inv_J N) 8 Try.f24.results.toList (granaryref02_Inv_g N) granaryref02_Inv_o granaryref02_Inv_c x := by
  rw [← granaryref02_Inv_CE N]
  exact Eq.trans (by kernel_rfl) (granaryref02_Inv_f N (granaryref02_power N) x)
theorem granaryref02_Inv_y : Try.f24.body = some granaryref02_Inv_c := by kernel_rfl
theorem granaryref02_Inv_n : (Try.f24.name == "runtime.NumGoroutine") = false := by kernel_rfl
theorem granaryref02_Inv_ok (N : Nat) : FnDoes Try.prog 24 (granaryref02_Inv_g N) := fn_ok tabOK (granaryref02_Inv_t N) mixedOK (J := granaryref02_Inv_J N) (body := granaryref02_Inv_c) Try.func24 granaryref02_Inv_y granaryref02_Inv_n Try.ntmps24 (jok_from granaryref02_Inv_i trivial) rfl rfl (le_of_ble rfl) (granaryref02_Inv_e N)
noncomputable def granaryref02_Div_c : Code := codeOf Try.f23.body
noncomputable def granaryref02_Div_J (N : Nat) : Nat → Hint := fun cx => hintOf cx []
noncomputable def granaryref02_Div_C (N : Nat) : Nat → List GS := fun k => tabOf k [(24, [granaryref02_Inv_g N]), (27, [granaryref02_Mul_g N])]
def granaryref02_Div_o : List (Shp × List Nat) := [(⟨[(0, (.tup [(.one (.int .u8)), (.one (.int .i64))]))], []⟩, [])]
noncomputable def granaryref02_Div_g (N : Nat) : GS := { ins := ⟨[(0, (.av (.one (.int .u8)))), (1, (.av (.one (.int .u8))))], []⟩, lend := [.keep, .keep], outs := granaryref02_Div_o.map fun s => ssOf s.1, its := [.int, .int], ots := [[.int, .int]], F := granaryref02_Div N }
noncomputable def granaryref02_Div_CA (N : Nat) (f0 : Int → Option (Int × Int)) (f1 : Int × Int → Option (Int)) : Nat → List GS := fun k => tabOf k [(24, [{ granaryref02_Inv_g N with F := f0 }]), (27, [{ granaryref02_Mul_g N with F := f1 }])]
theorem granaryref02_Div_CE (N : Nat) : granaryref02_Div_CA N (granaryref02_Inv N) (granaryref02_Mul N) = granaryref02_Div_C N := by kernel_rfl
theorem granaryref02_Div_t (N : Nat) : TabC Try.prog (granaryref02_Div_C N) := tab_ok ⟨⟨granaryref02_Inv_ok N, trivial⟩, ⟨granaryref02_Mul_ok N, trivial⟩, trivial⟩
theorem granaryref02_Div_i : loopsOf granaryref02_Div_c = [] := by kernel_rfl
noncomputable def granaryref02_Div_a (N : Nat) (f0 : Int → Option (Int × Int)) (f1 : Int × Int → Option (Int)) (x : Int × Int) : Option (Int × Int) :=
  (Option.bind (f0 x.2) fun r1 =>
  (Option.bind (f1 (x.1, r1.1)) fun r2 =>
  (some (r2, r1.2))))
theorem granaryref02_Div_f (N : Nat) (f0 : Int → Option (Int × Int)) (f1 : Int × Int → Option (Int)) (x) : granaryref02_Div_a N f0 f1 x = fnStep Γ (granaryref02_Div_CA N f0 f1) (granaryref02_Div_J N) 17 Try.f23.results.toList (granaryref02_Div_g N) granaryref02_Div_o granaryref02_Div_c x := by kernel_rfl
theorem granaryref02_Div_e (N : Nat) (x) : (granaryref02_Div_g N).F x = fnStep Γ (granaryref02_Div_C N) (granaryref02_Div_J N) 17 Try.f23.results.toList (granaryref02_Div_g N) granaryref02_Div_o granaryref02_Div_c x := by
  rw [← granaryref02_Div_CE N]
  exact Eq.trans (by kernel_rfl) (granaryref02_Div_f N (granaryref02_Inv N) (granaryref02_Mul N) x)
theorem granaryref02_Div_y : Try.f23.body = some granaryref02_Div_c := by kernel_rfl
theorem granaryref02_Div_n : (Try.f23.name == "runtime.NumGoroutine") = false := by kernel_rfl
theorem granaryref02_Div_ok (N : Nat) : FnDoes Try.prog 23 (granaryref02_Div_g N) := fn_ok tabOK (granaryref02_Div_t N) mixedOK (J := granaryref02_Div_J N) (body := granaryref02_Div_c) Try.func23 granaryref02_Div_y granaryref02_Div_n Try.ntmps23 (jok_from granaryref02_Div_i trivial) rfl rfl (le_of_ble rfl) (granaryref02_Div_e N)
noncomputable def gf_made_c : Code := codeOf Try.f62.body
noncomputable def gf_made_c0 : Code := codeOf (getLoop 0 gf_made_c)
def gf_made_d0 : LD := { ins := ⟨[(1, (.av (.one (.const (.ptr ⟨0, 0, 0, 0⟩))))), (2, (.av (.one (.int .i64)))), (6, (.av (.one (.int .i64))))], [(.sh (.arr (.int .u8) (some 255)), true), (.sh (.arr (.int .i64) (some 256)), false)]⟩, mov := [], wr := [0, 1], outs := [(.exit 0, ⟨[], [(.sh (.arr (.int .u8) (some 255)), true), (.sh (.arr (.int .i64) (some 256)), false)]⟩)], its := [.int, .int, .lst (.int .u8), .lst (.int .i64)], ots := [[.lst (.int .u8), .lst (.int .i64)]] }
noncomputable def gf_made_J (N : Nat) : Nat → Hint := fun cx => hintOf cx [(0, { reg := fun k => assoc0 k [], cnd := fun k => assoc0 k [(25, ⟨[], [], [(.normal, ⟨[(2, (.av (.one (.int .i64))))], [(.keep, true), (.keep, false)]⟩)], [[.int]]⟩)], loop := fun k => assoc0 k [(0, ⟨gf_made_d0, loopF (gf_made_b0 N) N⟩)], nil := fun k => assoc0 k [], unr := fun k => assocN k [], blk := fun k => assoc0 k [] })]
noncomputable def gf_made_C (N : Nat) : Nat → List GS := fun k => tabOf k []
def gf_made_o : List (Shp × List Nat) := [(⟨[(0, (.av (.one (.const (.ptr ⟨0, 0, 0, 0⟩)))))], [(.sh (.arr (.int .u8) (some 255)), true), (.sh (.arr (.int .i64) (some 256)), false)]⟩, [])]
noncomputable def gf_made_g (N : Nat) : GS := { ins := ⟨[], []⟩, lend := [], outs := gf_made_o.map fun s => ssOf s.1, its := [], ots := [[.lst (.int .u8), .lst (.int .i64)]], F := gf_made N }
theorem gf_made_t (N : Nat) : TabC Try.prog (gf_made_C N) := tab_ok trivial
theorem gf_made_i0 : loopsOf gf_made_c0 = [] := by kernel_rfl
theorem gf_made_e0 (N : Nat) (next) (x) : gf_made_b0 N next x = loopStep Γ (gf_made_C N) (gf_made_J N) 0 30 gf_made_d0 gf_made_c0 next x := by kernel_rfl
theorem gf_made_k0 (N : Nat) : LoopOK Try.prog 30 gf_made_c0 ⟨gf_made_d0, loopF (gf_made_b0 N) N⟩ := loop_ok tabOK (gf_made_t N) mixedOK (J := gf_made_J N) (cx := 0) (body := gf_made_c0) (nt := 30) (l := gf_made_d0) (b := gf_made_b0 N) (jok_from gf_made_i0 ⟨trivial, trivial⟩) (gf_made_e0 N) N
theorem gf_made_i : loopsOf gf_made_c = [(0, gf_made_c0)] := by kernel_rfl
theorem gf_made_e (N : Nat) (x) : (gf_made_g N).F x = fnStep Γ (gf_made_C N) (gf_made_J N) 30 Try.f62.results.toList (gf_made_g N) gf_made_o gf_made_c x := by kernel_rfl
theorem gf_made_y : Try.f62.body = some gf_made_c := by kernel_rfl
theorem gf_made_n : (Try.f62.name == "runtime.NumGoroutine") = false := by kernel_rfl
theorem gf_made_ok (N : Nat) : FnDoes Try.prog 62 (gf_made_g N) := fn_ok tabOK (gf_made_t N) mixedOK (J := gf_made_J N) (body := gf_made_c) Try.func62 gf_made_y gf_made_n Try.ntmps62 (jok_from gf_made_i ⟨⟨.inr ⟨_, rfl, gf_made_k0 N⟩, trivial⟩, trivial⟩) rfl rfl (le_of_ble rfl) (gf_made_e N)
noncomputable def gf_Log_c : Code := codeOf Try.f25.body
noncomputable def gf_Log_J (N : Nat) : Nat → Hint := fun cx => hintOf cx []
noncomputable def gf_Log_C (N : Nat) : Nat → List GS := fun k => tabOf k [(62, [gf_made_g N])]
def gf_Log_o : List (Shp × List Nat) := [(⟨[(0, (.tup [(.one (.int .i64)), (.one (.int .i64))]))], []⟩, [])]
noncomputable def gf_Log_g (N : Nat) : GS := { ins := ⟨[(0, (.av (.one (.int .u8))))], []⟩, lend := [.keep], outs := gf_Log_o.map fun s => ssOf s.1, its := [.int], ots := [[.int, .int]], F := gf_Log N }
noncomputable def gf_Log_CA (N : Nat) (f0 : Unit → Option ((List Int) × (List Int))) : Nat → List GS := fun k => tabOf k [(62, [{ gf_made_g N with F := f0 }])]
theorem gf_Log_CE (N : Nat) : gf_Log_CA N (gf_made N) = gf_Log_C N := by kernel_rfl
theorem gf_Log_t (N : Nat) : TabC Try.prog (gf_Log_C N) := tab_ok ⟨⟨gf_made_ok N, trivial⟩, trivial⟩
theorem gf_Log_i : loopsOf gf_Log_c = [] := by kernel_rfl
noncomputable def gf_Log_a (N : Nat) (f0 : Unit → Option ((List Int) × (List Int))) (x : Int) : Option (Int × Int) :=
  (cond (decide (x = (0 : Int)))
  (some ((0 : Int), (20 : Int)))
  (Option.bind (f0 ()) fun r2 =>
  (cond ((decide ((0 : Int) ≤ x)) && (decide (x < (256 : Int))))
  ((let v3 : Nat := (Int.toNat x)
  (cond (decide (v3 < (List.length r2.2)))
  ((some ((List.getD r2.2 v3 (EK.dflt (.int .i64))), (0 : Int))))
  none)))
  none)))
theorem gf_Log_f (N : Nat) (f0 : Unit → Option ((List Int) × (List Int))) (x) : gf_Log_a N f0 x = fnStep Γ (gf_Log_CA N f0) (gf_Log_J N) 12 Try.f25.results.toList (gf_Log_g N) gf_Log_o gf_Log_c x := by kernel_rfl
theorem gf_Log_e (N : Nat) (x) : (gf_Log_g N).F x = fnStep Γ (gf_Log_C N) (gf_Log_J N) 12 Try.f25.results.toList (gf_Log_g N) gf_Log_o gf_Log_c x := by
  rw [← gf_Log_CE N]
  exact Eq.trans (by kernel_rfl) (gf_Log_f N (gf_made N) x)
theorem gf_Log_y : Try.f25.body = some gf_Log_c := by kernel_rfl
theorem gf_Log_n : (Try.f25.name == "runtime.NumGoroutine") = false := by kernel_rfl
theorem gf_Log_ok (N : Nat) : FnDoes Try.prog 25 (gf_Log_g N) := fn_ok tabOK (gf_Log_t N) mixedOK (J := gf_Log_J N) (body := gf_Log_c) Try.func25 gf_Log_y gf_Log_n Try.ntmps25 (jok_from gf_Log_i trivial) rfl rfl (le_of_ble rfl) (gf_Log_e N)
noncomputable def granaryref02_Log_c : Code := codeOf Try.f26.body
noncomputable def granaryref02_Log_c0 : Code := codeOf (getLoop 0 granaryref02_Log_c)
def granaryref02_Log_d0 : LD := { ins := ⟨[(0, (.av (.one (.int .u8)))), (4, (.av (.one (.int .i64)))), (5, (.av (.one (.int .u8))))], []⟩, mov := [], wr := [], outs := [(.exit 0, ⟨[(4, (.av (.one (.int .i64))))], []⟩)], its := [.int, .int, .int], ots := [[.int]] }
noncomputable def granaryref02_Log_J (N : Nat) : Nat → Hint := fun cx => hintOf cx [(0, { reg := fun k => assoc0 k [], cnd := fun k => assoc0 k [], loop := fun k => assoc0 k [(0, ⟨granaryref02_Log_d0, loopF (granaryref02_Log_b0 N) N⟩)], nil := fun k => assoc0 k [], unr := fun k => assocN k [], blk := fun k => assoc0 k [] })]
noncomputable def granaryref02_Log_C (N : Nat) : Nat → List GS := fun k => tabOf k [(27, [granaryref02_Mul_g N])]
def granaryref02_Log_o : List (Shp × List Nat) := [(⟨[(0, (.tup [(.one (.int .i64)), (.one (.int .i64))]))], []⟩, [])]
noncomputable def granaryref02_Log_g (N : Nat) : GS := { ins := ⟨[(0, (.av (.one (.int .u8))))], []⟩, lend := [.keep], outs := granaryref02_Log_o.map fun s => ssOf s.1, its := [.int], ots := [[.int, .int]], F := granaryref02_Log N }
noncomputable def granaryref02_Log_CA (N : Nat) (f0 : Int × Int → Option (Int)) : Nat → List GS := fun k => tabOf k [(27, [{ granaryref02_Mul_g N with F := f0 }])]
theorem granaryref02_Log_CE (N : Nat) : granaryref02_Log_CA N (granaryref02_Mul N) = granaryref02_Log_C N := by kernel_rfl
theorem granaryref02_Log_t (N : Nat) : TabC Try.prog (granaryref02_Log_C N) := tab_ok ⟨⟨granaryref02_Mul_ok N, trivial⟩, trivial⟩
theorem granaryref02_Log_i0 : loopsOf granaryref02_Log_c0 = [] := by kernel_rfl
noncomputable def granaryref02_Log_a0 (N : Nat) (f0 : Int × Int → Option (Int)) (next : Int × Int × Int → Option (Int)) (x : Int × Int × Int) : Option (Int) :=
  (cond (!(decide (x.2.2 = x.1)))
  (Option.bind (f0 (x.2.2, (2 : Int))) fun r3 =>
  (next (x.1, (wrapF .i64 (x.2.1 + (1 : Int))), r3)))
  (some x.2.1))
theorem granaryref02_Log_f0 (N : Nat) (f0 : Int × Int → Option (Int)) (next) (x) : granaryref02_Log_a0 N f0 next x = loopStep Γ (granaryref02_Log_CA N f0) (granaryref02_Log_J N) 0 16 granaryref02_Log_d0 granaryref02_Log_c0 next x := by kernel_rfl
theorem granaryref02_Log_e0 (N : Nat) (next) (x) : granaryref02_Log_b0 N next x = loopStep Γ (granaryref02_Log_C N) (granaryref02_Log_J N) 0 16 granaryref02_Log_d0 granaryref02_Log_c0 next x := by
  rw [← granaryref02_Log_CE N]
  exact Eq.trans (by kernel_rfl) (granaryref02_Log_f0 N (granaryref02_Mul N) next x)
theorem granaryref02_Log_k0 (N : Nat) : LoopOK Try.prog 16 granaryref02_Log_c0 ⟨granaryref02_Log_d0, loopF (granaryref02_Log_b0 N) N⟩ := loop_ok tabOK (granaryref02_Log_t N) mixedOK (J := granaryref02_Log_J N) (cx := 0) (body := granaryref02_Log_c0) (nt := 16) (l := granaryref02_Log_d0) (b := granaryref02_Log_b0 N) (jok_from granaryref02_Log_i0 ⟨trivial, trivial⟩) (granaryref02_Log_e0 N) N
theorem granaryref02_Log_i : loopsOf granaryref02_Log_c = [(0, granaryref02_Log_c0)] := by kernel_rfl
noncomputable def granaryref02_Log_a (N : Nat) (f0 : Int × Int → Option (Int)) (x : Int) : Option (Int × Int) :=
  (cond (decide (x = (0 : Int)))
  (some ((0 : Int), (20 : Int)))
  (Option.bind (granaryref02_Log_l0 N (x, (0 : Int), (1 : Int))) fun r2 =>
  (some (r2, (0 : Int)))))
theorem granaryref02_Log_f (N : Nat) (f0 : Int × Int → Option (Int)) (x) : granaryref02_Log_a N f0 x = fnStep Γ (granaryref02_Log_CA N f0) (granaryref02_Log_J N) 16 Try.f26.results.toList (granaryref02_Log_g N) granaryref02_Log_o granaryref02_Log_c x := by kernel_rfl
theorem granaryref02_Log_e (N : Nat) (x) : (granaryref02_Log_g N).F x = fnStep Γ (granaryref02_Log_C N) (granaryref02_Log_J N) 16 Try.f26.results.toList (granaryref02_Log_g N) granaryref02_Log_o granaryref02_Log_c x := by
  rw [← granaryref02_Log_CE N]
  exact Eq.trans (by kernel_rfl) (granaryref02_Log_f N (granaryref02_Mul N) x)
theorem granaryref02_Log_y : Try.f26.body = some granaryref02_Log_c := by kernel_rfl
theorem granaryref02_Log_n : (Try.f26.name == "runtime.NumGoroutine") = false := by kernel_rfl
theorem granaryref02_Log_ok (N : Nat) : FnDoes Try.prog 26 (granaryref02_Log_g N) := fn_ok tabOK (granaryref02_Log_t N) mixedOK (J := granaryref02_Log_J N) (body := granaryref02_Log_c) Try.func26 granaryref02_Log_y granaryref02_Log_n Try.ntmps26 (jok_from granaryref02_Log_i ⟨⟨.inr ⟨_, rfl, granaryref02_Log_k0 N⟩, trivial⟩, trivial⟩) rfl rfl (le_of_ble rfl) (granaryref02_Log_e N)
noncomputable def gf_Exp_c : Code := codeOf Try.f30.body
noncomputable def gf_Exp_J (N : Nat) : Nat → Hint := fun cx => hintOf cx []
noncomputable def gf_Exp_C (N : Nat) : Nat → List GS := fun k => tabOf k [(28, [gf_Pow_g N])]
def gf_Exp_o : List (Shp × List Nat) := [(⟨[(0, (.av (.one (.int .u8))))], []⟩, [])]
noncomputable def gf_Exp_g (N : Nat) : GS := { ins := ⟨[(0, (.av (.one (.int .i64))))], []⟩, lend := [.keep], outs := gf_Exp_o.map fun s => ssOf s.1, its := [.int], ots := [[.int]], F := gf_Exp N }
noncomputable def gf_Exp_CA (N : Nat) (f0 : Int × Int → Option (Int)) : Nat → List GS := fun k => tabOf k [(28, [{ gf_Pow_g N with F := f0 }])]
theorem gf_Exp_CE (N : Nat) : gf_Exp_CA N (gf_Pow N) = gf_Exp_C N := by kernel_rfl
theorem gf_Exp_t (N : Nat) : TabC Try.prog (gf_Exp_C N) := tab_ok ⟨⟨gf_Pow_ok N, trivial⟩, trivial⟩
theorem gf_Exp_i : loopsOf gf_Exp_c = [] := by kernel_rfl
noncomputable def gf_Exp_a (N : Nat) (f0 : Int × Int → Option (Int)) (x : Int) : Option (Int) :=
  (Option.bind (f0 ((2 : Int), x)) fun r1 =>
  (some r1))
theorem gf_Exp_f (N : Nat) (f0 : Int × Int → Option (Int)) (x) : gf_Exp_a N f0 x = fnStep Γ (gf_Exp_CA N f0) (gf_Exp_J N) 5 Try.f30.results.toList (gf_Exp_g N) gf_Exp_o gf_Exp_c x := by kernel_rfl
theorem gf_Exp_e (N : Nat) (x) : (gf_Exp_g N).F x = fnStep Γ (gf_Exp_C N) (gf_Exp_J N) 5 Try.f30.results.toList (gf_Exp_g N) gf_Exp_o gf_Exp_c x := by
  rw [← gf_Exp_CE N]
  exact Eq.trans (by kernel_rfl) (gf_Exp_f N (gf_Pow N) x)
theorem gf_Exp_y : Try.f30.body = some gf_Exp_c := by kernel_rfl
theorem gf_Exp_n : (Try.f30.name == "runtime.NumGoroutine") = false := by kernel_rfl
theorem gf_Exp_ok (N : Nat) : FnDoes Try.prog 30 (gf_Exp_g N) := fn_ok tabOK (gf_Exp_t N) mixedOK (J := gf_Exp_J N) (body := gf_Exp_c) Try.func30 gf_Exp_y gf_Exp_n Try.ntmps30 (jok_from gf_Exp_i trivial) rfl rfl (le_of_ble rfl) (gf_Exp_e N)
noncomputable def slices_Index_byte_byte_c : Code := codeOf Try.f73.body
noncomputable def slices_Index_byte_byte_c0 : Code := codeOf (getLoop 0 slices_Index_byte_byte_c)
def slices_Index_byte_byte_d0 : LD := { ins := ⟨[(0, (.av (.one (.rsl (.int .u8))))), (1, (.av (.one (.int .u8)))), (7, (.av (.one (.int .i64)))), (8, (.av (.one (.int .i64))))], []⟩, mov := [], wr := [], outs := [(.ret, ⟨[(4, (.av (.one (.int .i64))))], []⟩), (.exit 0, ⟨[], []⟩)], its := [.lst (.int .u8), .int, .int, .int], ots := [[.int], []] }
noncomputable def slices_Index_byte_byte_J (N : Nat) : Nat → Hint := fun cx => hintOf cx [(0, { reg := fun k => assoc0 k [], cnd := fun k => assoc0 k [], loop := fun k => assoc0 k [(0, ⟨slices_Index_byte_byte_d0, loopF (slices_Index_byte_byte_b0 N) N⟩)], nil := fun k => assoc0 k [], unr := fun k => assocN k [], blk := fun k => assoc0 k [] })]
noncomputable def slices_Index_byte_byte_C (N : Nat) : Nat → List GS := fun k => tabOf k []
def slices_Index_byte_byte_o : List (Shp × List Nat) := [(⟨[(0, (.av (.one (.int .i64))))], []⟩, [])]
noncomputable def slices_Index_byte_byte_g (N : Nat) : GS := { ins := ⟨[(0, (.av (.one (.rsl (.int .u8))))), (1, (.av (.one (.int .u8))))], []⟩, lend := [.keep, .keep], outs := slices_Index_byte_byte_o.map fun s => ssOf s.1, its := [.lst (.int .u8), .int], ots := [[.int]], F := slices_Index_byte_byte N }
theorem slices_Index_byte_byte_t (N : Nat) : TabC Try.prog (slices_Index_byte_byte_C N) := tab_ok trivial
theorem slices_Index_byte_byte_i0 : loopsOf slices_Index_byte_byte_c0 = [] := by kernel_rfl
theorem slices_Index_byte_byte_e0 (N : Nat) (next) (x) : slices_Index_byte_byte_b0 N next x = loopStep Γ (slices_Index_byte_byte_C N) (slices_Index_byte_byte_J N) 0 19 slices_Index_byte_byte_d0 slices_Index_byte_byte_c0 next x := by kernel_rfl
theorem slices_Index_byte_byte_k0 (N : Nat) : LoopOK Try.prog 19 slices_Index_byte_byte_c0 ⟨slices_Index_byte_byte_d0, loopF (slices_Index_byte_byte_b0 N) N⟩ := loop_ok tabOK (slices_Index_byte_byte_t N) mixedOK (J := slices_Index_byte_byte_J N) (cx := 0) (body := slices_Index_byte_byte_c0) (nt := 19) (l := slices_Index_byte_byte_d0) (b := slices_Index_byte_byte_b0 N) (jok_from slices_Index_byte_byte_i0 ⟨trivial, trivial⟩) (slices_Index_byte_byte_e0 N) N
theorem slices_Index_byte_byte_i : loopsOf slices_Index_byte_byte_c = [(0, slices_Index_byte_byte_c0)] := by kernel_rfl
theorem slices_Index_byte_byte_e (N : Nat) (x) : (slices_Index_byte_byte_g N).F x = fnStep Γ (slices_Index_byte_byte_C N) (slices_Index_byte_byte_J N) 19 Try.f73.results.toList (slices_Index_byte_byte_g N) slices_Index_byte_byte_o slices_Index_byte_byte_c x := by kernel_rfl
theorem slices_Index_byte_byte_y : Try.f73.body = some slices_Index_byte_byte_c := by kernel_rfl
theorem slices_Index_byte_byte_n : (Try.f73.name == "runtime.NumGoroutine") = false := by kernel_rfl
theorem slices_Index_byte_byte_ok (N : Nat) : FnDoes Try.prog 73 (slices_Index_byte_byte_g N) := fn_ok tabOK (slices_Index_byte_byte_t N) mixedOK (J := slices_Index_byte_byte_J N) (body := slices_Index_byte_byte_c) Try.func73 slices_Index_byte_byte_y slices_Index_byte_byte_n Try.ntmps73 (jok_from slices_Index_byte_byte_i ⟨⟨.inr ⟨_, rfl, slices_Index_byte_byte_k0 N⟩, trivial⟩, trivial⟩) rfl rfl (le_of_ble rfl) (slices_Index_byte_byte_e N)
end Go.Rf.W
