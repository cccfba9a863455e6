/-
  The printed functions are what the program does.
-/
import Derived.Test.YtoabbnfjnjbjfaaRsF0
import Derived.Test.YtoabbnfjnjbjfaaRsT
import Derived.Test.YtoabbnfjnjbjfaaRfC
set_option linter.unusedVariables false
set_option maxRecDepth 100000
namespace Go.Rf.W
open Go Go.Rf Go.Proofs
noncomputable def granarylaw03_huge_c : Code := codeOf Try.f12.body
noncomputable def granarylaw03_huge_c0 : Code := codeOf (getLoop 0 granarylaw03_huge_c)
def granarylaw03_huge_d0 : LD := { ins := ⟨[(0, (.av (.one (.rsl (.sl (.int .u8)))))), (3, (.av (.one (.int .i64)))), (4, (.av (.one (.int .i64))))], []⟩, mov := [], wr := [], outs := [(.exit 0, ⟨[(3, (.av (.one (.int .i64))))], []⟩)], its := [.lst (.sl (.int .u8)), .int, .int], ots := [[.int]] }
noncomputable def granarylaw03_huge_J (N : Nat) : Nat → Hint := fun cx => hintOf cx [(0, { reg := fun k => assoc0 k [(3, ⟨⟨[(12, (.av (.one .bool)))], []⟩, [], [], [.bool]⟩), (6, ⟨⟨[(2, (.av (.one .bool)))], []⟩, [], [], [.bool]⟩)], cnd := fun k => assoc0 k [], loop := fun k => assoc0 k [(0, ⟨granarylaw03_huge_d0, loopF (granarylaw03_huge_b0 N) N⟩)], nil := fun k => assoc0 k [], unr := fun k => assocN k [], blk := fun k => assoc0 k [] })]
noncomputable def granarylaw03_huge_C (N : Nat) : Nat → List GS := fun k => tabOf k []
def granarylaw03_huge_o : List (Shp × List Nat) := [(⟨[(0, (.av (.one .bool)))], []⟩, [])]
noncomputable def granarylaw03_huge_g (N : Nat) : GS := { ins := ⟨[(0, (.av (.one (.rsl (.sl (.int .u8))))))], []⟩, lend := [.keep], outs := granarylaw03_huge_o.map fun s => ssOf s.1, its := [.lst (.sl (.int .u8))], ots := [[.bool]], F := granarylaw03_huge N }
theorem granarylaw03_huge_t (N : Nat) : TabC Try.prog (granarylaw03_huge_C N) := tab_ok trivial
theorem granarylaw03_huge_i0 : loopsOf granarylaw03_huge_c0 = [] := by kernel_rfl
theorem granarylaw03_huge_e0 (N : Nat) (next) (x) : granarylaw03_huge_b0 N next x = loopStep Γ (granarylaw03_huge_C N) (granarylaw03_huge_J N) 0 29 granarylaw03_huge_d0 granarylaw03_huge_c0 next x := by kernel_rfl
theorem granarylaw03_huge_k0 (N : Nat) : LoopOK Try.prog 29 granarylaw03_huge_c0 ⟨granarylaw03_huge_d0, loopF (granarylaw03_huge_b0 N) N⟩ := loop_ok tabOK (granarylaw03_huge_t N) mixedOK (J := granarylaw03_huge_J N) (cx := 0) (body := granarylaw03_huge_c0) (nt := 29) (l := granarylaw03_huge_d0) (b := granarylaw03_huge_b0 N) (jok_from granarylaw03_huge_i0 ⟨trivial, trivial⟩) (granarylaw03_huge_e0 N) N
theorem granarylaw03_huge_i : loopsOf granarylaw03_huge_c = [(0, granarylaw03_huge_c0)] := by kernel_rfl
theorem granarylaw03_huge_e (N : Nat) (x) : (granarylaw03_huge_g N).F x = fnStep Γ (granarylaw03_huge_C N) (granarylaw03_huge_J N) 29 Try.f12.results.toList (granarylaw03_huge_g N) granarylaw03_huge_o granarylaw03_huge_c x := by kernel_rfl
theorem granarylaw03_huge_y : Try.f12.body = some granarylaw03_huge_c := by kernel_rfl
theorem granarylaw03_huge_n : (Try.f12.name == "runtime.NumGoroutine") = false := by kernel_rfl
theorem granarylaw03_huge_ok (N : Nat) : FnDoes Try.prog 12 (granarylaw03_huge_g N) := fn_ok tabOK (granarylaw03_huge_t N) mixedOK (J := granarylaw03_huge_J N) (body := granarylaw03_huge_c) Try.func12 granarylaw03_huge_y granarylaw03_huge_n Try.ntmps12 (jok_from granarylaw03_huge_i ⟨⟨.inr ⟨_, rfl, granarylaw03_huge_k0 N⟩, trivial⟩, trivial⟩) rfl rfl (le_of_ble rfl) (granarylaw03_huge_e N)
noncomputable def gf_Add_c : Code := codeOf Try.f50.body
noncomputable def gf_Add_J (N : Nat) : Nat → Hint := fun cx => hintOf cx []
noncomputable def gf_Add_C (N : Nat) : Nat → List GS := fun k => tabOf k []
def gf_Add_o : List (Shp × List Nat) := [(⟨[(0, (.av (.one (.int .u8))))], []⟩, [])]
noncomputable def gf_Add_g (N : Nat) : GS := { ins := ⟨[(0, (.av (.one (.int .u8)))), (1, (.av (.one (.int .u8))))], []⟩, lend := [.keep, .keep], outs := gf_Add_o.map fun s => ssOf s.1, its := [.int, .int], ots := [[.int]], F := gf_Add }
theorem gf_Add_t (N : Nat) : TabC Try.prog (gf_Add_C N) := tab_ok trivial
theorem gf_Add_i : loopsOf gf_Add_c = [] := by kernel_rfl
theorem gf_Add_e (N : Nat) (x) : (gf_Add_g N).F x = fnStep Γ (gf_Add_C N) (gf_Add_J N) 8 Try.f50.results.toList (gf_Add_g N) gf_Add_o gf_Add_c x := by kernel_rfl
theorem gf_Add_y : Try.f50.body = some gf_Add_c := by kernel_rfl
theorem gf_Add_n : (Try.f50.name == "runtime.NumGoroutine") = false := by kernel_rfl
theorem gf_Add_ok (N : Nat) : FnDoes Try.prog 50 (gf_Add_g N) := fn_ok tabOK (gf_Add_t N) mixedOK (J := gf_Add_J N) (body := gf_Add_c) Try.func50 gf_Add_y gf_Add_n Try.ntmps50 (jok_from gf_Add_i trivial) rfl rfl (le_of_ble rfl) (gf_Add_e N)
noncomputable def gf_Mul_c : Code := codeOf Try.f57.body
noncomputable def gf_Mul_c0 : Code := codeOf (getLoop 0 gf_Mul_c)
def gf_Mul_d0 : LD := { ins := ⟨[(1, (.av (.one (.int .u8)))), (5, (.av (.one (.int .i64)))), (6, (.av (.one (.int .i64))))], []⟩, mov := [], wr := [], outs := [(.exit 0, ⟨[(5, (.av (.one (.int .i64))))], []⟩)], its := [.int, .int, .int], ots := [[.int]] }
noncomputable def gf_Mul_J (N : Nat) : Nat → Hint := fun cx => hintOf cx [(0, { reg := fun k => assoc0 k [], cnd := fun k => assoc0 k [(15, ⟨[], [], [(.normal, ⟨[(5, (.av (.one (.int .i64))))], []⟩)], [[.int]]⟩), (22, ⟨[], [], [(.normal, ⟨[(6, (.av (.one (.int .i64))))], []⟩)], [[.int]]⟩)], loop := fun k => assoc0 k [(0, ⟨gf_Mul_d0, loopF (gf_Mul_b0 N) N⟩)], nil := fun k => assoc0 k [], unr := fun k => assocN k [], blk := fun k => assoc0 k [] })]
noncomputable def gf_Mul_C (N : Nat) : Nat → List GS := fun k => tabOf k []
def gf_Mul_o : List (Shp × List Nat) := [(⟨[(0, (.av (.one (.int .u8))))], []⟩, [])]
noncomputable def gf_Mul_g (N : Nat) : GS := { ins := ⟨[(0, (.av (.one (.int .u8)))), (1, (.av (.one (.int .u8))))], []⟩, lend := [.keep, .keep], outs := gf_Mul_o.map fun s => ssOf s.1, its := [.int, .int], ots := [[.int]], F := gf_Mul N }
theorem gf_Mul_t (N : Nat) : TabC Try.prog (gf_Mul_C N) := tab_ok trivial
theorem gf_Mul_i0 : loopsOf gf_Mul_c0 = [] := by kernel_rfl
theorem gf_Mul_e0 (N : Nat) (next) (x) : gf_Mul_b0 N next x = loopStep Γ (gf_Mul_C N) (gf_Mul_J N) 0 27 gf_Mul_d0 gf_Mul_c0 next x := by kernel_rfl
theorem gf_Mul_k0 (N : Nat) : LoopOK Try.prog 27 gf_Mul_c0 ⟨gf_Mul_d0, loopF (gf_Mul_b0 N) N⟩ := loop_ok tabOK (gf_Mul_t N) mixedOK (J := gf_Mul_J N) (cx := 0) (body := gf_Mul_c0) (nt := 27) (l := gf_Mul_d0) (b := gf_Mul_b0 N) (jok_from gf_Mul_i0 ⟨trivial, trivial⟩) (gf_Mul_e0 N) N
theorem gf_Mul_i : loopsOf gf_Mul_c = [(0, gf_Mul_c0)] := by kernel_rfl
theorem gf_Mul_e (N : Nat) (x) : (gf_Mul_g N).F x = fnStep Γ (gf_Mul_C N) (gf_Mul_J N) 27 Try.f57.results.toList (gf_Mul_g N) gf_Mul_o gf_Mul_c x := by kernel_rfl
theorem gf_Mul_y : Try.f57.body = some gf_Mul_c := by kernel_rfl
theorem gf_Mul_n : (Try.f57.name == "runtime.NumGoroutine") = false := by kernel_rfl
theorem gf_Mul_ok (N : Nat) : FnDoes Try.prog 57 (gf_Mul_g N) := fn_ok tabOK (gf_Mul_t N) mixedOK (J := gf_Mul_J N) (body := gf_Mul_c) Try.func57 gf_Mul_y gf_Mul_n Try.ntmps57 (jok_from gf_Mul_i ⟨⟨.inr ⟨_, rfl, gf_Mul_k0 N⟩, trivial⟩, trivial⟩) rfl rfl (le_of_ble rfl) (gf_Mul_e N)
noncomputable def gf_Pow_c : Code := codeOf Try.f63.body
noncomputable def gf_Pow_c0 : Code := codeOf (getLoop 0 gf_Pow_c)
def gf_Pow_d0 : LD := { ins := ⟨[(0, (.av (.one (.int .u8)))), (1, (.av (.one (.int .i64)))), (5, (.av (.one (.int .u8))))], []⟩, mov := [], wr := [], outs := [(.exit 0, ⟨[(5, (.av (.one (.int .u8))))], []⟩)], its := [.int, .int, .int], ots := [[.int]] }
noncomputable def gf_Pow_J (N : Nat) : Nat → Hint := fun cx => hintOf cx [(0, { reg := fun k => assoc0 k [], cnd := fun k => assoc0 k [(13, ⟨[], [], [(.normal, ⟨[(1, (.av (.one (.int .i64))))], []⟩)], [[.int]]⟩), (22, ⟨[], [], [(.normal, ⟨[(5, (.av (.one (.int .u8))))], []⟩)], [[.int]]⟩)], loop := fun k => assoc0 k [(0, ⟨gf_Pow_d0, loopF (gf_Pow_b0 N) N⟩)], nil := fun k => assoc0 k [], unr := fun k => assocN k [], blk := fun k => assoc0 k [] })]
noncomputable def gf_Pow_C (N : Nat) : Nat → List GS := fun k => tabOf k [(57, [gf_Mul_g N])]
def gf_Pow_o : List (Shp × List Nat) := [(⟨[(0, (.av (.one (.int .u8))))], []⟩, [])]
noncomputable def gf_Pow_g (N : Nat) : GS := { ins := ⟨[(0, (.av (.one (.int .u8)))), (1, (.av (.one (.int .i64))))], []⟩, lend := [.keep, .keep], outs := gf_Pow_o.map fun s => ssOf s.1, its := [.int, .int], ots := [[.int]], F := gf_Pow N }
noncomputable def gf_Pow_CA (N : Nat) (f0 : Int × Int → Option (Int)) : Nat → List GS := fun k => tabOf k [(57, [{ gf_Mul_g N with F := f0 }])]
theorem gf_Pow_CE (N : Nat) : gf_Pow_CA N (gf_Mul N) = gf_Pow_C N := by kernel_rfl
theorem gf_Pow_t (N : Nat) : TabC Try.prog (gf_Pow_C N) := tab_ok ⟨⟨gf_Mul_ok N, trivial⟩, trivial⟩
theorem gf_Pow_i0 : loopsOf gf_Pow_c0 = [] := by kernel_rfl
noncomputable def gf_Pow_a0 (N : Nat) (f0 : Int × Int → Option (Int)) (next : Int × Int × Int → Option (Int)) (x : Int × Int × Int) : Option (Int) :=
  (cond (decide ((0 : Int) < x.2.1))
  (Option.bind
  (cond (decide ((andF .i64 x.2.1 (1 : Int)) = (1 : Int)))
  (Option.bind (f0 (x.2.2, x.1)) fun r4 =>
  (some r4))
  (some x.2.2))
  fun r5 =>
  (Option.bind (f0 (x.1, x.1)) fun r6 =>
  (next (r6, (shrF .i64 x.2.1 (1 : Int)), r5))))
  (some x.2.2))
theorem gf_Pow_f0 (N : Nat) (f0 : Int × Int → Option (Int)) (next) (x) : gf_Pow_a0 N f0 next x = loopStep Γ (gf_Pow_CA N f0) (gf_Pow_J N) 0 30 gf_Pow_d0 gf_Pow_c0 next x := by kernel_rfl
theorem gf_Pow_e0 (N : Nat) (next) (x) : gf_Pow_b0 N next x = loopStep Γ (gf_Pow_C N) (gf_Pow_J N) 0 30 gf_Pow_d0 gf_Pow_c0 next x := by
  rw [← gf_Pow_CE N]
  exact Eq.trans (by kernel_rfl) (gf_Pow_f0 N (gf_Mul N) next x)
theorem gf_Pow_k0 (N : Nat) : LoopOK Try.prog 30 gf_Pow_c0 ⟨gf_Pow_d0, loopF (gf_Pow_b0 N) N⟩ := loop_ok tabOK (gf_Pow_t N) mixedOK (J := gf_Pow_J N) (cx := 0) (body := gf_Pow_c0) (nt := 30) (l := gf_Pow_d0) (b := gf_Pow_b0 N) (jok_from gf_Pow_i0 ⟨trivial, trivial⟩) (gf_Pow_e0 N) N
theorem gf_Pow_i : loopsOf gf_Pow_c = [(0, gf_Pow_c0)] := by kernel_rfl
noncomputable def gf_Pow_a (N : Nat) (f0 : Int × Int → Option (Int)) (x : Int × Int) : Option (Int) :=
  (cond (decide (x.1 = (0 : Int)))
  (cond (decide (x.2 = (0 : Int)))
  (some (1 : Int))
  (some (0 : Int)))
  (let v3 : Int := (Int.tmod x.2 (255 : Int))
  (Option.bind
  (cond (decide (v3 < (0 : Int)))
  (some (wrapF .i64 (v3 + (255 : Int))))
  (some v3))
  fun r6 =>
  (Option.bind (gf_Pow_l0 N (x.1, r6, (1 : Int))) fun r7 =>
  (some r7)))))
theorem gf_Pow_f (N : Nat) (f0 : Int × Int → Option (Int)) (x) : gf_Pow_a N f0 x = fnStep Γ (gf_Pow_CA N f0) (gf_Pow_J N) 30 Try.f63.results.toList (gf_Pow_g N) gf_Pow_o gf_Pow_c x := by kernel_rfl
theorem gf_Pow_e (N : Nat) (x) : (gf_Pow_g N).F x = fnStep Γ (gf_Pow_C N) (gf_Pow_J N) 30 Try.f63.results.toList (gf_Pow_g N) gf_Pow_o gf_Pow_c x := by
  rw [← gf_Pow_CE N]
  exact Eq.trans (by kernel_rfl) (gf_Pow_f N (gf_Mul N) x)
theorem gf_Pow_y : Try.f63.body = some gf_Pow_c := by kernel_rfl
theorem gf_Pow_n : (Try.f63.name == "runtime.NumGoroutine") = false := by kernel_rfl
theorem gf_Pow_ok (N : Nat) : FnDoes Try.prog 63 (gf_Pow_g N) := fn_ok tabOK (gf_Pow_t N) mixedOK (J := gf_Pow_J N) (body := gf_Pow_c) Try.func63 gf_Pow_y gf_Pow_n Try.ntmps63 (jok_from gf_Pow_i ⟨⟨.inr ⟨_, rfl, gf_Pow_k0 N⟩, trivial⟩, trivial⟩) rfl rfl (le_of_ble rfl) (gf_Pow_e N)
noncomputable def gf_Div_c : Code := codeOf Try.f58.body
noncomputable def gf_Div_J (N : Nat) : Nat → Hint := fun cx => hintOf cx []
noncomputable def gf_Div_C (N : Nat) : Nat → List GS := fun k => tabOf k [(63, [gf_Pow_g N]), (57, [gf_Mul_g N])]
def gf_Div_o : List (Shp × List Nat) := [(⟨[(0, (.tup [(.one (.int .u8)), (.one (.int .i64))]))], []⟩, [])]
noncomputable def gf_Div_g (N : Nat) : GS := { ins := ⟨[(0, (.av (.one (.int .u8)))), (1, (.av (.one (.int .u8))))], []⟩, lend := [.keep, .keep], outs := gf_Div_o.map fun s => ssOf s.1, its := [.int, .int], ots := [[.int, .int]], F := gf_Div N }
noncomputable def gf_Div_CA (N : Nat) (f0 : Int × Int → Option (Int)) (f1 : Int × Int → Option (Int)) : Nat → List GS := fun k => tabOf k [(63, [{ gf_Pow_g N with F := f0 }]), (57, [{ gf_Mul_g N with F := f1 }])]
theorem gf_Div_CE (N : Nat) : gf_Div_CA N (gf_Pow N) (gf_Mul N) = gf_Div_C N := by kernel_rfl
theorem gf_Div_t (N : Nat) : TabC Try.prog (gf_Div_C N) := tab_ok ⟨⟨gf_Pow_ok N, trivial⟩, ⟨gf_Mul_ok N, trivial⟩, trivial⟩
theorem gf_Div_i : loopsOf gf_Div_c = [] := by kernel_rfl
noncomputable def gf_Div_a (N : Nat) (f0 : Int × Int → Option (Int)) (f1 : Int × Int → Option (Int)) (x : Int × Int) : Option (Int × Int) :=
  (cond (decide (x.2 = (0 : Int)))
  (some ((0 : Int), (20 : Int)))
  (Option.bind (f0 (x.2, (254 : Int))) fun r2 =>
  (Option.bind (f1 (x.1, r2)) fun r3 =>
  (some (r3, (0 : Int))))))
theorem gf_Div_f (N : Nat) (f0 : Int × Int → Option (Int)) (f1 : Int × Int → Option (Int)) (x) : gf_Div_a N f0 f1 x = fnStep Γ (gf_Div_CA N f0 f1) (gf_Div_J N) 12 Try.f58.results.toList (gf_Div_g N) gf_Div_o gf_Div_c x := by kernel_rfl
theorem gf_Div_e (N : Nat) (x) : (gf_Div_g N).F x = fnStep Γ (gf_Div_C N) (gf_Div_J N) 12 Try.f58.results.toList (gf_Div_g N) gf_Div_o gf_Div_c x := by
  rw [← gf_Div_CE N]
  exact Eq.trans (by kernel_rfl) (gf_Div_f N (gf_Pow N) (gf_Mul N) x)
theorem gf_Div_y : Try.f58.body = some gf_Div_c := by kernel_rfl
theorem gf_Div_n : (Try.f58.name == "runtime.NumGoroutine") = false := by kernel_rfl
theorem gf_Div_ok (N : Nat) : FnDoes Try.prog 58 (gf_Div_g N) := fn_ok tabOK (gf_Div_t N) mixedOK (J := gf_Div_J N) (body := gf_Div_c) Try.func58 gf_Div_y gf_Div_n Try.ntmps58 (jok_from gf_Div_i trivial) rfl rfl (le_of_ble rfl) (gf_Div_e N)
noncomputable def gf_Inv_c : Code := codeOf Try.f49.body
noncomputable def gf_Inv_J (N : Nat) : Nat → Hint := fun cx => hintOf cx []
noncomputable def gf_Inv_C (N : Nat) : Nat → List GS := fun k => tabOf k [(58, [gf_Div_g N])]
def gf_Inv_o : List (Shp × List Nat) := [(⟨[(0, (.tup [(.one (.int .u8)), (.one (.int .i64))]))], []⟩, [])]
noncomputable def gf_Inv_g (N : Nat) : GS := { ins := ⟨[(0, (.av (.one (.int .u8))))], []⟩, lend := [.keep], outs := gf_Inv_o.map fun s => ssOf s.1, its := [.int], ots := [[.int, .int]], F := gf_Inv N }
noncomputable def gf_Inv_CA (N : Nat) (f0 : Int × Int → Option (Int × Int)) : Nat → List GS := fun k => tabOf k [(58, [{ gf_Div_g N with F := f0 }])]
theorem gf_Inv_CE (N : Nat) : gf_Inv_CA N (gf_Div N) = gf_Inv_C N := by kernel_rfl
theorem gf_Inv_t (N : Nat) : TabC Try.prog (gf_Inv_C N) := tab_ok ⟨⟨gf_Div_ok N, trivial⟩, trivial⟩
theorem gf_Inv_i : loopsOf gf_Inv_c = [] := by kernel_rfl
noncomputable def gf_Inv_a (N : Nat) (f0 : Int × Int → Option (Int × Int)) (x : Int) : Option (Int × Int) :=
  (Option.bind (f0 ((1 : Int), x)) fun r1 =>
  (some (r1.1, r1.2)))
theorem gf_Inv_f (N : Nat) (f0 : Int × Int → Option (Int × Int)) (x) : gf_Inv_a N f0 x = fnStep Γ (gf_Inv_CA N f0) (gf_Inv_J N) 8 Try.f49.results.toList (gf_Inv_g N) gf_Inv_o gf_Inv_c x := by kernel_rfl
theorem gf_Inv_e (N : Nat) (x) : (gf_Inv_g N).F x = fnStep Γ (gf_Inv_C N) (gf_Inv_J N) 8 Try.f49.results.toList (gf_Inv_g N) gf_Inv_o gf_Inv_c x := by
  rw [← gf_Inv_CE N]
  exact Eq.trans (by kernel_rfl) (gf_Inv_f N (gf_Div N) x)
theorem gf_Inv_y : Try.f49.body = some gf_Inv_c := by kernel_rfl
theorem gf_Inv_n : (Try.f49.name == "runtime.NumGoroutine") = false := by kernel_rfl
theorem gf_Inv_ok (N : Nat) : FnDoes Try.prog 49 (gf_Inv_g N) := fn_ok tabOK (gf_Inv_t N) mixedOK (J := gf_Inv_J N) (body := gf_Inv_c) Try.func49 gf_Inv_y gf_Inv_n Try.ntmps49 (jok_from gf_Inv_i trivial) rfl rfl (le_of_ble rfl) (gf_Inv_e N)
noncomputable def rs_New_c : Code := codeOf Try.f36.body
noncomputable def rs_New_c0 : Code := codeOf (getLoop 0 rs_New_c)
noncomputable def rs_New_c2 : Code := codeOf (getLoop 2 rs_New_c)
def rs_New_d2 : LD := { ins := ⟨[(0, (.av (.one (.int .i64)))), (6, (.av (.one (.const (.ptr ⟨1, 0, 0, 0⟩))))), (7, (.av (.one (.int .i64)))), (31, (.av (.one (.int .i64)))), (32, (.av (.one (.int .i64)))), (35, (.av (.one (.int .i64)))), (36, (.av (.one (.int .i64))))], [(.sh (.arr (.int .u8) none), false), (.sh (.one (.int .i64)), true), (.sh (.one (.int .i64)), true), (.sh (.one (.const (.slw 0 1))), false)]⟩, mov := [], wr := [0, 1, 2, 3], outs := [(.exit 2, ⟨[], [(.sh (.arr (.int .u8) none), false), (.sh (.one (.int .i64)), true), (.sh (.one (.int .i64)), true), (.sh (.one (.const (.slw 0 1))), false)]⟩)], its := [.int, .int, .int, .int, .int, .int, .lst (.int .u8), .int, .int], ots := [[.lst (.int .u8), .int, .int]] }
def rs_New_d0 : LD := { ins := ⟨[(0, (.av (.one (.int .i64)))), (6, (.av (.one (.const (.ptr ⟨1, 0, 0, 0⟩))))), (31, (.av (.one (.int .i64)))), (32, (.av (.one (.int .i64))))], [(.sh (.arr (.int .u8) none), false), (.sh (.one (.int .i64)), true), (.sh (.one (.int .i64)), true), (.sh (.one (.const (.slw 0 1))), false)]⟩, mov := [], wr := [0, 1, 2, 3], outs := [(.exit 0, ⟨[], [(.sh (.arr (.int .u8) none), false), (.sh (.one (.int .i64)), true), (.sh (.one (.int .i64)), true), (.sh (.one (.const (.slw 0 1))), false)]⟩)], its := [.int, .int, .int, .lst (.int .u8), .int, .int], ots := [[.lst (.int .u8), .int, .int]] }
noncomputable def rs_New_J (N : Nat) : Nat → Hint := fun cx => hintOf cx [(0, { reg := fun k => assoc0 k [(1, ⟨⟨[(22, (.av (.one .bool)))], []⟩, [], [], [.bool]⟩)], cnd := fun k => assoc0 k [], loop := fun k => assoc0 k [(2, ⟨rs_New_d2, loopF (rs_New_b2 N) N⟩), (0, ⟨rs_New_d0, loopF (rs_New_b0 N) N⟩)], nil := fun k => assoc0 k [], unr := fun k => assocN k [], blk := fun k => assoc0 k [] })]
noncomputable def rs_New_C (N : Nat) : Nat → List GS := fun k => tabOf k [(50, [gf_Add_g N]), (49, [gf_Inv_g N])]
def rs_New_o : List (Shp × List Nat) := [(⟨[(0, (.tup [(.one (.const .nilp)), (.one (.const (.int .i64 (2 : Int))))]))], []⟩, []), (⟨[(0, (.tup [(.one (.const (.ptr ⟨0, 0, 0, 0⟩))), (.one (.const (.int .i64 (0 : Int))))]))], [(.sh (.one (.int .i64)), true), (.sh (.one (.int .i64)), true), (.sh (.one (.const (.slw 3 1))), false), (.sh (.arr (.int .u8) none), false)]⟩, [])]
noncomputable def rs_New_g (N : Nat) : GS := { ins := ⟨[(0, (.av (.one (.int .i64)))), (1, (.av (.one (.int .i64))))], []⟩, lend := [.keep, .keep], outs := rs_New_o.map fun s => ssOf s.1, its := [.int, .int], ots := [[], [.int, .int, .lst (.int .u8)]], F := rs_New N }
noncomputable def rs_New_CA (N : Nat) (f0 : Int × Int → Option (Int)) (f1 : Int → Option (Int × Int)) : Nat → List GS := fun k => tabOf k [(50, [{ gf_Add_g N with F := f0 }]), (49, [{ gf_Inv_g N with F := f1 }])]
theorem rs_New_CE (N : Nat) : rs_New_CA N (gf_Add) (gf_Inv N) = rs_New_C N := by kernel_rfl
theorem rs_New_t (N : Nat) : TabC Try.prog (rs_New_C N) := tab_ok ⟨⟨gf_Add_ok N, trivial⟩, ⟨gf_Inv_ok N, trivial⟩, trivial⟩
theorem rs_New_i2 : loopsOf rs_New_c2 = [] := by kernel_rfl
noncomputable def rs_New_a2 (N : Nat) (f0 : Int × Int → Option (Int)) (f1 : Int → Option (Int × Int)) (next : Int × Int × Int × Int × Int × Int × (List Int) × Int × Int → Option (((List Int) × Int × Int))) (x : Int × Int × Int × Int × Int × Int × (List Int) × Int × Int) : Option (((List Int) × Int × Int)) :=
  (cond (decide (x.2.2.2.2.2.1 < x.2.2.2.2.1))
  (let v3 : Int := (wrapF .i64 ((wrapF .i64 (x.2.1 * x.1)) + x.2.2.2.2.2.1))
  (Option.bind (f0 ((wrapF .u8 (wrapF .i64 (x.1 + x.2.1))), (wrapF .u8 x.2.2.2.2.2.1))) fun r7 =>
  (Option.bind (f1 r7) fun r8 =>
  (cond ((decide ((0 : Int) ≤ v3)) && (decide (v3 < (((List.length x.2.2.2.2.2.2.1) : Nat) : Int))))
  ((let v9 : Nat := (Int.toNat v3)
  (cond (decide (v9 < (List.length x.2.2.2.2.2.2.1)))
  ((next (x.1, x.2.1, x.2.2.1, x.2.2.2.1, x.2.2.2.2.1, (wrapF .i64 (x.2.2.2.2.2.1 + (1 : Int))), (List.set x.2.2.2.2.2.2.1 v9 r8.1), x.2.2.2.2.2.2.2.1, x.2.2.2.2.2.2.2.2)))
  none)))
  none))))
  (some (x.2.2.2.2.2.2.1, x.2.2.2.2.2.2.2.1, x.2.2.2.2.2.2.2.2)))
theorem rs_New_f2 (N : Nat) (f0 : Int × Int → Option (Int)) (f1 : Int → Option (Int × Int)) (next) (x) : rs_New_a2 N f0 f1 next x = loopStep Γ (rs_New_CA N f0 f1) (rs_New_J N) 0 63 rs_New_d2 rs_New_c2 next x := by kernel_rfl
theorem rs_New_e2 (N : Nat) (next) (x) : rs_New_b2 N next x = loopStep Γ (rs_New_C N) (rs_New_J N) 0 63 rs_New_d2 rs_New_c2 next x := by
  rw [← rs_New_CE N]
  exact Eq.trans (by kernel_rfl) (rs_New_f2 N (gf_Add) (gf_Inv N) next x)
theorem rs_New_k2 (N : Nat) : LoopOK Try.prog 63 rs_New_c2 ⟨rs_New_d2, loopF (rs_New_b2 N) N⟩ := loop_ok tabOK (rs_New_t N) mixedOK (J := rs_New_J N) (cx := 0) (body := rs_New_c2) (nt := 63) (l := rs_New_d2) (b := rs_New_b2 N) (jok_from rs_New_i2 ⟨trivial, trivial⟩) (rs_New_e2 N) N
theorem rs_New_i0 : loopsOf rs_New_c0 = [(2, rs_New_c2)] := by kernel_rfl
noncomputable def rs_New_a0 (N : Nat) (f0 : Int × Int → Option (Int)) (f1 : Int → Option (Int × Int)) (next : Int × Int × Int × (List Int) × Int × Int → Option (((List Int) × Int × Int))) (x : Int × Int × Int × (List Int) × Int × Int) : Option (((List Int) × Int × Int)) :=
  (cond (decide (x.2.2.1 < x.2.1))
  (Option.bind (rs_New_l2 N (x.1, x.2.2.1, x.2.1, x.2.2.1, x.1, (0 : Int), x.2.2.2.1, x.2.2.2.2.1, x.2.2.2.2.2)) fun r2 =>
  (next (x.1, x.2.1, (wrapF .i64 (x.2.2.1 + (1 : Int))), r2.1, r2.2.1, r2.2.2)))
  (some (x.2.2.2.1, x.2.2.2.2.1, x.2.2.2.2.2)))
theorem rs_New_f0 (N : Nat) (f0 : Int × Int → Option (Int)) (f1 : Int → Option (Int × Int)) (next) (x) : rs_New_a0 N f0 f1 next x = loopStep Γ (rs_New_CA N f0 f1) (rs_New_J N) 0 63 rs_New_d0 rs_New_c0 next x := by kernel_rfl
theorem rs_New_e0 (N : Nat) (next) (x) : rs_New_b0 N next x = loopStep Γ (rs_New_C N) (rs_New_J N) 0 63 rs_New_d0 rs_New_c0 next x := by
  rw [← rs_New_CE N]
  exact Eq.trans (by kernel_rfl) (rs_New_f0 N (gf_Add) (gf_Inv N) next x)
theorem rs_New_k0 (N : Nat) : LoopOK Try.prog 63 rs_New_c0 ⟨rs_New_d0, loopF (rs_New_b0 N) N⟩ := loop_ok tabOK (rs_New_t N) mixedOK (J := rs_New_J N) (cx := 0) (body := rs_New_c0) (nt := 63) (l := rs_New_d0) (b := rs_New_b0 N) (jok_from rs_New_i0 ⟨⟨.inr ⟨_, rfl, rs_New_k2 N⟩, trivial⟩, trivial⟩) (rs_New_e0 N) N
theorem rs_New_i : loopsOf rs_New_c = [(0, rs_New_c0), (2, rs_New_c2)] := by kernel_rfl
noncomputable def rs_New_a (N : Nat) (f0 : Int × Int → Option (Int)) (f1 : Int → Option (Int × Int)) (x : Int × Int) : Option ((Unit) ⊕ (Int × Int × (List Int))) :=
  (Option.bind
  (cond (decide (x.1 < (1 : Int)))
  (some true)
  (cond (decide ((16 : Int) < x.1))
  (some true)
  (cond (decide (x.2 < (0 : Int)))
  (some true)
  (some (decide ((8 : Int) < x.2))))))
  fun r5 =>
  (cond r5
  (some (.inl ()))
  (let v6 : Int := (wrapF .i64 (x.2 * x.1))
  (cond ((decide ((0 : Int) ≤ v6)) && (fits 1 (Int.toNat v6)))
  ((Option.bind (rs_New_l0 N (x.1, x.2, (0 : Int), (List.replicate (Int.toNat v6) (EK.dflt (.int .u8))), x.1, x.2)) fun r8 =>
  (some (.inr ((r8.2.1, r8.2.2, r8.1))))))
  none))))
theorem rs_New_f (N : Nat) (f0 : Int × Int → Option (Int)) (f1 : Int → Option (Int × Int)) (x) : rs_New_a N f0 f1 x = fnStep Γ (rs_New_CA N f0 f1) (rs_New_J N) 63 Try.f36.results.toList (rs_New_g N) rs_New_o rs_New_c x := by kernel_rfl
theorem rs_New_e (N : Nat) (x) : (rs_New_g N).F x = fnStep Γ (rs_New_C N) (rs_New_J N) 63 Try.f36.results.toList (rs_New_g N) rs_New_o rs_New_c x := by
  rw [← rs_New_CE N]
  exact Eq.trans (by kernel_rfl) (rs_New_f N (gf_Add) (gf_Inv N) x)
theorem rs_New_y : Try.f36.body = some rs_New_c := by kernel_rfl
theorem rs_New_n : (Try.f36.name == "runtime.NumGoroutine") = false := by kernel_rfl
theorem rs_New_ok (N : Nat) : FnDoes Try.prog 36 (rs_New_g N) := fn_ok tabOK (rs_New_t N) mixedOK (J := rs_New_J N) (body := rs_New_c) Try.func36 rs_New_y rs_New_n Try.ntmps36 (jok_from rs_New_i ⟨⟨.inr ⟨_, rfl, rs_New_k0 N⟩, .inr ⟨_, rfl, rs_New_k2 N⟩, trivial⟩, trivial⟩) rfl rfl (le_of_ble rfl) (rs_New_e N)
noncomputable def granarylaw03_num_c : Code := codeOf Try.f18.body
noncomputable def granarylaw03_num_J (N : Nat) : Nat → Hint := fun cx => hintOf cx []
noncomputable def granarylaw03_num_C (N : Nat) : Nat → List GS := fun k => tabOf k []
def granarylaw03_num_o : List (Shp × List Nat) := [(⟨[(0, (.av (.one (.int .i64))))], []⟩, [])]
noncomputable def granarylaw03_num_g (N : Nat) : GS := { ins := ⟨[(0, (.av (.one (.int .i64))))], []⟩, lend := [.keep], outs := granarylaw03_num_o.map fun s => ssOf s.1, its := [.int], ots := [[.int]], F := granarylaw03_num }
theorem granarylaw03_num_t (N : Nat) : TabC Try.prog (granarylaw03_num_C N) := tab_ok trivial
theorem granarylaw03_num_i : loopsOf granarylaw03_num_c = [] := by kernel_rfl
theorem granarylaw03_num_e (N : Nat) (x) : (granarylaw03_num_g N).F x = fnStep Γ (granarylaw03_num_C N) (granarylaw03_num_J N) 4 Try.f18.results.toList (granarylaw03_num_g N) granarylaw03_num_o granarylaw03_num_c x := by kernel_rfl
theorem granarylaw03_num_y : Try.f18.body = some granarylaw03_num_c := by kernel_rfl
theorem granarylaw03_num_n : (Try.f18.name == "runtime.NumGoroutine") = false := by kernel_rfl
theorem granarylaw03_num_ok (N : Nat) : FnDoes Try.prog 18 (granarylaw03_num_g N) := fn_ok tabOK (granarylaw03_num_t N) mixedOK (J := granarylaw03_num_J N) (body := granarylaw03_num_c) Try.func18 granarylaw03_num_y granarylaw03_num_n Try.ntmps18 (jok_from granarylaw03_num_i trivial) rfl rfl (le_of_ble rfl) (granarylaw03_num_e N)
noncomputable def rs_even_c : Code := codeOf Try.f38.body
noncomputable def rs_even_c0 : Code := codeOf (getLoop 0 rs_even_c)
def rs_even_d0 : LD := { ins := ⟨[(4, (.av (.one (.int .i64)))), (7, (.av (.one (.rsl (.sl (.int .u8)))))), (8, (.av (.one (.int .i64)))), (9, (.av (.one (.int .i64))))], []⟩, mov := [], wr := [], outs := [(.ret, ⟨[(2, (.av (.one (.const (.int .i64 (0 : Int)))))), (3, (.av (.one (.const (.int .i64 (2 : Int))))))], []⟩), (.exit 0, ⟨[(4, (.av (.one (.int .i64))))], []⟩)], its := [.int, .lst (.sl (.int .u8)), .int, .int], ots := [[], [.int]] }
noncomputable def rs_even_J (N : Nat) : Nat → Hint := fun cx => hintOf cx [(0, { reg := fun k => assoc0 k [], cnd := fun k => assoc0 k [(15, ⟨[], [], [(.normal, ⟨[(4, (.av (.one (.int .i64))))], []⟩)], [[.int]]⟩)], loop := fun k => assoc0 k [(0, ⟨rs_even_d0, loopF (rs_even_b0 N) N⟩)], nil := fun k => assoc0 k [], unr := fun k => assocN k [], blk := fun k => assoc0 k [] })]
noncomputable def rs_even_C (N : Nat) : Nat → List GS := fun k => tabOf k []
def rs_even_o : List (Shp × List Nat) := [(⟨[(0, (.tup [(.one (.int .i64)), (.one (.int .i64))]))], []⟩, [])]
noncomputable def rs_even_g (N : Nat) : GS := { ins := ⟨[(0, (.av (.one (.rsl (.sl (.int .u8))))))], []⟩, lend := [.keep], outs := rs_even_o.map fun s => ssOf s.1, its := [.lst (.sl (.int .u8))], ots := [[.int, .int]], F := rs_even N }
theorem rs_even_t (N : Nat) : TabC Try.prog (rs_even_C N) := tab_ok trivial
theorem rs_even_i0 : loopsOf rs_even_c0 = [] := by kernel_rfl
theorem rs_even_e0 (N : Nat) (next) (x) : rs_even_b0 N next x = loopStep Γ (rs_even_C N) (rs_even_J N) 0 26 rs_even_d0 rs_even_c0 next x := by kernel_rfl
theorem rs_even_k0 (N : Nat) : LoopOK Try.prog 26 rs_even_c0 ⟨rs_even_d0, loopF (rs_even_b0 N) N⟩ := loop_ok tabOK (rs_even_t N) mixedOK (J := rs_even_J N) (cx := 0) (body := rs_even_c0) (nt := 26) (l := rs_even_d0) (b := rs_even_b0 N) (jok_from rs_even_i0 ⟨trivial, trivial⟩) (rs_even_e0 N) N
theorem rs_even_i : loopsOf rs_even_c = [(0, rs_even_c0)] := by kernel_rfl
theorem rs_even_e (N : Nat) (x) : (rs_even_g N).F x = fnStep Γ (rs_even_C N) (rs_even_J N) 26 Try.f38.results.toList (rs_even_g N) rs_even_o rs_even_c x := by kernel_rfl
theorem rs_even_y : Try.f38.body = some rs_even_c := by kernel_rfl
theorem rs_even_n : (Try.f38.name == "runtime.NumGoroutine") = false := by kernel_rfl
theorem rs_even_ok (N : Nat) : FnDoes Try.prog 38 (rs_even_g N) := fn_ok tabOK (rs_even_t N) mixedOK (J := rs_even_J N) (body := rs_even_c) Try.func38 rs_even_y rs_even_n Try.ntmps38 (jok_from rs_even_i ⟨⟨.inr ⟨_, rfl, rs_even_k0 N⟩, trivial⟩, trivial⟩) rfl rfl (le_of_ble rfl) (rs_even_e N)
noncomputable def rs_Code_parity_c : Code := codeOf Try.f43.body
noncomputable def rs_Code_parity_J (N : Nat) : Nat → Hint := fun cx => hintOf cx []
noncomputable def rs_Code_parity_C (N : Nat) : Nat → List GS := fun k => tabOf k []
def rs_Code_parity_o : List (Shp × List Nat) := [(⟨[(0, (.av (.one (.sl 3 1))))], [(.sh (.one (.int .i64)), true), (.sh (.one (.int .i64)), true), (.sh (.one (.const (.slw 3 1))), false), (.sh (.arr (.int .u8) none), false)]⟩, [])]
noncomputable def rs_Code_parity_g (N : Nat) : GS := { ins := ⟨[(0, (.av (.one (.const (.ptr ⟨0, 0, 0, 0⟩))))), (1, (.av (.one (.int .i64))))], [(some (.one (.int .i64)), true), (some (.one (.int .i64)), true), (some (.one (.const (.slw 3 1))), false), (some (.arr (.int .u8) none), false)]⟩, lend := [.keep, .keep], outs := rs_Code_parity_o.map fun s => ssOf s.1, its := [.int, .int, .int, .lst (.int .u8)], ots := [[.nat, .nat, .int, .int, .lst (.int .u8)]], F := rs_Code_parity }
theorem rs_Code_parity_t (N : Nat) : TabC Try.prog (rs_Code_parity_C N) := tab_ok trivial
theorem rs_Code_parity_i : loopsOf rs_Code_parity_c = [] := by kernel_rfl
theorem rs_Code_parity_e (N : Nat) (x) : (rs_Code_parity_g N).F x = fnStep Γ (rs_Code_parity_C N) (rs_Code_parity_J N) 30 Try.f43.results.toList (rs_Code_parity_g N) rs_Code_parity_o rs_Code_parity_c x := by kernel_rfl
theorem rs_Code_parity_y : Try.f43.body = some rs_Code_parity_c := by kernel_rfl
theorem rs_Code_parity_n : (Try.f43.name == "runtime.NumGoroutine") = false := by kernel_rfl
theorem rs_Code_parity_ok (N : Nat) : FnDoes Try.prog 43 (rs_Code_parity_g N) := fn_ok tabOK (rs_Code_parity_t N) mixedOK (J := rs_Code_parity_J N) (body := rs_Code_parity_c) Try.func43 rs_Code_parity_y rs_Code_parity_n Try.ntmps43 (jok_from rs_Code_parity_i trivial) rfl rfl (le_of_ble rfl) (rs_Code_parity_e N)
noncomputable def gf_Scale_c : Code := codeOf Try.f47.body
noncomputable def gf_Scale_c0 : Code := codeOf (getLoop 0 gf_Scale_c)
def gf_Scale_d0 : LD := { ins := ⟨[(0, (.av (.one (.int .u8)))), (5, (.av (.one (.const (.slw 0 1))))), (11, (.av (.one (.rsl (.int .u8))))), (12, (.av (.one (.int .i64)))), (13, (.av (.one (.int .i64))))], [(.sh (.arr (.int .u8) none), false)]⟩, mov := [], wr := [0], outs := [(.exit 0, ⟨[], [(.sh (.arr (.int .u8) none), false)]⟩)], its := [.int, .lst (.int .u8), .int, .int, .lst (.int .u8)], ots := [[.lst (.int .u8)]] }
noncomputable def gf_Scale_J (N : Nat) : Nat → Hint := fun cx => hintOf cx [(0, { reg := fun k => assoc0 k [], cnd := fun k => assoc0 k [], loop := fun k => assoc0 k [(0, ⟨gf_Scale_d0, loopF (gf_Scale_b0 N) N⟩)], nil := fun k => assoc0 k [], unr := fun k => assocN k [], blk := fun k => assoc0 k [] })]
noncomputable def gf_Scale_C (N : Nat) : Nat → List GS := fun k => tabOf k [(57, [gf_Mul_g N])]
def gf_Scale_o : List (Shp × List Nat) := [(⟨[(0, (.av (.one (.const (.slw 0 1)))))], [(.sh (.arr (.int .u8) none), false)]⟩, [])]
noncomputable def gf_Scale_g (N : Nat) : GS := { ins := ⟨[(0, (.av (.one (.int .u8)))), (1, (.av (.one (.rsl (.int .u8)))))], []⟩, lend := [.keep, .keep], outs := gf_Scale_o.map fun s => ssOf s.1, its := [.int, .lst (.int .u8)], ots := [[.lst (.int .u8)]], F := gf_Scale N }
noncomputable def gf_Scale_CA (N : Nat) (f0 : Int × Int → Option (Int)) : Nat → List GS := fun k => tabOf k [(57, [{ gf_Mul_g N with F := f0 }])]
theorem gf_Scale_CE (N : Nat) : gf_Scale_CA N (gf_Mul N) = gf_Scale_C N := by kernel_rfl
theorem gf_Scale_t (N : Nat) : TabC Try.prog (gf_Scale_C N) := tab_ok ⟨⟨gf_Mul_ok N, trivial⟩, trivial⟩
theorem gf_Scale_i0 : loopsOf gf_Scale_c0 = [] := by kernel_rfl
noncomputable def gf_Scale_a0 (N : Nat) (f0 : Int × Int → Option (Int)) (next : Int × (List Int) × Int × Int × (List Int) → Option (((List Int)))) (x : Int × (List Int) × Int × Int × (List Int)) : Option (((List Int))) :=
  (cond (decide (x.2.2.2.1 < x.2.2.1))
  (cond ((decide ((0 : Int) ≤ x.2.2.2.1)) && (decide (x.2.2.2.1 < (((List.length x.2.1) : Nat) : Int))))
  ((Option.bind (f0 (x.1, (List.getD x.2.1 (Int.toNat x.2.2.2.1) (EK.dflt (.int .u8))))) fun r3 =>
  (cond ((decide ((0 : Int) ≤ x.2.2.2.1)) && (decide (x.2.2.2.1 < (((List.length x.2.2.2.2) : Nat) : Int))))
  ((let v4 : Nat := (Int.toNat x.2.2.2.1)
  (cond (decide (v4 < (List.length x.2.2.2.2)))
  ((next (x.1, x.2.1, x.2.2.1, (wrapF .i64 (x.2.2.2.1 + (1 : Int))), (List.set x.2.2.2.2 v4 r3))))
  none)))
  none)))
  none)
  (some x.2.2.2.2))
theorem gf_Scale_f0 (N : Nat) (f0 : Int × Int → Option (Int)) (next) (x) : gf_Scale_a0 N f0 next x = loopStep Γ (gf_Scale_CA N f0) (gf_Scale_J N) 0 26 gf_Scale_d0 gf_Scale_c0 next x := by kernel_rfl
theorem gf_Scale_e0 (N : Nat) (next) (x) : gf_Scale_b0 N next x = loopStep Γ (gf_Scale_C N) (gf_Scale_J N) 0 26 gf_Scale_d0 gf_Scale_c0 next x := by
  rw [← gf_Scale_CE N]
  exact Eq.trans (by kernel_rfl) (gf_Scale_f0 N (gf_Mul N) next x)
theorem gf_Scale_k0 (N : Nat) : LoopOK Try.prog 26 gf_Scale_c0 ⟨gf_Scale_d0, loopF (gf_Scale_b0 N) N⟩ := loop_ok tabOK (gf_Scale_t N) mixedOK (J := gf_Scale_J N) (cx := 0) (body := gf_Scale_c0) (nt := 26) (l := gf_Scale_d0) (b := gf_Scale_b0 N) (jok_from gf_Scale_i0 ⟨trivial, trivial⟩) (gf_Scale_e0 N) N
theorem gf_Scale_i : loopsOf gf_Scale_c = [(0, gf_Scale_c0)] := by kernel_rfl
noncomputable def gf_Scale_a (N : Nat) (f0 : Int × Int → Option (Int)) (x : Int × (List Int)) : Option ((List Int)) :=
  (let v1 : Int := (((List.length x.2) : Nat) : Int)
  (cond ((decide ((0 : Int) ≤ v1)) && (fits 1 (Int.toNat v1)))
  ((Option.bind (gf_Scale_l0 N (x.1, x.2, (((List.length x.2) : Nat) : Int), (0 : Int), (List.replicate (Int.toNat v1) (EK.dflt (.int .u8))))) fun r4 =>
  (some r4)))
  none))
theorem gf_Scale_f (N : Nat) (f0 : Int × Int → Option (Int)) (x) : gf_Scale_a N f0 x = fnStep Γ (gf_Scale_CA N f0) (gf_Scale_J N) 26 Try.f47.results.toList (gf_Scale_g N) gf_Scale_o gf_Scale_c x := by kernel_rfl
theorem gf_Scale_e (N : Nat) (x) : (gf_Scale_g N).F x = fnStep Γ (gf_Scale_C N) (gf_Scale_J N) 26 Try.f47.results.toList (gf_Scale_g N) gf_Scale_o gf_Scale_c x := by
  rw [← gf_Scale_CE N]
  exact Eq.trans (by kernel_rfl) (gf_Scale_f N (gf_Mul N) x)
theorem gf_Scale_y : Try.f47.body = some gf_Scale_c := by kernel_rfl
theorem gf_Scale_n : (Try.f47.name == "runtime.NumGoroutine") = false := by kernel_rfl
theorem gf_Scale_ok (N : Nat) : FnDoes Try.prog 47 (gf_Scale_g N) := fn_ok tabOK (gf_Scale_t N) mixedOK (J := gf_Scale_J N) (body := gf_Scale_c) Try.func47 gf_Scale_y gf_Scale_n Try.ntmps47 (jok_from gf_Scale_i ⟨⟨.inr ⟨_, rfl, gf_Scale_k0 N⟩, trivial⟩, trivial⟩) rfl rfl (le_of_ble rfl) (gf_Scale_e N)
noncomputable def gf_Sum_c : Code := codeOf Try.f46.body
noncomputable def gf_Sum_c0 : Code := codeOf (getLoop 0 gf_Sum_c)
def gf_Sum_d0 : LD := { ins := ⟨[(1, (.av (.one (.rsl (.int .u8))))), (6, (.av (.one (.const (.slw 0 1))))), (17, (.av (.one (.rsl (.int .u8))))), (18, (.av (.one (.int .i64)))), (19, (.av (.one (.int .i64))))], [(.sh (.arr (.int .u8) none), false)]⟩, mov := [], wr := [0], outs := [(.exit 0, ⟨[], [(.sh (.arr (.int .u8) none), false)]⟩)], its := [.lst (.int .u8), .lst (.int .u8), .int, .int, .lst (.int .u8)], ots := [[.lst (.int .u8)]] }
noncomputable def gf_Sum_J (N : Nat) : Nat → Hint := fun cx => hintOf cx [(0, { reg := fun k => assoc0 k [], cnd := fun k => assoc0 k [], loop := fun k => assoc0 k [(0, ⟨gf_Sum_d0, loopF (gf_Sum_b0 N) N⟩)], nil := fun k => assoc0 k [], unr := fun k => assocN k [], blk := fun k => assoc0 k [] })]
noncomputable def gf_Sum_C (N : Nat) : Nat → List GS := fun k => tabOf k []
def gf_Sum_o : List (Shp × List Nat) := [(⟨[(0, (.tup [(.one (.const (.slw 0 1))), (.one (.int .i64))]))], [(.sh (.arr (.int .u8) none), false)]⟩, [])]
noncomputable def gf_Sum_g (N : Nat) : GS := { ins := ⟨[(0, (.av (.one (.rsl (.int .u8))))), (1, (.av (.one (.rsl (.int .u8)))))], []⟩, lend := [.lend (.int .u8), .lend (.int .u8)], outs := gf_Sum_o.map fun s => ssOf s.1, its := [.lst (.int .u8), .lst (.int .u8)], ots := [[.int, .lst (.int .u8)]], F := gf_Sum N }
theorem gf_Sum_t (N : Nat) : TabC Try.prog (gf_Sum_C N) := tab_ok trivial
theorem gf_Sum_i0 : loopsOf gf_Sum_c0 = [] := by kernel_rfl
theorem gf_Sum_e0 (N : Nat) (next) (x) : gf_Sum_b0 N next x = loopStep Γ (gf_Sum_C N) (gf_Sum_J N) 0 35 gf_Sum_d0 gf_Sum_c0 next x := by kernel_rfl
theorem gf_Sum_k0 (N : Nat) : LoopOK Try.prog 35 gf_Sum_c0 ⟨gf_Sum_d0, loopF (gf_Sum_b0 N) N⟩ := loop_ok tabOK (gf_Sum_t N) mixedOK (J := gf_Sum_J N) (cx := 0) (body := gf_Sum_c0) (nt := 35) (l := gf_Sum_d0) (b := gf_Sum_b0 N) (jok_from gf_Sum_i0 ⟨trivial, trivial⟩) (gf_Sum_e0 N) N
theorem gf_Sum_i : loopsOf gf_Sum_c = [(0, gf_Sum_c0)] := by kernel_rfl
theorem gf_Sum_e (N : Nat) (x) : (gf_Sum_g N).F x = fnStep Γ (gf_Sum_C N) (gf_Sum_J N) 35 Try.f46.results.toList (gf_Sum_g N) gf_Sum_o gf_Sum_c x := by kernel_rfl
theorem gf_Sum_y : Try.f46.body = some gf_Sum_c := by kernel_rfl
theorem gf_Sum_n : (Try.f46.name == "runtime.NumGoroutine") = false := by kernel_rfl
theorem gf_Sum_ok (N : Nat) : FnDoes Try.prog 46 (gf_Sum_g N) := fn_ok tabOK (gf_Sum_t N) mixedOK (J := gf_Sum_J N) (body := gf_Sum_c) Try.func46 gf_Sum_y gf_Sum_n Try.ntmps46 (jok_from gf_Sum_i ⟨⟨.inr ⟨_, rfl, gf_Sum_k0 N⟩, trivial⟩, trivial⟩) rfl rfl (le_of_ble rfl) (gf_Sum_e N)
noncomputable def rs_mixed_c : Code := codeOf Try.f40.body
noncomputable def rs_mixed_c0 : Code := codeOf (getLoop 0 rs_mixed_c)
def rs_mixed_d0 : LD := { ins := ⟨[(1, (.av (.one (.rsl (.sl (.int .u8)))))), (7, (.av (.one (.const (.slw 0 1))))), (14, (.av (.one (.rsl (.int .u8))))), (15, (.av (.one (.int .i64)))), (16, (.av (.one (.int .i64))))], [(.sh (.arr (.int .u8) none), false)]⟩, mov := [], wr := [0], outs := [(.exit 0, ⟨[], [(.sh (.arr (.int .u8) none), false)]⟩)], its := [.lst (.sl (.int .u8)), .lst (.int .u8), .int, .int, .lst (.int .u8)], ots := [[.lst (.int .u8)]] }
noncomputable def rs_mixed_J (N : Nat) : Nat → Hint := fun cx => hintOf cx [(0, { reg := fun k => assoc0 k [], cnd := fun k => assoc0 k [], loop := fun k => assoc0 k [(0, ⟨rs_mixed_d0, loopF (rs_mixed_b0 N) N⟩)], nil := fun k => assoc0 k [], unr := fun k => assocN k [], blk := fun k => assoc0 k [(1, ⟨[], [0], [(.normal, ⟨[], [(.sh (.arr (.int .u8) none), false)]⟩)], [[.lst (.int .u8)]]⟩)] })]
noncomputable def rs_mixed_C (N : Nat) : Nat → List GS := fun k => tabOf k [(47, [gf_Scale_g N]), (46, [gf_Sum_g N])]
def rs_mixed_o : List (Shp × List Nat) := [(⟨[(0, (.av (.one (.const (.slw 0 1)))))], [(.sh (.arr (.int .u8) none), false)]⟩, [])]
noncomputable def rs_mixed_g (N : Nat) : GS := { ins := ⟨[(0, (.av (.one (.rsl (.int .u8))))), (1, (.av (.one (.rsl (.sl (.int .u8)))))), (2, (.av (.one (.int .i64))))], []⟩, lend := [.lend (.int .u8), .keep, .keep], outs := rs_mixed_o.map fun s => ssOf s.1, its := [.lst (.int .u8), .lst (.sl (.int .u8)), .int], ots := [[.lst (.int .u8)]], F := rs_mixed N }
noncomputable def rs_mixed_CA (N : Nat) (f0 : Int × (List Int) → Option ((List Int))) (f1 : (List Int) × (List Int) → Option (Int × (List Int))) : Nat → List GS := fun k => tabOf k [(47, [{ gf_Scale_g N with F := f0 }]), (46, [{ gf_Sum_g N with F := f1 }])]
theorem rs_mixed_CE (N : Nat) : rs_mixed_CA N (gf_Scale N) (gf_Sum N) = rs_mixed_C N := by kernel_rfl
theorem rs_mixed_t (N : Nat) : TabC Try.prog (rs_mixed_C N) := tab_ok ⟨⟨gf_Scale_ok N, trivial⟩, ⟨gf_Sum_ok N, trivial⟩, trivial⟩
theorem rs_mixed_i0 : loopsOf rs_mixed_c0 = [] := by kernel_rfl
noncomputable def rs_mixed_a0 (N : Nat) (f0 : Int × (List Int) → Option ((List Int))) (f1 : (List Int) × (List Int) → Option (Int × (List Int))) (next : (List (List Int)) × (List Int) × Int × Int × (List Int) → Option (((List Int)))) (x : (List (List Int)) × (List Int) × Int × Int × (List Int)) : Option (((List Int))) :=
  (cond (decide (x.2.2.2.1 < x.2.2.1))
  (Option.bind
  (cond ((decide ((0 : Int) ≤ x.2.2.2.1)) && (decide (x.2.2.2.1 < (((List.length x.2.1) : Nat) : Int))))
  ((let v2 : Int := (List.getD x.2.1 (Int.toNat x.2.2.2.1) (EK.dflt (.int .u8)))
  (cond (decide (v2 = (0 : Int)))
  (some x.2.2.2.2)
  (cond ((decide ((0 : Int) ≤ x.2.2.2.1)) && (decide (x.2.2.2.1 < (((List.length x.1) : Nat) : Int))))
  ((Option.bind (f0 (v2, (List.getD x.1 (Int.toNat x.2.2.2.1) (EK.dflt (.sl (.int .u8)))))) fun r5 =>
  (Option.bind (f1 (x.2.2.2.2, r5)) fun r6 =>
  (cond (decide ((0 + (List.length x.2.2.2.2)) ≤ (List.length x.2.2.2.2)))
  ((some (List.take 0 x.2.2.2.2 ++ List.take (min (List.length r6.2) (List.length x.2.2.2.2)) r6.2 ++ List.drop (0 + (min (List.length r6.2) (List.length x.2.2.2.2))) x.2.2.2.2)))
  none))))
  none))))
  none)
  fun r9 =>
  (next (x.1, x.2.1, x.2.2.1, (wrapF .i64 (x.2.2.2.1 + (1 : Int))), r9)))
  (some x.2.2.2.2))
theorem rs_mixed_f0 (N : Nat) (f0 : Int × (List Int) → Option ((List Int))) (f1 : (List Int) × (List Int) → Option (Int × (List Int))) (next) (x) : rs_mixed_a0 N f0 f1 next x = loopStep Γ (rs_mixed_CA N f0 f1) (rs_mixed_J N) 0 39 rs_mixed_d0 rs_mixed_c0 next x := by kernel_rfl
theorem rs_mixed_e0 (N : Nat) (next) (x) : rs_mixed_b0 N next x = loopStep Γ (rs_mixed_C N) (rs_mixed_J N) 0 39 rs_mixed_d0 rs_mixed_c0 next x := by
  rw [← rs_mixed_CE N]
  exact Eq.trans (by kernel_rfl) (rs_mixed_f0 N (gf_Scale N) (gf_Sum N) next x)
theorem rs_mixed_k0 (N : Nat) : LoopOK Try.prog 39 rs_mixed_c0 ⟨rs_mixed_d0, loopF (rs_mixed_b0 N) N⟩ := loop_ok tabOK (rs_mixed_t N) mixedOK (J := rs_mixed_J N) (cx := 0) (body := rs_mixed_c0) (nt := 39) (l := rs_mixed_d0) (b := rs_mixed_b0 N) (jok_from rs_mixed_i0 ⟨trivial, trivial⟩) (rs_mixed_e0 N) N
theorem rs_mixed_i : loopsOf rs_mixed_c = [(0, rs_mixed_c0)] := by kernel_rfl
noncomputable def rs_mixed_a (N : Nat) (f0 : Int × (List Int) → Option ((List Int))) (f1 : (List Int) × (List Int) → Option (Int × (List Int))) (x : (List Int) × (List (List Int)) × Int) : Option ((List Int)) :=
  (cond ((decide ((0 : Int) ≤ x.2.2)) && (fits 1 (Int.toNat x.2.2)))
  ((Option.bind (rs_mixed_l0 N (x.2.1, x.1, (((List.length x.1) : Nat) : Int), (0 : Int), (List.replicate (Int.toNat x.2.2) (EK.dflt (.int .u8))))) fun r3 =>
  (some r3)))
  none)
theorem rs_mixed_f (N : Nat) (f0 : Int × (List Int) → Option ((List Int))) (f1 : (List Int) × (List Int) → Option (Int × (List Int))) (x) : rs_mixed_a N f0 f1 x = fnStep Γ (rs_mixed_CA N f0 f1) (rs_mixed_J N) 39 Try.f40.results.toList (rs_mixed_g N) rs_mixed_o rs_mixed_c x := by kernel_rfl
theorem rs_mixed_e (N : Nat) (x) : (rs_mixed_g N).F x = fnStep Γ (rs_mixed_C N) (rs_mixed_J N) 39 Try.f40.results.toList (rs_mixed_g N) rs_mixed_o rs_mixed_c x := by
  rw [← rs_mixed_CE N]
  exact Eq.trans (by kernel_rfl) (rs_mixed_f N (gf_Scale N) (gf_Sum N) x)
theorem rs_mixed_y : Try.f40.body = some rs_mixed_c := by kernel_rfl
theorem rs_mixed_n : (Try.f40.name == "runtime.NumGoroutine") = false := by kernel_rfl
theorem rs_mixed_ok (N : Nat) : FnDoes Try.prog 40 (rs_mixed_g N) := fn_ok tabOK (rs_mixed_t N) mixedOK (J := rs_mixed_J N) (body := rs_mixed_c) Try.func40 rs_mixed_y rs_mixed_n Try.ntmps40 (jok_from rs_mixed_i ⟨⟨.inr ⟨_, rfl, rs_mixed_k0 N⟩, trivial⟩, trivial⟩) rfl rfl (le_of_ble rfl) (rs_mixed_e N)
noncomputable def rs_Code_Encode_c : Code := codeOf Try.f24.body
noncomputable def rs_Code_Encode_c0 : Code := codeOf (getLoop 0 rs_Code_Encode_c)
def rs_Code_Encode_d0 : LD := { ins := ⟨[(0, (.av (.one (.const (.ptr ⟨0, 0, 0, 0⟩))))), (1, (.av (.one (.rsl (.sl (.int .u8)))))), (6, (.av (.one (.int .i64)))), (8, (.av (.one (.const (.slw 4 1))))), (30, (.av (.one (.int .i64)))), (31, (.av (.one (.int .i64))))], [(.sh (.one (.int .i64)), true), (.sh (.one (.int .i64)), true), (.sh (.one (.const (.slw 3 1))), false), (.sh (.arr (.int .u8) none), false), (.sh (.arr (.sl (.int .u8)) none), false)]⟩, mov := [4], wr := [0, 1, 2, 3], outs := [(.exit 0, ⟨[(8, (.av (.one (.const (.slw 5 1)))))], [(.sh (.one (.int .i64)), true), (.sh (.one (.int .i64)), true), (.sh (.one (.const (.slw 3 1))), false), (.sh (.arr (.int .u8) none), false), (.dead, false), (.sh (.arr (.sl (.int .u8)) none), false)]⟩)], its := [.lst (.sl (.int .u8)), .int, .int, .int, .int, .int, .lst (.int .u8), .lst (.sl (.int .u8))], ots := [[.int, .int, .lst (.int .u8), .lst (.sl (.int .u8))]] }
noncomputable def rs_Code_Encode_J (N : Nat) : Nat → Hint := fun cx => hintOf cx [(0, { reg := fun k => assoc0 k [], cnd := fun k => assoc0 k [], loop := fun k => assoc0 k [(0, ⟨rs_Code_Encode_d0, loopF (rs_Code_Encode_b0 N) N⟩)], nil := fun k => assoc0 k [(41, (.sl (.int .u8)))], unr := fun k => assocN k [], blk := fun k => assoc0 k [] })]
noncomputable def rs_Code_Encode_C (N : Nat) : Nat → List GS := fun k => tabOf k [(38, [rs_even_g N]), (43, [rs_Code_parity_g N]), (40, [rs_mixed_g N])]
def rs_Code_Encode_o : List (Shp × List Nat) := [(⟨[(0, (.tup [(.one (.const (.slw 4 1))), (.one (.int .i64))]))], [(.sh (.one (.int .i64)), true), (.sh (.one (.int .i64)), true), (.sh (.one (.const (.slw 3 1))), false), (.sh (.arr (.int .u8) none), false), (.sh (.arr (.sl (.int .u8)) none), false)]⟩, [])]
noncomputable def rs_Code_Encode_g (N : Nat) : GS := { ins := ⟨[(0, (.av (.one (.const (.ptr ⟨0, 0, 0, 0⟩))))), (1, (.av (.one (.rsl (.sl (.int .u8))))))], [(some (.one (.int .i64)), true), (some (.one (.int .i64)), true), (some (.one (.const (.slw 3 1))), false), (some (.arr (.int .u8) none), false)]⟩, lend := [.keep, .keep], outs := rs_Code_Encode_o.map fun s => ssOf s.1, its := [.lst (.sl (.int .u8)), .int, .int, .lst (.int .u8)], ots := [[.int, .int, .int, .lst (.int .u8), .lst (.sl (.int .u8))]], F := rs_Code_Encode N }
noncomputable def rs_Code_Encode_CA (N : Nat) (f0 : (List (List Int)) → Option (Int × Int)) (f1 : Int × Int × Int × (List Int) → Option (Nat × Nat × Int × Int × (List Int))) (f2 : (List Int) × (List (List Int)) × Int → Option ((List Int))) : Nat → List GS := fun k => tabOf k [(38, [{ rs_even_g N with F := f0 }]), (43, [{ rs_Code_parity_g N with F := f1 }]), (40, [{ rs_mixed_g N with F := f2 }])]
theorem rs_Code_Encode_CE (N : Nat) : rs_Code_Encode_CA N (rs_even N) (rs_Code_parity) (rs_mixed N) = rs_Code_Encode_C N := by kernel_rfl
theorem rs_Code_Encode_t (N : Nat) : TabC Try.prog (rs_Code_Encode_C N) := tab_ok ⟨⟨rs_even_ok N, trivial⟩, ⟨rs_Code_parity_ok N, trivial⟩, ⟨rs_mixed_ok N, trivial⟩, trivial⟩
theorem rs_Code_Encode_i0 : loopsOf rs_Code_Encode_c0 = [] := by kernel_rfl
noncomputable def rs_Code_Encode_a0 (N : Nat) (f0 : (List (List Int)) → Option (Int × Int)) (f1 : Int × Int × Int × (List Int) → Option (Nat × Nat × Int × Int × (List Int))) (f2 : (List Int) × (List (List Int)) × Int → Option ((List Int))) (next : (List (List Int)) × Int × Int × Int × Int × Int × (List Int) × (List (List Int)) → Option ((Int × Int × (List Int) × (List (List Int))))) (x : (List (List Int)) × Int × Int × Int × Int × Int × (List Int) × (List (List Int))) : Option ((Int × Int × (List Int) × (List (List Int)))) :=
  (cond (decide (x.2.2.2.1 < x.2.2.1))
  (Option.bind (f1 (x.2.2.2.1, x.2.2.2.2.1, x.2.2.2.2.2.1, x.2.2.2.2.2.2.1)) fun r2 =>
  (cond (cond (decide ((r2.1 + r2.2.1) ≤ (List.length r2.2.2.2.2))) true false)
  (Option.bind (f2 ((List.take r2.2.1 (List.drop r2.1 r2.2.2.2.2)), x.1, x.2.1)) fun r3 =>
  (let v4 : List (List Int) := ([r3] : List (List Int))
  (cond (fits 24 ((List.length x.2.2.2.2.2.2.2) + (List.length v4)))
  ((next (x.1, x.2.1, x.2.2.1, (wrapF .i64 (x.2.2.2.1 + (1 : Int))), r2.2.2.1, r2.2.2.2.1, r2.2.2.2.2, (x.2.2.2.2.2.2.2 ++ v4))))
  none)))
  none))
  (some (x.2.2.2.2.1, x.2.2.2.2.2.1, x.2.2.2.2.2.2.1, x.2.2.2.2.2.2.2)))
theorem rs_Code_Encode_f0 (N : Nat) (f0 : (List (List Int)) → Option (Int × Int)) (f1 : Int × Int × Int × (List Int) → Option (Nat × Nat × Int × Int × (List Int))) (f2 : (List Int) × (List (List Int)) × Int → Option ((List Int))) (next) (x) : rs_Code_Encode_a0 N f0 f1 f2 next x = loopStep Γ (rs_Code_Encode_CA N f0 f1 f2) (rs_Code_Encode_J N) 0 45 rs_Code_Encode_d0 rs_Code_Encode_c0 next x := by kernel_rfl
theorem rs_Code_Encode_e0 (N : Nat) (next) (x) : rs_Code_Encode_b0 N next x = loopStep Γ (rs_Code_Encode_C N) (rs_Code_Encode_J N) 0 45 rs_Code_Encode_d0 rs_Code_Encode_c0 next x := by
  rw [← rs_Code_Encode_CE N]
  exact Eq.trans (by kernel_rfl) (rs_Code_Encode_f0 N (rs_even N) (rs_Code_parity) (rs_mixed N) next x)
theorem rs_Code_Encode_k0 (N : Nat) : LoopOK Try.prog 45 rs_Code_Encode_c0 ⟨rs_Code_Encode_d0, loopF (rs_Code_Encode_b0 N) N⟩ := loop_ok tabOK (rs_Code_Encode_t N) mixedOK (J := rs_Code_Encode_J N) (cx := 0) (body := rs_Code_Encode_c0) (nt := 45) (l := rs_Code_Encode_d0) (b := rs_Code_Encode_b0 N) (jok_from rs_Code_Encode_i0 ⟨trivial, trivial⟩) (rs_Code_Encode_e0 N) N
theorem rs_Code_Encode_i : loopsOf rs_Code_Encode_c = [(0, rs_Code_Encode_c0)] := by kernel_rfl
noncomputable def rs_Code_Encode_a (N : Nat) (f0 : (List (List Int)) → Option (Int × Int)) (f1 : Int × Int × Int × (List Int) → Option (Nat × Nat × Int × Int × (List Int))) (f2 : (List Int) × (List (List Int)) × Int → Option ((List Int))) (x : (List (List Int)) × Int × Int × (List Int)) : Option (Int × Int × Int × (List Int) × (List (List Int))) :=
  (cond (!(decide ((((List.length x.1) : Nat) : Int) = x.2.1)))
  (some ((2 : Int), x.2.1, x.2.2.1, x.2.2.2, ([] : List (List Int))))
  (Option.bind (f0 x.1) fun r3 =>
  (cond (!(decide (r3.2 = (0 : Int))))
  (some (r3.2, x.2.1, x.2.2.1, x.2.2.2, ([] : List (List Int))))
  (Option.bind (rs_Code_Encode_l0 N (x.1, r3.1, x.2.2.1, (0 : Int), x.2.1, x.2.2.1, x.2.2.2, ([] : List (List Int)))) fun r5 =>
  (some ((0 : Int), r5.1, r5.2.1, r5.2.2.1, r5.2.2.2))))))
theorem rs_Code_Encode_f (N : Nat) (f0 : (List (List Int)) → Option (Int × Int)) (f1 : Int × Int × Int × (List Int) → Option (Nat × Nat × Int × Int × (List Int))) (f2 : (List Int) × (List (List Int)) × Int → Option ((List Int))) (x) : rs_Code_Encode_a N f0 f1 f2 x = fnStep Γ (rs_Code_Encode_CA N f0 f1 f2) (rs_Code_Encode_J N) 45 Try.f24.results.toList (rs_Code_Encode_g N) rs_Code_Encode_o rs_Code_Encode_c x := by kernel_rfl
theorem rs_Code_Encode_e (N : Nat) (x) : (rs_Code_Encode_g N).F x = fnStep Γ (rs_Code_Encode_C N) (rs_Code_Encode_J N) 45 Try.f24.results.toList (rs_Code_Encode_g N) rs_Code_Encode_o rs_Code_Encode_c x := by
  rw [← rs_Code_Encode_CE N]
  exact Eq.trans (by kernel_rfl) (rs_Code_Encode_f N (rs_even N) (rs_Code_parity) (rs_mixed N) x)
theorem rs_Code_Encode_y : Try.f24.body = some rs_Code_Encode_c := by kernel_rfl
theorem rs_Code_Encode_n : (Try.f24.name == "runtime.NumGoroutine") = false := by kernel_rfl
theorem rs_Code_Encode_ok (N : Nat) : FnDoes Try.prog 24 (rs_Code_Encode_g N) := fn_ok tabOK (rs_Code_Encode_t N) mixedOK (J := rs_Code_Encode_J N) (body := rs_Code_Encode_c) Try.func24 rs_Code_Encode_y rs_Code_Encode_n Try.ntmps24 (jok_from rs_Code_Encode_i ⟨⟨.inr ⟨_, rfl, rs_Code_Encode_k0 N⟩, trivial⟩, trivial⟩) rfl rfl (le_of_ble rfl) (rs_Code_Encode_e N)
noncomputable def rs_even_v1_c : Code := codeOf Try.f38.body
noncomputable def rs_even_v1_c0 : Code := codeOf (getLoop 0 rs_even_v1_c)
def rs_even_v1_d0 : LD := { ins := ⟨[(4, (.av (.one (.int .i64)))), (7, (.av (.one (.rsl (.sl (.int .u8)))))), (8, (.av (.one (.int .i64)))), (9, (.av (.one (.int .i64))))], []⟩, mov := [], wr := [], outs := [(.ret, ⟨[(2, (.av (.one (.const (.int .i64 (0 : Int)))))), (3, (.av (.one (.const (.int .i64 (2 : Int))))))], []⟩), (.exit 0, ⟨[(4, (.av (.one (.int .i64))))], []⟩)], its := [.int, .lst (.sl (.int .u8)), .int, .int], ots := [[], [.int]] }
noncomputable def rs_even_v1_J (N : Nat) : Nat → Hint := fun cx => hintOf cx [(0, { reg := fun k => assoc0 k [], cnd := fun k => assoc0 k [(15, ⟨[], [], [(.normal, ⟨[(4, (.av (.one (.int .i64))))], []⟩)], [[.int]]⟩)], loop := fun k => assoc0 k [(0, ⟨rs_even_v1_d0, loopF (rs_even_v1_b0 N) N⟩)], nil := fun k => assoc0 k [], unr := fun k => assocN k [], blk := fun k => assoc0 k [] })]
noncomputable def rs_even_v1_C (N : Nat) : Nat → List GS := fun k => tabOf k []
def rs_even_v1_o : List (Shp × List Nat) := [(⟨[(0, (.tup [(.one (.int .i64)), (.one (.int .i64))]))], []⟩, [])]
noncomputable def rs_even_v1_g (N : Nat) : GS := { ins := ⟨[(0, (.av (.one (.rsl (.sl (.int .u8))))))], []⟩, lend := [.lend (.sl (.int .u8))], outs := rs_even_v1_o.map fun s => ssOf s.1, its := [.lst (.sl (.int .u8))], ots := [[.int, .int]], F := rs_even_v1 N }
theorem rs_even_v1_t (N : Nat) : TabC Try.prog (rs_even_v1_C N) := tab_ok trivial
theorem rs_even_v1_i0 : loopsOf rs_even_v1_c0 = [] := by kernel_rfl
theorem rs_even_v1_e0 (N : Nat) (next) (x) : rs_even_v1_b0 N next x = loopStep Γ (rs_even_v1_C N) (rs_even_v1_J N) 0 26 rs_even_v1_d0 rs_even_v1_c0 next x := by kernel_rfl
theorem rs_even_v1_k0 (N : Nat) : LoopOK Try.prog 26 rs_even_v1_c0 ⟨rs_even_v1_d0, loopF (rs_even_v1_b0 N) N⟩ := loop_ok tabOK (rs_even_v1_t N) mixedOK (J := rs_even_v1_J N) (cx := 0) (body := rs_even_v1_c0) (nt := 26) (l := rs_even_v1_d0) (b := rs_even_v1_b0 N) (jok_from rs_even_v1_i0 ⟨trivial, trivial⟩) (rs_even_v1_e0 N) N
theorem rs_even_v1_i : loopsOf rs_even_v1_c = [(0, rs_even_v1_c0)] := by kernel_rfl
theorem rs_even_v1_e (N : Nat) (x) : (rs_even_v1_g N).F x = fnStep Γ (rs_even_v1_C N) (rs_even_v1_J N) 26 Try.f38.results.toList (rs_even_v1_g N) rs_even_v1_o rs_even_v1_c x := by kernel_rfl
theorem rs_even_v1_y : Try.f38.body = some rs_even_v1_c := by kernel_rfl
theorem rs_even_v1_n : (Try.f38.name == "runtime.NumGoroutine") = false := by kernel_rfl
theorem rs_even_v1_ok (N : Nat) : FnDoes Try.prog 38 (rs_even_v1_g N) := fn_ok tabOK (rs_even_v1_t N) mixedOK (J := rs_even_v1_J N) (body := rs_even_v1_c) Try.func38 rs_even_v1_y rs_even_v1_n Try.ntmps38 (jok_from rs_even_v1_i ⟨⟨.inr ⟨_, rfl, rs_even_v1_k0 N⟩, trivial⟩, trivial⟩) rfl rfl (le_of_ble rfl) (rs_even_v1_e N)
noncomputable def rs_Code_Row_c : Code := codeOf Try.f22.body
noncomputable def rs_Code_Row_J (N : Nat) : Nat → Hint := fun cx => hintOf cx [(0, { reg := fun k => assoc0 k [(1, ⟨⟨[(24, (.av (.one .bool)))], [(.keep, true), (.keep, true), (.keep, false), (.keep, false)]⟩, [], [], [.bool]⟩)], cnd := fun k => assoc0 k [], loop := fun k => assoc0 k [], nil := fun k => assoc0 k [], unr := fun k => assocN k [], blk := fun k => assoc0 k [] })]
noncomputable def rs_Code_Row_C (N : Nat) : Nat → List GS := fun k => tabOf k [(43, [rs_Code_parity_g N])]
def rs_Code_Row_o : List (Shp × List Nat) := [(⟨[(0, (.av (.one (.const (.slw 4 1)))))], [(.sh (.one (.int .i64)), true), (.sh (.one (.int .i64)), true), (.sh (.one (.const (.slw 3 1))), false), (.sh (.arr (.int .u8) none), false), (.sh (.arr (.int .u8) none), false)]⟩, [])]
noncomputable def rs_Code_Row_g (N : Nat) : GS := { ins := ⟨[(0, (.av (.one (.const (.ptr ⟨0, 0, 0, 0⟩))))), (1, (.av (.one (.int .i64))))], [(some (.one (.int .i64)), true), (some (.one (.int .i64)), true), (some (.one (.const (.slw 3 1))), false), (some (.arr (.int .u8) none), false)]⟩, lend := [.keep, .keep], outs := rs_Code_Row_o.map fun s => ssOf s.1, its := [.int, .int, .int, .lst (.int .u8)], ots := [[.int, .int, .lst (.int .u8), .lst (.int .u8)]], F := rs_Code_Row }
noncomputable def rs_Code_Row_CA (N : Nat) (f0 : Int × Int × Int × (List Int) → Option (Nat × Nat × Int × Int × (List Int))) : Nat → List GS := fun k => tabOf k [(43, [{ rs_Code_parity_g N with F := f0 }])]
theorem rs_Code_Row_CE (N : Nat) : rs_Code_Row_CA N (rs_Code_parity) = rs_Code_Row_C N := by kernel_rfl
theorem rs_Code_Row_t (N : Nat) : TabC Try.prog (rs_Code_Row_C N) := tab_ok ⟨⟨rs_Code_parity_ok N, trivial⟩, trivial⟩
theorem rs_Code_Row_i : loopsOf rs_Code_Row_c = [] := by kernel_rfl
noncomputable def rs_Code_Row_a (N : Nat) (f0 : Int × Int × Int × (List Int) → Option (Nat × Nat × Int × Int × (List Int))) (x : Int × Int × Int × (List Int)) : Option (Int × Int × (List Int) × (List Int)) :=
  (Option.bind
  (cond (decide (x.1 < (0 : Int)))
  (some true)
  (some (decide ((wrapF .i64 (x.2.1 + x.2.2.1)) ≤ x.1))))
  fun r4 =>
  (cond r4
  (some (x.2.1, x.2.2.1, x.2.2.2, ([] : List Int)))
  (cond ((decide ((0 : Int) ≤ x.2.1)) && (fits 1 (Int.toNat x.2.1)))
  ((let v5 : List Int := (List.replicate (Int.toNat x.2.1) (EK.dflt (.int .u8)))
  (cond (decide (x.1 < x.2.1))
  (cond ((decide ((0 : Int) ≤ x.1)) && (decide (x.1 < (((List.length v5) : Nat) : Int))))
  ((let v7 : Nat := (Int.toNat x.1)
  (cond (decide (v7 < (List.length v5)))
  ((some (x.2.1, x.2.2.1, x.2.2.2, (List.set v5 v7 (1 : Int)))))
  none)))
  none)
  (Option.bind (f0 ((wrapF .i64 (x.1 - x.2.1)), x.2.1, x.2.2.1, x.2.2.2)) fun r10 =>
  (cond ((decide ((r10.1 + r10.2.1) ≤ (List.length r10.2.2.2.2))) && (decide ((0 + (List.length v5)) ≤ (List.length v5))))
  ((some (r10.2.2.1, r10.2.2.2.1, r10.2.2.2.2, (List.take 0 v5 ++ List.take (min (List.length (List.take r10.2.1 (List.drop r10.1 r10.2.2.2.2))) (List.length v5)) (List.take r10.2.1 (List.drop r10.1 r10.2.2.2.2)) ++ List.drop (0 + (min (List.length (List.take r10.2.1 (List.drop r10.1 r10.2.2.2.2))) (List.length v5))) v5))))
  none)))))
  none)))
theorem rs_Code_Row_f (N : Nat) (f0 : Int × Int × Int × (List Int) → Option (Nat × Nat × Int × Int × (List Int))) (x) : rs_Code_Row_a N f0 x = fnStep Γ (rs_Code_Row_CA N f0) (rs_Code_Row_J N) 51 Try.f22.results.toList (rs_Code_Row_g N) rs_Code_Row_o rs_Code_Row_c x := by kernel_rfl
theorem rs_Code_Row_e (N : Nat) (x) : (rs_Code_Row_g N).F x = fnStep Γ (rs_Code_Row_C N) (rs_Code_Row_J N) 51 Try.f22.results.toList (rs_Code_Row_g N) rs_Code_Row_o rs_Code_Row_c x := by
  rw [← rs_Code_Row_CE N]
  exact Eq.trans (by kernel_rfl) (rs_Code_Row_f N (rs_Code_parity) x)
theorem rs_Code_Row_y : Try.f22.body = some rs_Code_Row_c := by kernel_rfl
theorem rs_Code_Row_n : (Try.f22.name == "runtime.NumGoroutine") = false := by kernel_rfl
theorem rs_Code_Row_ok (N : Nat) : FnDoes Try.prog 22 (rs_Code_Row_g N) := fn_ok tabOK (rs_Code_Row_t N) mixedOK (J := rs_Code_Row_J N) (body := rs_Code_Row_c) Try.func22 rs_Code_Row_y rs_Code_Row_n Try.ntmps22 (jok_from rs_Code_Row_i ⟨trivial, trivial⟩) rfl rfl (le_of_ble rfl) (rs_Code_Row_e N)
noncomputable def gf_side_c : Code := codeOf Try.f64.body
noncomputable def gf_side_J (N : Nat) : Nat → Hint := fun cx => hintOf cx [(0, { reg := fun k => assoc0 k [(1, ⟨⟨[(2, (.av (.one .bool)))], []⟩, [], [], [.bool]⟩)], cnd := fun k => assoc0 k [], loop := fun k => assoc0 k [], nil := fun k => assoc0 k [], unr := fun k => assocN k [], blk := fun k => assoc0 k [] })]
noncomputable def gf_side_C (N : Nat) : Nat → List GS := fun k => tabOf k []
def gf_side_o : List (Shp × List Nat) := [(⟨[(0, (.av (.one .bool)))], []⟩, [])]
noncomputable def gf_side_g (N : Nat) : GS := { ins := ⟨[(0, (.av (.one (.int .i64))))], []⟩, lend := [.keep], outs := gf_side_o.map fun s => ssOf s.1, its := [.int], ots := [[.bool]], F := gf_side }
theorem gf_side_t (N : Nat) : TabC Try.prog (gf_side_C N) := tab_ok trivial
theorem gf_side_i : loopsOf gf_side_c = [] := by kernel_rfl
theorem gf_side_e (N : Nat) (x) : (gf_side_g N).F x = fnStep Γ (gf_side_C N) (gf_side_J N) 9 Try.f64.results.toList (gf_side_g N) gf_side_o gf_side_c x := by kernel_rfl
theorem gf_side_y : Try.f64.body = some gf_side_c := by kernel_rfl
theorem gf_side_n : (Try.f64.name == "runtime.NumGoroutine") = false := by kernel_rfl
theorem gf_side_ok (N : Nat) : FnDoes Try.prog 64 (gf_side_g N) := fn_ok tabOK (gf_side_t N) mixedOK (J := gf_side_J N) (body := gf_side_c) Try.func64 gf_side_y gf_side_n Try.ntmps64 (jok_from gf_side_i ⟨trivial, trivial⟩) rfl rfl (le_of_ble rfl) (gf_side_e N)
noncomputable def gf_Check_c : Code := codeOf Try.f59.body
noncomputable def gf_Check_J (N : Nat) : Nat → Hint := fun cx => hintOf cx [(0, { reg := fun k => assoc0 k [(1, ⟨⟨[(3, (.av (.one .bool)))], [(.keep, true), (.keep, true), (.keep, false)]⟩, [], [], [.bool]⟩)], cnd := fun k => assoc0 k [], loop := fun k => assoc0 k [], nil := fun k => assoc0 k [], unr := fun k => assocN k [], blk := fun k => assoc0 k [] })]
noncomputable def gf_Check_C (N : Nat) : Nat → List GS := fun k => tabOf k [(64, [gf_side_g N])]
def gf_Check_o : List (Shp × List Nat) := [(⟨[(0, (.av (.one (.int .i64))))], []⟩, [])]
noncomputable def gf_Check_g (N : Nat) : GS := { ins := ⟨[(0, (.av (.agg [(.one (.int .i64)), (.one (.int .i64)), (.one (.rsl (.int .u8)))])))], []⟩, lend := [.keep], outs := gf_Check_o.map fun s => ssOf s.1, its := [.int, .int, .lst (.int .u8)], ots := [[.int]], F := gf_Check }
noncomputable def gf_Check_CA (N : Nat) (f0 : Int → Option (Bool)) : Nat → List GS := fun k => tabOf k [(64, [{ gf_side_g N with F := f0 }])]
theorem gf_Check_CE (N : Nat) : gf_Check_CA N (gf_side) = gf_Check_C N := by kernel_rfl
theorem gf_Check_t (N : Nat) : TabC Try.prog (gf_Check_C N) := tab_ok ⟨⟨gf_side_ok N, trivial⟩, trivial⟩
theorem gf_Check_i : loopsOf gf_Check_c = [] := by kernel_rfl
noncomputable def gf_Check_a (N : Nat) (f0 : Int → Option (Bool)) (x : Int × Int × (List Int)) : Option (Int) :=
  (Option.bind
  (Option.bind (f0 x.1) fun r1 =>
  (cond (!r1)
  (some true)
  (Option.bind (f0 x.2.1) fun r3 =>
  (some (!r3)))))
  fun r5 =>
  (cond r5
  (some (2 : Int))
  (cond (!(decide ((((List.length x.2.2) : Nat) : Int) = (wrapF .i64 (x.1 * x.2.1)))))
  (some (23 : Int))
  (some (0 : Int)))))
theorem gf_Check_f (N : Nat) (f0 : Int → Option (Bool)) (x) : gf_Check_a N f0 x = fnStep Γ (gf_Check_CA N f0) (gf_Check_J N) 24 Try.f59.results.toList (gf_Check_g N) gf_Check_o gf_Check_c x := by kernel_rfl
theorem gf_Check_e (N : Nat) (x) : (gf_Check_g N).F x = fnStep Γ (gf_Check_C N) (gf_Check_J N) 24 Try.f59.results.toList (gf_Check_g N) gf_Check_o gf_Check_c x := by
  rw [← gf_Check_CE N]
  exact Eq.trans (by kernel_rfl) (gf_Check_f N (gf_side) x)
theorem gf_Check_y : Try.f59.body = some gf_Check_c := by kernel_rfl
theorem gf_Check_n : (Try.f59.name == "runtime.NumGoroutine") = false := by kernel_rfl
theorem gf_Check_ok (N : Nat) : FnDoes Try.prog 59 (gf_Check_g N) := fn_ok tabOK (gf_Check_t N) mixedOK (J := gf_Check_J N) (body := gf_Check_c) Try.func59 gf_Check_y gf_Check_n Try.ntmps59 (jok_from gf_Check_i ⟨trivial, trivial⟩) rfl rfl (le_of_ble rfl) (gf_Check_e N)
noncomputable def gf_zeros_c : Code := codeOf Try.f65.body
noncomputable def gf_zeros_J (N : Nat) : Nat → Hint := fun cx => hintOf cx []
noncomputable def gf_zeros_C (N : Nat) : Nat → List GS := fun k => tabOf k []
def gf_zeros_o : List (Shp × List Nat) := [(⟨[(0, (.av (.agg [(.one (.int .i64)), (.one (.int .i64)), (.one (.const (.slw 0 1)))])))], [(.sh (.arr (.int .u8) none), false)]⟩, [])]
noncomputable def gf_zeros_g (N : Nat) : GS := { ins := ⟨[(0, (.av (.one (.int .i64)))), (1, (.av (.one (.int .i64))))], []⟩, lend := [.keep, .keep], outs := gf_zeros_o.map fun s => ssOf s.1, its := [.int, .int], ots := [[.int, .int, .lst (.int .u8)]], F := gf_zeros }
theorem gf_zeros_t (N : Nat) : TabC Try.prog (gf_zeros_C N) := tab_ok trivial
theorem gf_zeros_i : loopsOf gf_zeros_c = [] := by kernel_rfl
theorem gf_zeros_e (N : Nat) (x) : (gf_zeros_g N).F x = fnStep Γ (gf_zeros_C N) (gf_zeros_J N) 12 Try.f65.results.toList (gf_zeros_g N) gf_zeros_o gf_zeros_c x := by kernel_rfl
theorem gf_zeros_y : Try.f65.body = some gf_zeros_c := by kernel_rfl
theorem gf_zeros_n : (Try.f65.name == "runtime.NumGoroutine") = false := by kernel_rfl
theorem gf_zeros_ok (N : Nat) : FnDoes Try.prog 65 (gf_zeros_g N) := fn_ok tabOK (gf_zeros_t N) mixedOK (J := gf_zeros_J N) (body := gf_zeros_c) Try.func65 gf_zeros_y gf_zeros_n Try.ntmps65 (jok_from gf_zeros_i trivial) rfl rfl (le_of_ble rfl) (gf_zeros_e N)
noncomputable def gf_row_c : Code := codeOf Try.f66.body
noncomputable def gf_row_J (N : Nat) : Nat → Hint := fun cx => hintOf cx []
noncomputable def gf_row_C (N : Nat) : Nat → List GS := fun k => tabOf k []
def gf_row_o : List (Shp × List Nat) := [(⟨[(0, (.av (.one (.sl 0 1))))], [(.sh (.arr (.int .u8) none), false)]⟩, [])]
noncomputable def gf_row_g (N : Nat) : GS := { ins := ⟨[(0, (.av (.agg [(.one (.int .i64)), (.one (.int .i64)), (.one (.const (.slw 0 1)))]))), (1, (.av (.one (.int .i64))))], [(some (.arr (.int .u8) none), false)]⟩, lend := [.keep, .keep], outs := gf_row_o.map fun s => ssOf s.1, its := [.int, .int, .int, .lst (.int .u8)], ots := [[.nat, .nat, .lst (.int .u8)]], F := gf_row }
theorem gf_row_t (N : Nat) : TabC Try.prog (gf_row_C N) := tab_ok trivial
theorem gf_row_i : loopsOf gf_row_c = [] := by kernel_rfl
theorem gf_row_e (N : Nat) (x) : (gf_row_g N).F x = fnStep Γ (gf_row_C N) (gf_row_J N) 22 Try.f66.results.toList (gf_row_g N) gf_row_o gf_row_c x := by kernel_rfl
theorem gf_row_y : Try.f66.body = some gf_row_c := by kernel_rfl
theorem gf_row_n : (Try.f66.name == "runtime.NumGoroutine") = false := by kernel_rfl
theorem gf_row_ok (N : Nat) : FnDoes Try.prog 66 (gf_row_g N) := fn_ok tabOK (gf_row_t N) mixedOK (J := gf_row_J N) (body := gf_row_c) Try.func66 gf_row_y gf_row_n Try.ntmps66 (jok_from gf_row_i trivial) rfl rfl (le_of_ble rfl) (gf_row_e N)
noncomputable def gf_Identity_c : Code := codeOf Try.f60.body
noncomputable def gf_Identity_c0 : Code := codeOf (getLoop 0 gf_Identity_c)
def gf_Identity_d0 : LD := { ins := ⟨[(2, (.av (.one (.const (.ptr ⟨0, 0, 0, 0⟩))))), (4, (.av (.one (.const (.ptr ⟨4, 0, 0, 0⟩))))), (13, (.av (.one (.int .i64)))), (14, (.av (.one (.int .i64))))], [(.keep, false), (.keep, false), (.keep, false), (.sh (.arr (.int .u8) none), false), (.sh (.one (.int .i64)), true), (.sh (.one (.int .i64)), true), (.sh (.one (.const (.slw 3 1))), false)]⟩, mov := [], wr := [3, 4, 5, 6], outs := [(.exit 0, ⟨[], [(.keep, false), (.keep, false), (.keep, false), (.sh (.arr (.int .u8) none), false), (.sh (.one (.int .i64)), true), (.sh (.one (.int .i64)), true), (.sh (.one (.const (.slw 3 1))), false)]⟩)], its := [.int, .int, .lst (.int .u8), .int, .int], ots := [[.lst (.int .u8), .int, .int]] }
noncomputable def gf_Identity_J (N : Nat) : Nat → Hint := fun cx => hintOf cx [(0, { reg := fun k => assoc0 k [], cnd := fun k => assoc0 k [], loop := fun k => assoc0 k [(0, ⟨gf_Identity_d0, loopF (gf_Identity_b0 N) N⟩)], nil := fun k => assoc0 k [], unr := fun k => assocN k [], blk := fun k => assoc0 k [] })]
noncomputable def gf_Identity_C (N : Nat) : Nat → List GS := fun k => tabOf k [(64, [gf_side_g N]), (65, [gf_zeros_g N]), (66, [gf_row_g N])]
def gf_Identity_o : List (Shp × List Nat) := [(⟨[(0, (.tup [(.agg [(.one (.int .i64)), (.one (.int .i64)), (.one (.const (.slw 0 1)))]), (.one (.int .i64))]))], [(.sh (.arr (.int .u8) none), false)]⟩, [])]
noncomputable def gf_Identity_g (N : Nat) : GS := { ins := ⟨[(0, (.av (.one (.int .i64))))], []⟩, lend := [.keep], outs := gf_Identity_o.map fun s => ssOf s.1, its := [.int], ots := [[.int, .int, .int, .lst (.int .u8)]], F := gf_Identity N }
noncomputable def gf_Identity_CA (N : Nat) (f0 : Int → Option (Bool)) (f1 : Int × Int → Option (Int × Int × (List Int))) (f2 : Int × Int × Int × (List Int) → Option (Nat × Nat × (List Int))) : Nat → List GS := fun k => tabOf k [(64, [{ gf_side_g N with F := f0 }]), (65, [{ gf_zeros_g N with F := f1 }]), (66, [{ gf_row_g N with F := f2 }])]
theorem gf_Identity_CE (N : Nat) : gf_Identity_CA N (gf_side) (gf_zeros) (gf_row) = gf_Identity_C N := by kernel_rfl
theorem gf_Identity_t (N : Nat) : TabC Try.prog (gf_Identity_C N) := tab_ok ⟨⟨gf_side_ok N, trivial⟩, ⟨gf_zeros_ok N, trivial⟩, ⟨gf_row_ok N, trivial⟩, trivial⟩
theorem gf_Identity_i0 : loopsOf gf_Identity_c0 = [] := by kernel_rfl
noncomputable def gf_Identity_a0 (N : Nat) (f0 : Int → Option (Bool)) (f1 : Int × Int → Option (Int × Int × (List Int))) (f2 : Int × Int × Int × (List Int) → Option (Nat × Nat × (List Int))) (next : Int × Int × (List Int) × Int × Int → Option (((List Int) × Int × Int))) (x : Int × Int × (List Int) × Int × Int) : Option (((List Int) × Int × Int)) :=
  (cond (decide (x.2.1 < x.1))
  (Option.bind (f2 (x.2.2.2.1, x.2.2.2.2, x.2.1, x.2.2.1)) fun r2 =>
  (cond ((decide ((0 : Int) ≤ x.2.1)) && (decide (x.2.1 < ((r2.2.1 : Nat) : Int))))
  ((let v3 : Nat := ((Int.toNat x.2.1) + r2.1)
  (cond (decide (v3 < (List.length r2.2.2)))
  ((next (x.1, (wrapF .i64 (x.2.1 + (1 : Int))), (List.set r2.2.2 v3 (1 : Int)), x.2.2.2.1, x.2.2.2.2)))
  none)))
  none))
  (some (x.2.2.1, x.2.2.2.1, x.2.2.2.2)))
theorem gf_Identity_f0 (N : Nat) (f0 : Int → Option (Bool)) (f1 : Int × Int → Option (Int × Int × (List Int))) (f2 : Int × Int × Int × (List Int) → Option (Nat × Nat × (List Int))) (next) (x) : gf_Identity_a0 N f0 f1 f2 next x = loopStep Γ (gf_Identity_CA N f0 f1 f2) (gf_Identity_J N) 0 24 gf_Identity_d0 gf_Identity_c0 next x := by kernel_rfl
theorem gf_Identity_e0 (N : Nat) (next) (x) : gf_Identity_b0 N next x = loopStep Γ (gf_Identity_C N) (gf_Identity_J N) 0 24 gf_Identity_d0 gf_Identity_c0 next x := by
  rw [← gf_Identity_CE N]
  exact Eq.trans (by kernel_rfl) (gf_Identity_f0 N (gf_side) (gf_zeros) (gf_row) next x)
theorem gf_Identity_k0 (N : Nat) : LoopOK Try.prog 24 gf_Identity_c0 ⟨gf_Identity_d0, loopF (gf_Identity_b0 N) N⟩ := loop_ok tabOK (gf_Identity_t N) mixedOK (J := gf_Identity_J N) (cx := 0) (body := gf_Identity_c0) (nt := 24) (l := gf_Identity_d0) (b := gf_Identity_b0 N) (jok_from gf_Identity_i0 ⟨trivial, trivial⟩) (gf_Identity_e0 N) N
theorem gf_Identity_i : loopsOf gf_Identity_c = [(0, gf_Identity_c0)] := by kernel_rfl
noncomputable def gf_Identity_a (N : Nat) (f0 : Int → Option (Bool)) (f1 : Int × Int → Option (Int × Int × (List Int))) (f2 : Int × Int × Int × (List Int) → Option (Nat × Nat × (List Int))) (x : Int) : Option (Int × Int × Int × (List Int)) :=
  (Option.bind (f0 x) fun r1 =>
  (cond (!r1)
  (some ((0 : Int), (0 : Int), (2 : Int), ([] : List Int)))
  (Option.bind (f1 (x, x)) fun r3 =>
  (Option.bind (gf_Identity_l0 N (x, (0 : Int), r3.2.2, r3.1, r3.2.1)) fun r4 =>
  (some (r4.2.1, r4.2.2, (0 : Int), r4.1))))))
theorem gf_Identity_f (N : Nat) (f0 : Int → Option (Bool)) (f1 : Int × Int → Option (Int × Int × (List Int))) (f2 : Int × Int × Int × (List Int) → Option (Nat × Nat × (List Int))) (x) : gf_Identity_a N f0 f1 f2 x = fnStep Γ (gf_Identity_CA N f0 f1 f2) (gf_Identity_J N) 24 Try.f60.results.toList (gf_Identity_g N) gf_Identity_o gf_Identity_c x := by kernel_rfl
theorem gf_Identity_e (N : Nat) (x) : (gf_Identity_g N).F x = fnStep Γ (gf_Identity_C N) (gf_Identity_J N) 24 Try.f60.results.toList (gf_Identity_g N) gf_Identity_o gf_Identity_c x := by
  rw [← gf_Identity_CE N]
  exact Eq.trans (by kernel_rfl) (gf_Identity_f N (gf_side) (gf_zeros) (gf_row) x)
theorem gf_Identity_y : Try.f60.body = some gf_Identity_c := by kernel_rfl
theorem gf_Identity_n : (Try.f60.name == "runtime.NumGoroutine") = false := by kernel_rfl
theorem gf_Identity_ok (N : Nat) : FnDoes Try.prog 60 (gf_Identity_g N) := fn_ok tabOK (gf_Identity_t N) mixedOK (J := gf_Identity_J N) (body := gf_Identity_c) Try.func60 gf_Identity_y gf_Identity_n Try.ntmps60 (jok_from gf_Identity_i ⟨⟨.inr ⟨_, rfl, gf_Identity_k0 N⟩, trivial⟩, trivial⟩) rfl rfl (le_of_ble rfl) (gf_Identity_e N)
noncomputable def slices_Clone_byte_byte_c : Code := codeOf Try.f68.body
noncomputable def slices_Clone_byte_byte_J (N : Nat) : Nat → Hint := fun cx => hintOf cx []
noncomputable def slices_Clone_byte_byte_C (N : Nat) : Nat → List GS := fun k => tabOf k []
def slices_Clone_byte_byte_o : List (Shp × List Nat) := [(⟨[(0, (.av (.one (.const (.slw 0 1)))))], [(.sh (.arr (.int .u8) none), false)]⟩, [])]
noncomputable def slices_Clone_byte_byte_g (N : Nat) : GS := { ins := ⟨[(0, (.av (.one (.rsl (.int .u8)))))], []⟩, lend := [.keep], outs := slices_Clone_byte_byte_o.map fun s => ssOf s.1, its := [.lst (.int .u8)], ots := [[.lst (.int .u8)]], F := slices_Clone_byte_byte }
theorem slices_Clone_byte_byte_t (N : Nat) : TabC Try.prog (slices_Clone_byte_byte_C N) := tab_ok trivial
theorem slices_Clone_byte_byte_i : loopsOf slices_Clone_byte_byte_c = [] := by kernel_rfl
theorem slices_Clone_byte_byte_e (N : Nat) (x) : (slices_Clone_byte_byte_g N).F x = fnStep Γ (slices_Clone_byte_byte_C N) (slices_Clone_byte_byte_J N) 8 Try.f68.results.toList (slices_Clone_byte_byte_g N) slices_Clone_byte_byte_o slices_Clone_byte_byte_c x := by kernel_rfl
theorem slices_Clone_byte_byte_y : Try.f68.body = some slices_Clone_byte_byte_c := by kernel_rfl
theorem slices_Clone_byte_byte_n : (Try.f68.name == "runtime.NumGoroutine") = false := by kernel_rfl
theorem slices_Clone_byte_byte_ok (N : Nat) : FnDoes Try.prog 68 (slices_Clone_byte_byte_g N) := fn_ok tabOK (slices_Clone_byte_byte_t N) mixedOK (J := slices_Clone_byte_byte_J N) (body := slices_Clone_byte_byte_c) Try.func68 slices_Clone_byte_byte_y slices_Clone_byte_byte_n Try.ntmps68 (jok_from slices_Clone_byte_byte_i trivial) rfl rfl (le_of_ble rfl) (slices_Clone_byte_byte_e N)
noncomputable def gf_own_c : Code := codeOf Try.f62.body
noncomputable def gf_own_J (N : Nat) : Nat → Hint := fun cx => hintOf cx []
noncomputable def gf_own_C (N : Nat) : Nat → List GS := fun k => tabOf k [(68, [slices_Clone_byte_byte_g N])]
def gf_own_o : List (Shp × List Nat) := [(⟨[(0, (.av (.agg [(.one (.int .i64)), (.one (.int .i64)), (.one (.const (.slw 0 1)))])))], [(.sh (.arr (.int .u8) none), false)]⟩, [])]
noncomputable def gf_own_g (N : Nat) : GS := { ins := ⟨[(0, (.av (.agg [(.one (.int .i64)), (.one (.int .i64)), (.one (.rsl (.int .u8)))])))], []⟩, lend := [.keep], outs := gf_own_o.map fun s => ssOf s.1, its := [.int, .int, .lst (.int .u8)], ots := [[.int, .int, .lst (.int .u8)]], F := gf_own }
noncomputable def gf_own_CA (N : Nat) (f0 : (List Int) → Option ((List Int))) : Nat → List GS := fun k => tabOf k [(68, [{ slices_Clone_byte_byte_g N with F := f0 }])]
theorem gf_own_CE (N : Nat) : gf_own_CA N (slices_Clone_byte_byte) = gf_own_C N := by kernel_rfl
theorem gf_own_t (N : Nat) : TabC Try.prog (gf_own_C N) := tab_ok ⟨⟨slices_Clone_byte_byte_ok N, trivial⟩, trivial⟩
theorem gf_own_i : loopsOf gf_own_c = [] := by kernel_rfl
noncomputable def gf_own_a (N : Nat) (f0 : (List Int) → Option ((List Int))) (x : Int × Int × (List Int)) : Option (Int × Int × (List Int)) :=
  (Option.bind (f0 x.2.2) fun r1 =>
  (some (x.1, x.2.1, r1)))
theorem gf_own_f (N : Nat) (f0 : (List Int) → Option ((List Int))) (x) : gf_own_a N f0 x = fnStep Γ (gf_own_CA N f0) (gf_own_J N) 8 Try.f62.results.toList (gf_own_g N) gf_own_o gf_own_c x := by kernel_rfl
theorem gf_own_e (N : Nat) (x) : (gf_own_g N).F x = fnStep Γ (gf_own_C N) (gf_own_J N) 8 Try.f62.results.toList (gf_own_g N) gf_own_o gf_own_c x := by
  rw [← gf_own_CE N]
  exact Eq.trans (by kernel_rfl) (gf_own_f N (slices_Clone_byte_byte) x)
theorem gf_own_y : Try.f62.body = some gf_own_c := by kernel_rfl
theorem gf_own_n : (Try.f62.name == "runtime.NumGoroutine") = false := by kernel_rfl
theorem gf_own_ok (N : Nat) : FnDoes Try.prog 62 (gf_own_g N) := fn_ok tabOK (gf_own_t N) mixedOK (J := gf_own_J N) (body := gf_own_c) Try.func62 gf_own_y gf_own_n Try.ntmps62 (jok_from gf_own_i trivial) rfl rfl (le_of_ble rfl) (gf_own_e N)
noncomputable def gf_Scale_v1_c : Code := codeOf Try.f47.body
noncomputable def gf_Scale_v1_c0 : Code := codeOf (getLoop 0 gf_Scale_v1_c)
def gf_Scale_v1_d0 : LD := { ins := ⟨[(0, (.av (.one (.int .u8)))), (5, (.av (.one (.const (.slw 0 1))))), (11, (.av (.one (.rsl (.int .u8))))), (12, (.av (.one (.int .i64)))), (13, (.av (.one (.int .i64))))], [(.sh (.arr (.int .u8) none), false)]⟩, mov := [], wr := [0], outs := [(.exit 0, ⟨[], [(.sh (.arr (.int .u8) none), false)]⟩)], its := [.int, .lst (.int .u8), .int, .int, .lst (.int .u8)], ots := [[.lst (.int .u8)]] }
noncomputable def gf_Scale_v1_J (N : Nat) : Nat → Hint := fun cx => hintOf cx [(0, { reg := fun k => assoc0 k [], cnd := fun k => assoc0 k [], loop := fun k => assoc0 k [(0, ⟨gf_Scale_v1_d0, loopF (gf_Scale_v1_b0 N) N⟩)], nil := fun k => assoc0 k [], unr := fun k => assocN k [], blk := fun k => assoc0 k [] })]
noncomputable def gf_Scale_v1_C (N : Nat) : Nat → List GS := fun k => tabOf k [(57, [gf_Mul_g N])]
def gf_Scale_v1_o : List (Shp × List Nat) := [(⟨[(0, (.av (.one (.const (.slw 0 1)))))], [(.sh (.arr (.int .u8) none), false)]⟩, [])]
noncomputable def gf_Scale_v1_g (N : Nat) : GS := { ins := ⟨[(0, (.av (.one (.int .u8)))), (1, (.av (.one (.rsl (.int .u8)))))], []⟩, lend := [.keep, .lend (.int .u8)], outs := gf_Scale_v1_o.map fun s => ssOf s.1, its := [.int, .lst (.int .u8)], ots := [[.lst (.int .u8)]], F := gf_Scale_v1 N }
noncomputable def gf_Scale_v1_CA (N : Nat) (f0 : Int × Int → Option (Int)) : Nat → List GS := fun k => tabOf k [(57, [{ gf_Mul_g N with F := f0 }])]
theorem gf_Scale_v1_CE (N : Nat) : gf_Scale_v1_CA N (gf_Mul N) = gf_Scale_v1_C N := by kernel_rfl
theorem gf_Scale_v1_t (N : Nat) : TabC Try.prog (gf_Scale_v1_C N) := tab_ok ⟨⟨gf_Mul_ok N, trivial⟩, trivial⟩
theorem gf_Scale_v1_i0 : loopsOf gf_Scale_v1_c0 = [] := by kernel_rfl
noncomputable def gf_Scale_v1_a0 (N : Nat) (f0 : Int × Int → Option (Int)) (next : Int × (List Int) × Int × Int × (List Int) → Option (((List Int)))) (x : Int × (List Int) × Int × Int × (List Int)) : Option (((List Int))) :=
  (cond (decide (x.2.2.2.1 < x.2.2.1))
  (cond ((decide ((0 : Int) ≤ x.2.2.2.1)) && (decide (x.2.2.2.1 < (((List.length x.2.1) : Nat) : Int))))
  ((Option.bind (f0 (x.1, (List.getD x.2.1 (Int.toNat x.2.2.2.1) (EK.dflt (.int .u8))))) fun r3 =>
  (cond ((decide ((0 : Int) ≤ x.2.2.2.1)) && (decide (x.2.2.2.1 < (((List.length x.2.2.2.2) : Nat) : Int))))
  ((let v4 : Nat := (Int.toNat x.2.2.2.1)
  (cond (decide (v4 < (List.length x.2.2.2.2)))
  ((next (x.1, x.2.1, x.2.2.1, (wrapF .i64 (x.2.2.2.1 + (1 : Int))), (List.set x.2.2.2.2 v4 r3))))
  none)))
  none)))
  none)
  (some x.2.2.2.2))
theorem gf_Scale_v1_f0 (N : Nat) (f0 : Int × Int → Option (Int)) (next) (x) : gf_Scale_v1_a0 N f0 next x = loopStep Γ (gf_Scale_v1_CA N f0) (gf_Scale_v1_J N) 0 26 gf_Scale_v1_d0 gf_Scale_v1_c0 next x := by kernel_rfl
theorem gf_Scale_v1_e0 (N : Nat) (next) (x) : gf_Scale_v1_b0 N next x = loopStep Γ (gf_Scale_v1_C N) (gf_Scale_v1_J N) 0 26 gf_Scale_v1_d0 gf_Scale_v1_c0 next x := by
  rw [← gf_Scale_v1_CE N]
  exact Eq.trans (by kernel_rfl) (gf_Scale_v1_f0 N (gf_Mul N) next x)
theorem gf_Scale_v1_k0 (N : Nat) : LoopOK Try.prog 26 gf_Scale_v1_c0 ⟨gf_Scale_v1_d0, loopF (gf_Scale_v1_b0 N) N⟩ := loop_ok tabOK (gf_Scale_v1_t N) mixedOK (J := gf_Scale_v1_J N) (cx := 0) (body := gf_Scale_v1_c0) (nt := 26) (l := gf_Scale_v1_d0) (b := gf_Scale_v1_b0 N) (jok_from gf_Scale_v1_i0 ⟨trivial, trivial⟩) (gf_Scale_v1_e0 N) N
theorem gf_Scale_v1_i : loopsOf gf_Scale_v1_c = [(0, gf_Scale_v1_c0)] := by kernel_rfl
noncomputable def gf_Scale_v1_a (N : Nat) (f0 : Int × Int → Option (Int)) (x : Int × (List Int)) : Option ((List Int)) :=
  (let v1 : Int := (((List.length x.2) : Nat) : Int)
  (cond ((decide ((0 : Int) ≤ v1)) && (fits 1 (Int.toNat v1)))
  ((Option.bind (gf_Scale_v1_l0 N (x.1, x.2, (((List.length x.2) : Nat) : Int), (0 : Int), (List.replicate (Int.toNat v1) (EK.dflt (.int .u8))))) fun r4 =>
  (some r4)))
  none))
theorem gf_Scale_v1_f (N : Nat) (f0 : Int × Int → Option (Int)) (x) : gf_Scale_v1_a N f0 x = fnStep Γ (gf_Scale_v1_CA N f0) (gf_Scale_v1_J N) 26 Try.f47.results.toList (gf_Scale_v1_g N) gf_Scale_v1_o gf_Scale_v1_c x := by kernel_rfl
theorem gf_Scale_v1_e (N : Nat) (x) : (gf_Scale_v1_g N).F x = fnStep Γ (gf_Scale_v1_C N) (gf_Scale_v1_J N) 26 Try.f47.results.toList (gf_Scale_v1_g N) gf_Scale_v1_o gf_Scale_v1_c x := by
  rw [← gf_Scale_v1_CE N]
  exact Eq.trans (by kernel_rfl) (gf_Scale_v1_f N (gf_Mul N) x)
theorem gf_Scale_v1_y : Try.f47.body = some gf_Scale_v1_c := by kernel_rfl
theorem gf_Scale_v1_n : (Try.f47.name == "runtime.NumGoroutine") = false := by kernel_rfl
theorem gf_Scale_v1_ok (N : Nat) : FnDoes Try.prog 47 (gf_Scale_v1_g N) := fn_ok tabOK (gf_Scale_v1_t N) mixedOK (J := gf_Scale_v1_J N) (body := gf_Scale_v1_c) Try.func47 gf_Scale_v1_y gf_Scale_v1_n Try.ntmps47 (jok_from gf_Scale_v1_i ⟨⟨.inr ⟨_, rfl, gf_Scale_v1_k0 N⟩, trivial⟩, trivial⟩) rfl rfl (le_of_ble rfl) (gf_Scale_v1_e N)
noncomputable def gf_add_c : Code := codeOf Try.f67.body
noncomputable def gf_add_c0 : Code := codeOf (getLoop 0 gf_add_c)
def gf_add_d0 : LD := { ins := ⟨[(0, (.av (.one (.sl 0 1)))), (1, (.av (.one (.int .u8)))), (10, (.av (.one (.sl 0 1)))), (11, (.av (.one (.int .i64)))), (12, (.av (.one (.int .i64))))], [(.sh (.arr (.int .u8) none), false)]⟩, mov := [], wr := [0], outs := [(.exit 0, ⟨[], [(.sh (.arr (.int .u8) none), false)]⟩)], its := [.nat, .nat, .int, .nat, .nat, .int, .int, .lst (.int .u8)], ots := [[.lst (.int .u8)]] }
noncomputable def gf_add_J (N : Nat) : Nat → Hint := fun cx => hintOf cx [(0, { reg := fun k => assoc0 k [], cnd := fun k => assoc0 k [], loop := fun k => assoc0 k [(0, ⟨gf_add_d0, loopF (gf_add_b0 N) N⟩)], nil := fun k => assoc0 k [], unr := fun k => assocN k [], blk := fun k => assoc0 k [] })]
noncomputable def gf_add_C (N : Nat) : Nat → List GS := fun k => tabOf k [(57, [gf_Mul_g N])]
def gf_add_o : List (Shp × List Nat) := [(⟨[(0, (.tup []))], [(.sh (.arr (.int .u8) none), false)]⟩, [])]
noncomputable def gf_add_g (N : Nat) : GS := { ins := ⟨[(0, (.av (.one (.sl 0 1)))), (1, (.av (.one (.int .u8)))), (2, (.av (.one (.sl 0 1))))], [(some (.arr (.int .u8) none), false)]⟩, lend := [.keep, .keep, .keep], outs := gf_add_o.map fun s => ssOf s.1, its := [.nat, .nat, .int, .nat, .nat, .lst (.int .u8)], ots := [[.lst (.int .u8)]], F := gf_add N }
noncomputable def gf_add_CA (N : Nat) (f0 : Int × Int → Option (Int)) : Nat → List GS := fun k => tabOf k [(57, [{ gf_Mul_g N with F := f0 }])]
theorem gf_add_CE (N : Nat) : gf_add_CA N (gf_Mul N) = gf_add_C N := by kernel_rfl
theorem gf_add_t (N : Nat) : TabC Try.prog (gf_add_C N) := tab_ok ⟨⟨gf_Mul_ok N, trivial⟩, trivial⟩
theorem gf_add_i0 : loopsOf gf_add_c0 = [] := by kernel_rfl
noncomputable def gf_add_a0 (N : Nat) (f0 : Int × Int → Option (Int)) (next : Nat × Nat × Int × Nat × Nat × Int × Int × (List Int) → Option (((List Int)))) (x : Nat × Nat × Int × Nat × Nat × Int × Int × (List Int)) : Option (((List Int))) :=
  (cond (decide (x.2.2.2.2.2.2.1 < x.2.2.2.2.2.1))
  (cond ((decide ((0 : Int) ≤ x.2.2.2.2.2.2.1)) && (decide (x.2.2.2.2.2.2.1 < ((x.2.2.2.2.1 : Nat) : Int))))
  ((let v2 : Nat := ((Int.toNat x.2.2.2.2.2.2.1) + x.2.2.2.1)
  (cond (decide (v2 < (List.length x.2.2.2.2.2.2.2)))
  ((cond ((decide ((0 : Int) ≤ x.2.2.2.2.2.2.1)) && (decide (x.2.2.2.2.2.2.1 < ((x.2.1 : Nat) : Int))))
  ((let v4 : Nat := ((Int.toNat x.2.2.2.2.2.2.1) + x.1)
  (cond (decide (v4 < (List.length x.2.2.2.2.2.2.2)))
  ((Option.bind (f0 (x.2.2.1, (List.getD x.2.2.2.2.2.2.2 v2 (EK.dflt (.int .u8))))) fun r6 =>
  (cond ((decide ((0 : Int) ≤ x.2.2.2.2.2.2.1)) && (decide (x.2.2.2.2.2.2.1 < ((x.2.1 : Nat) : Int))))
  ((let v8 : Nat := ((Int.toNat x.2.2.2.2.2.2.1) + x.1)
  (cond (decide (v8 < (List.length x.2.2.2.2.2.2.2)))
  ((next (x.1, x.2.1, x.2.2.1, x.2.2.2.1, x.2.2.2.2.1, x.2.2.2.2.2.1, (wrapF .i64 (x.2.2.2.2.2.2.1 + (1 : Int))), (List.set x.2.2.2.2.2.2.2 v8 (xorF .u8 (List.getD x.2.2.2.2.2.2.2 v4 (EK.dflt (.int .u8))) r6)))))
  none)))
  none)))
  none)))
  none))
  none)))
  none)
  (some x.2.2.2.2.2.2.2))
theorem gf_add_f0 (N : Nat) (f0 : Int × Int → Option (Int)) (next) (x) : gf_add_a0 N f0 next x = loopStep Γ (gf_add_CA N f0) (gf_add_J N) 0 27 gf_add_d0 gf_add_c0 next x := by kernel_rfl
theorem gf_add_e0 (N : Nat) (next) (x) : gf_add_b0 N next x = loopStep Γ (gf_add_C N) (gf_add_J N) 0 27 gf_add_d0 gf_add_c0 next x := by
  rw [← gf_add_CE N]
  exact Eq.trans (by kernel_rfl) (gf_add_f0 N (gf_Mul N) next x)
theorem gf_add_k0 (N : Nat) : LoopOK Try.prog 27 gf_add_c0 ⟨gf_add_d0, loopF (gf_add_b0 N) N⟩ := loop_ok tabOK (gf_add_t N) mixedOK (J := gf_add_J N) (cx := 0) (body := gf_add_c0) (nt := 27) (l := gf_add_d0) (b := gf_add_b0 N) (jok_from gf_add_i0 ⟨trivial, trivial⟩) (gf_add_e0 N) N
theorem gf_add_i : loopsOf gf_add_c = [(0, gf_add_c0)] := by kernel_rfl
noncomputable def gf_add_a (N : Nat) (f0 : Int × Int → Option (Int)) (x : Nat × Nat × Int × Nat × Nat × (List Int)) : Option ((List Int)) :=
  (cond (decide (x.2.2.1 = (0 : Int)))
  (some x.2.2.2.2.2)
  (Option.bind (gf_add_l0 N (x.1, x.2.1, x.2.2.1, x.2.2.2.1, x.2.2.2.2.1, ((x.2.2.2.2.1 : Nat) : Int), (0 : Int), x.2.2.2.2.2)) fun r3 =>
  (some r3)))
theorem gf_add_f (N : Nat) (f0 : Int × Int → Option (Int)) (x) : gf_add_a N f0 x = fnStep Γ (gf_add_CA N f0) (gf_add_J N) 27 Try.f67.results.toList (gf_add_g N) gf_add_o gf_add_c x := by kernel_rfl
theorem gf_add_e (N : Nat) (x) : (gf_add_g N).F x = fnStep Γ (gf_add_C N) (gf_add_J N) 27 Try.f67.results.toList (gf_add_g N) gf_add_o gf_add_c x := by
  rw [← gf_add_CE N]
  exact Eq.trans (by kernel_rfl) (gf_add_f N (gf_Mul N) x)
theorem gf_add_y : Try.f67.body = some gf_add_c := by kernel_rfl
theorem gf_add_n : (Try.f67.name == "runtime.NumGoroutine") = false := by kernel_rfl
theorem gf_add_ok (N : Nat) : FnDoes Try.prog 67 (gf_add_g N) := fn_ok tabOK (gf_add_t N) mixedOK (J := gf_add_J N) (body := gf_add_c) Try.func67 gf_add_y gf_add_n Try.ntmps67 (jok_from gf_add_i ⟨⟨.inr ⟨_, rfl, gf_add_k0 N⟩, trivial⟩, trivial⟩) rfl rfl (le_of_ble rfl) (gf_add_e N)
noncomputable def gf_clear2_c : Code := codeOf Try.f61.body
noncomputable def gf_clear2_c0 : Code := codeOf (getLoop 0 gf_clear2_c)
noncomputable def gf_clear2_c2 : Code := codeOf (getLoop 2 gf_clear2_c)
noncomputable def gf_clear2_c6 : Code := codeOf (getLoop 6 gf_clear2_c)
noncomputable def gf_clear2_c8 : Code := codeOf (getLoop 8 gf_clear2_c)
def gf_clear2_d2 : LD := { ins := ⟨[(2, (.av (.one (.const (.ptr ⟨2, 0, 0, 0⟩))))), (3, (.av (.one (.const (.ptr ⟨5, 0, 0, 0⟩))))), (5, (.av (.one (.int .i64)))), (6, (.av (.one (.int .i64)))), (7, (.av (.one (.int .i64)))), (18, (.av (.one (.int .i64)))), (19, (.av (.one (.int .i64))))], [(.sh (.arr (.int .u8) none), false), (.keep, false), (.sh (.one (.int .i64)), true), (.sh (.one (.int .i64)), true), (.sh (.one (.const (.slw 0 1))), false), (.keep, false), (.keep, false), (.keep, false)]⟩, mov := [], wr := [0, 2, 3, 4], outs := [(.exit 2, ⟨[(7, (.av (.one (.int .i64))))], [(.sh (.arr (.int .u8) none), false), (.keep, false), (.sh (.one (.int .i64)), true), (.sh (.one (.int .i64)), true), (.sh (.one (.const (.slw 0 1))), false), (.keep, false), (.keep, false), (.keep, false)]⟩)], its := [.int, .int, .int, .int, .int, .lst (.int .u8), .int, .int], ots := [[.int, .lst (.int .u8), .int, .int]] }
def gf_clear2_d6_1 : LD := { ins := ⟨[(2, (.av (.one (.const (.ptr ⟨2, 0, 0, 0⟩))))), (3, (.av (.one (.const (.ptr ⟨5, 0, 0, 0⟩))))), (5, (.av (.one (.int .i64)))), (6, (.av (.one (.int .i64)))), (7, (.av (.one (.int .i64)))), (8, (.av (.one (.int .u8)))), (12, (.av (.one (.sl 0 1)))), (13, (.av (.one (.sl 0 1)))), (18, (.av (.one (.int .i64)))), (19, (.av (.one (.int .i64)))), (54, (.av (.one (.sl 8 3)))), (55, (.av (.one (.const (.int .i64 (2 : Int)))))), (56, (.av (.one (.const (.int .i64 (0 : Int)))))), (70, (.av (.one (.int .i64)))), (71, (.av (.one (.int .i64))))], [(.sh (.arr (.int .u8) none), false), (.keep, false), (.keep, false), (.keep, false), (.keep, false), (.keep, false), (.keep, false), (.keep, false), (.keep, false), (.keep, false), (.keep, false), (.keep, false)]⟩, mov := [], wr := [0], outs := [(.exit 6, ⟨[], [(.sh (.arr (.int .u8) none), false), (.keep, false), (.keep, false), (.keep, false), (.keep, false), (.keep, false), (.keep, false), (.keep, false), (.keep, false), (.keep, false), (.keep, false), (.keep, false)]⟩)], its := [.int, .int, .int, .int, .nat, .nat, .nat, .nat, .int, .int, .nat, .nat, .int, .int, .lst (.int .u8)], ots := [[.lst (.int .u8)]] }
def gf_clear2_d6_2 : LD := { ins := ⟨[(2, (.av (.one (.const (.ptr ⟨2, 0, 0, 0⟩))))), (3, (.av (.one (.const (.ptr ⟨5, 0, 0, 0⟩))))), (5, (.av (.one (.int .i64)))), (6, (.av (.one (.int .i64)))), (7, (.av (.one (.int .i64)))), (8, (.av (.one (.int .u8)))), (12, (.av (.one (.sl 1 1)))), (13, (.av (.one (.sl 1 1)))), (18, (.av (.one (.int .i64)))), (19, (.av (.one (.int .i64)))), (54, (.av (.one (.sl 8 3)))), (55, (.av (.one (.const (.int .i64 (2 : Int)))))), (56, (.av (.one (.const (.int .i64 (1 : Int)))))), (70, (.av (.one (.int .i64)))), (71, (.av (.one (.int .i64))))], [(.keep, false), (.sh (.arr (.int .u8) none), false), (.keep, false), (.keep, false), (.keep, false), (.keep, false), (.keep, false), (.keep, false), (.keep, false), (.keep, false), (.keep, false), (.keep, false)]⟩, mov := [], wr := [1], outs := [(.exit 6, ⟨[], [(.keep, false), (.sh (.arr (.int .u8) none), false), (.keep, false), (.keep, false), (.keep, false), (.keep, false), (.keep, false), (.keep, false), (.keep, false), (.keep, false), (.keep, false), (.keep, false)]⟩)], its := [.int, .int, .int, .int, .nat, .nat, .nat, .nat, .int, .int, .nat, .nat, .int, .int, .lst (.int .u8)], ots := [[.lst (.int .u8)]] }
def gf_clear2_d8 : LD := { ins := ⟨[(2, (.av (.one (.const (.ptr ⟨2, 0, 0, 0⟩))))), (3, (.av (.one (.const (.ptr ⟨5, 0, 0, 0⟩))))), (5, (.av (.one (.int .i64)))), (6, (.av (.one (.int .i64)))), (18, (.av (.one (.int .i64)))), (19, (.av (.one (.int .i64)))), (96, (.av (.one (.int .i64)))), (97, (.av (.one (.int .i64))))], [(.sh (.arr (.int .u8) none), false), (.sh (.arr (.int .u8) none), false), (.sh (.one (.int .i64)), true), (.sh (.one (.int .i64)), true), (.sh (.one (.const (.slw 0 1))), false), (.sh (.one (.int .i64)), true), (.sh (.one (.int .i64)), true), (.sh (.one (.const (.slw 1 1))), false), (.keep, false)]⟩, mov := [], wr := [0, 1, 2, 3, 4, 5, 6, 7], outs := [(.exit 8, ⟨[], [(.sh (.arr (.int .u8) none), false), (.sh (.arr (.int .u8) none), false), (.sh (.one (.int .i64)), true), (.sh (.one (.int .i64)), true), (.sh (.one (.const (.slw 0 1))), false), (.sh (.one (.int .i64)), true), (.sh (.one (.int .i64)), true), (.sh (.one (.const (.slw 1 1))), false), (.keep, false)]⟩)], its := [.int, .int, .int, .int, .int, .int, .lst (.int .u8), .lst (.int .u8), .int, .int, .int, .int], ots := [[.lst (.int .u8), .lst (.int .u8), .int, .int, .int, .int]] }
def gf_clear2_d0 : LD := { ins := ⟨[(2, (.av (.one (.const (.ptr ⟨2, 0, 0, 0⟩))))), (3, (.av (.one (.const (.ptr ⟨5, 0, 0, 0⟩))))), (5, (.av (.one (.int .i64)))), (18, (.av (.one (.int .i64)))), (19, (.av (.one (.int .i64))))], [(.sh (.arr (.int .u8) none), false), (.sh (.arr (.int .u8) none), false), (.sh (.one (.int .i64)), true), (.sh (.one (.int .i64)), true), (.sh (.one (.const (.slw 0 1))), false), (.sh (.one (.int .i64)), true), (.sh (.one (.int .i64)), true), (.sh (.one (.const (.slw 1 1))), false)]⟩, mov := [], wr := [0, 1, 2, 3, 4, 5, 6, 7], outs := [(.exit 0, ⟨[(5, (.av (.one (.int .i64))))], [(.sh (.arr (.int .u8) none), false), (.sh (.arr (.int .u8) none), false), (.sh (.one (.int .i64)), true), (.sh (.one (.int .i64)), true), (.sh (.one (.const (.slw 0 1))), false), (.sh (.one (.int .i64)), true), (.sh (.one (.int .i64)), true), (.sh (.one (.const (.slw 1 1))), false)]⟩)], its := [.int, .int, .int, .lst (.int .u8), .lst (.int .u8), .int, .int, .int, .int], ots := [[.int, .lst (.int .u8), .lst (.int .u8), .int, .int, .int, .int]] }
noncomputable def gf_clear2_J (N : Nat) : Nat → Hint := fun cx => hintOf cx [(0, { reg := fun k => assoc0 k [(6, ⟨⟨[(35, (.av (.one .bool)))], [(.sh (.arr (.int .u8) none), false), (.dead, false), (.keep, true), (.keep, true), (.keep, false), (.dead, false), (.dead, false), (.dead, false)]⟩, [], [0], [.bool, .lst (.int .u8)]⟩)], cnd := fun k => assoc0 k [(119, ⟨[], [1], [(.normal, ⟨[], [(.keep, false), (.sh (.arr (.int .u8) none), false), (.keep, true), (.keep, true), (.keep, false), (.keep, true), (.keep, true), (.keep, false), (.dead, false)]⟩)], [[.lst (.int .u8)]]⟩), (102, ⟨[], [0, 1], [(.normal, ⟨[], [(.sh (.arr (.int .u8) none), false), (.sh (.arr (.int .u8) none), false), (.keep, true), (.keep, true), (.keep, false), (.keep, true), (.keep, true), (.keep, false), (.dead, false)]⟩)], [[.lst (.int .u8), .lst (.int .u8)]]⟩)], loop := fun k => assoc0 k [(2, ⟨gf_clear2_d2, loopF (gf_clear2_b2 N) N⟩), (8, ⟨gf_clear2_d8, loopF (gf_clear2_b8 N) N⟩), (0, ⟨gf_clear2_d0, loopF (gf_clear2_b0 N) N⟩)], nil := fun k => assoc0 k [], unr := fun k => assocN k [(4, 3)], blk := fun k => assoc0 k [(1, ⟨[], [0, 1, 2, 3, 4, 5, 6, 7], [(.normal, ⟨[(5, (.av (.one (.int .i64))))], [(.sh (.arr (.int .u8) none), false), (.sh (.arr (.int .u8) none), false), (.sh (.one (.int .i64)), true), (.sh (.one (.int .i64)), true), (.sh (.one (.const (.slw 0 1))), false), (.sh (.one (.int .i64)), true), (.sh (.one (.int .i64)), true), (.sh (.one (.const (.slw 1 1))), false)]⟩)], [[.int, .lst (.int .u8), .lst (.int .u8), .int, .int, .int, .int]]⟩)] }),
  (1, { reg := fun k => assoc0 k [], cnd := fun k => assoc0 k [], loop := fun k => assoc0 k [(6, ⟨gf_clear2_d6_1, loopF (gf_clear2_b6_1 N) N⟩)], nil := fun k => assoc0 k [], unr := fun k => assocN k [], blk := fun k => assoc0 k [(5, ⟨[], [0], [(.normal, ⟨[], [(.sh (.arr (.int .u8) none), false), (.keep, false), (.keep, true), (.keep, true), (.keep, false), (.keep, true), (.keep, true), (.keep, false), (.keep, false)]⟩)], [[.lst (.int .u8)]]⟩)] }),
  (2, { reg := fun k => assoc0 k [], cnd := fun k => assoc0 k [], loop := fun k => assoc0 k [(6, ⟨gf_clear2_d6_2, loopF (gf_clear2_b6_2 N) N⟩)], nil := fun k => assoc0 k [], unr := fun k => assocN k [], blk := fun k => assoc0 k [(5, ⟨[], [1], [(.normal, ⟨[], [(.keep, false), (.sh (.arr (.int .u8) none), false), (.keep, true), (.keep, true), (.keep, false), (.keep, true), (.keep, true), (.keep, false), (.keep, false)]⟩)], [[.lst (.int .u8)]]⟩)] })]
noncomputable def gf_clear2_C (N : Nat) : Nat → List GS := fun k => tabOf k [(66, [gf_row_g N]), (49, [gf_Inv_g N]), (47, [gf_Scale_v1_g N]), (67, [gf_add_g N])]
def gf_clear2_o : List (Shp × List Nat) := [(⟨[(0, (.av (.one (.int .i64))))], [(.sh (.arr (.int .u8) none), false), (.sh (.arr (.int .u8) none), false)]⟩, [])]
noncomputable def gf_clear2_g (N : Nat) : GS := { ins := ⟨[(0, (.av (.agg [(.one (.int .i64)), (.one (.int .i64)), (.one (.const (.slw 0 1)))]))), (1, (.av (.agg [(.one (.int .i64)), (.one (.int .i64)), (.one (.const (.slw 1 1)))])))], [(some (.arr (.int .u8) none), false), (some (.arr (.int .u8) none), false)]⟩, lend := [.keep, .keep], outs := gf_clear2_o.map fun s => ssOf s.1, its := [.int, .int, .int, .int, .lst (.int .u8), .lst (.int .u8)], ots := [[.int, .lst (.int .u8), .lst (.int .u8)]], F := gf_clear2 N }
noncomputable def gf_clear2_CA (N : Nat) (f0 : Int × Int × Int × (List Int) → Option (Nat × Nat × (List Int))) (f1 : Int → Option (Int × Int)) (f2 : Int × (List Int) → Option ((List Int))) (f3 : Nat × Nat × Int × Nat × Nat × (List Int) → Option ((List Int))) : Nat → List GS := fun k => tabOf k [(66, [{ gf_row_g N with F := f0 }]), (49, [{ gf_Inv_g N with F := f1 }]), (47, [{ gf_Scale_v1_g N with F := f2 }]), (67, [{ gf_add_g N with F := f3 }])]
theorem gf_clear2_CE (N : Nat) : gf_clear2_CA N (gf_row) (gf_Inv N) (gf_Scale_v1 N) (gf_add N) = gf_clear2_C N := by kernel_rfl
theorem gf_clear2_t (N : Nat) : TabC Try.prog (gf_clear2_C N) := tab_ok ⟨⟨gf_row_ok N, trivial⟩, ⟨gf_Inv_ok N, trivial⟩, ⟨gf_Scale_v1_ok N, trivial⟩, ⟨gf_add_ok N, trivial⟩, trivial⟩
theorem gf_clear2_i6 : loopsOf gf_clear2_c6 = [] := by kernel_rfl
noncomputable def gf_clear2_a6_1 (N : Nat) (f0 : Int × Int × Int × (List Int) → Option (Nat × Nat × (List Int))) (f1 : Int → Option (Int × Int)) (f2 : Int × (List Int) → Option ((List Int))) (f3 : Nat × Nat × Int × Nat × Nat × (List Int) → Option ((List Int))) (next : Int × Int × Int × Int × Nat × Nat × Nat × Nat × Int × Int × Nat × Nat × Int × Int × (List Int) → Option (((List Int)))) (x : Int × Int × Int × Int × Nat × Nat × Nat × Nat × Int × Int × Nat × Nat × Int × Int × (List Int)) : Option (((List Int))) :=
  (cond (decide (x.2.2.2.2.2.2.2.2.2.2.2.2.2.1 < x.2.2.2.2.2.2.2.2.2.2.2.2.1))
  (cond ((decide ((0 : Int) ≤ x.2.2.2.2.2.2.2.2.2.2.2.2.2.1)) && (decide (x.2.2.2.2.2.2.2.2.2.2.2.2.2.1 < ((x.2.2.2.2.2.2.2.1 : Nat) : Int))))
  ((let v2 : Nat := ((Int.toNat x.2.2.2.2.2.2.2.2.2.2.2.2.2.1) + x.2.2.2.2.2.2.1)
  (cond (decide (v2 < (List.length x.2.2.2.2.2.2.2.2.2.2.2.2.2.2)))
  ((cond ((decide ((0 : Int) ≤ x.2.2.2.2.2.2.2.2.2.2.2.2.2.1)) && (decide (x.2.2.2.2.2.2.2.2.2.2.2.2.2.1 < ((x.2.2.2.2.2.1 : Nat) : Int))))
  ((let v4 : Nat := ((Int.toNat x.2.2.2.2.2.2.2.2.2.2.2.2.2.1) + x.2.2.2.2.1)
  (cond (decide (v4 < (List.length x.2.2.2.2.2.2.2.2.2.2.2.2.2.2)))
  ((cond ((decide ((0 : Int) ≤ x.2.2.2.2.2.2.2.2.2.2.2.2.2.1)) && (decide (x.2.2.2.2.2.2.2.2.2.2.2.2.2.1 < ((x.2.2.2.2.2.1 : Nat) : Int))))
  ((let v6 : Nat := ((Int.toNat x.2.2.2.2.2.2.2.2.2.2.2.2.2.1) + x.2.2.2.2.1)
  (cond (decide (v6 < (List.length x.2.2.2.2.2.2.2.2.2.2.2.2.2.2)))
  ((let v7 : List Int := (List.set x.2.2.2.2.2.2.2.2.2.2.2.2.2.2 v6 (List.getD x.2.2.2.2.2.2.2.2.2.2.2.2.2.2 v2 (EK.dflt (.int .u8))))
  (cond ((decide ((0 : Int) ≤ x.2.2.2.2.2.2.2.2.2.2.2.2.2.1)) && (decide (x.2.2.2.2.2.2.2.2.2.2.2.2.2.1 < ((x.2.2.2.2.2.2.2.1 : Nat) : Int))))
  ((let v8 : Nat := ((Int.toNat x.2.2.2.2.2.2.2.2.2.2.2.2.2.1) + x.2.2.2.2.2.2.1)
  (cond (decide (v8 < (List.length v7)))
  ((next (x.1, x.2.1, x.2.2.1, x.2.2.2.1, x.2.2.2.2.1, x.2.2.2.2.2.1, x.2.2.2.2.2.2.1, x.2.2.2.2.2.2.2.1, x.2.2.2.2.2.2.2.2.1, x.2.2.2.2.2.2.2.2.2.1, x.2.2.2.2.2.2.2.2.2.2.1, x.2.2.2.2.2.2.2.2.2.2.2.1, x.2.2.2.2.2.2.2.2.2.2.2.2.1, (wrapF .i64 (x.2.2.2.2.2.2.2.2.2.2.2.2.2.1 + (1 : Int))), (List.set v7 v8 (List.getD x.2.2.2.2.2.2.2.2.2.2.2.2.2.2 v4 (EK.dflt (.int .u8)))))))
  none)))
  none)))
  none)))
  none))
  none)))
  none))
  none)))
  none)
  (some x.2.2.2.2.2.2.2.2.2.2.2.2.2.2))
theorem gf_clear2_f6_1 (N : Nat) (f0 : Int × Int × Int × (List Int) → Option (Nat × Nat × (List Int))) (f1 : Int → Option (Int × Int)) (f2 : Int × (List Int) → Option ((List Int))) (f3 : Nat × Nat × Int × Nat × Nat × (List Int) → Option ((List Int))) (next) (x) : gf_clear2_a6_1 N f0 f1 f2 f3 next x = loopStep Γ (gf_clear2_CA N f0 f1 f2 f3) (gf_clear2_J N) 1 133 gf_clear2_d6_1 gf_clear2_c6 next x := by kernel_rfl
theorem gf_clear2_e6_1 (N : Nat) (next) (x) : gf_clear2_b6_1 N next x = loopStep Γ (gf_clear2_C N) (gf_clear2_J N) 1 133 gf_clear2_d6_1 gf_clear2_c6 next x := by
  rw [← gf_clear2_CE N]
  exact Eq.trans (by kernel_rfl) (gf_clear2_f6_1 N (gf_row) (gf_Inv N) (gf_Scale_v1 N) (gf_add N) next x)
theorem gf_clear2_k6_1 (N : Nat) : LoopOK Try.prog 133 gf_clear2_c6 ⟨gf_clear2_d6_1, loopF (gf_clear2_b6_1 N) N⟩ := loop_ok tabOK (gf_clear2_t N) mixedOK (J := gf_clear2_J N) (cx := 1) (body := gf_clear2_c6) (nt := 133) (l := gf_clear2_d6_1) (b := gf_clear2_b6_1 N) (jok_from gf_clear2_i6 ⟨trivial, trivial, trivial, trivial⟩) (gf_clear2_e6_1 N) N
noncomputable def gf_clear2_a6_2 (N : Nat) (f0 : Int × Int × Int × (List Int) → Option (Nat × Nat × (List Int))) (f1 : Int → Option (Int × Int)) (f2 : Int × (List Int) → Option ((List Int))) (f3 : Nat × Nat × Int × Nat × Nat × (List Int) → Option ((List Int))) (next : Int × Int × Int × Int × Nat × Nat × Nat × Nat × Int × Int × Nat × Nat × Int × Int × (List Int) → Option (((List Int)))) (x : Int × Int × Int × Int × Nat × Nat × Nat × Nat × Int × Int × Nat × Nat × Int × Int × (List Int)) : Option (((List Int))) :=
  (cond (decide (x.2.2.2.2.2.2.2.2.2.2.2.2.2.1 < x.2.2.2.2.2.2.2.2.2.2.2.2.1))
  (cond ((decide ((0 : Int) ≤ x.2.2.2.2.2.2.2.2.2.2.2.2.2.1)) && (decide (x.2.2.2.2.2.2.2.2.2.2.2.2.2.1 < ((x.2.2.2.2.2.2.2.1 : Nat) : Int))))
  ((let v2 : Nat := ((Int.toNat x.2.2.2.2.2.2.2.2.2.2.2.2.2.1) + x.2.2.2.2.2.2.1)
  (cond (decide (v2 < (List.length x.2.2.2.2.2.2.2.2.2.2.2.2.2.2)))
  ((cond ((decide ((0 : Int) ≤ x.2.2.2.2.2.2.2.2.2.2.2.2.2.1)) && (decide (x.2.2.2.2.2.2.2.2.2.2.2.2.2.1 < ((x.2.2.2.2.2.1 : Nat) : Int))))
  ((let v4 : Nat := ((Int.toNat x.2.2.2.2.2.2.2.2.2.2.2.2.2.1) + x.2.2.2.2.1)
  (cond (decide (v4 < (List.length x.2.2.2.2.2.2.2.2.2.2.2.2.2.2)))
  ((cond ((decide ((0 : Int) ≤ x.2.2.2.2.2.2.2.2.2.2.2.2.2.1)) && (decide (x.2.2.2.2.2.2.2.2.2.2.2.2.2.1 < ((x.2.2.2.2.2.1 : Nat) : Int))))
  ((let v6 : Nat := ((Int.toNat x.2.2.2.2.2.2.2.2.2.2.2.2.2.1) + x.2.2.2.2.1)
  (cond (decide (v6 < (List.length x.2.2.2.2.2.2.2.2.2.2.2.2.2.2)))
  ((let v7 : List Int := (List.set x.2.2.2.2.2.2.2.2.2.2.2.2.2.2 v6 (List.getD x.2.2.2.2.2.2.2.2.2.2.2.2.2.2 v2 (EK.dflt (.int .u8))))
  (cond ((decide ((0 : Int) ≤ x.2.2.2.2.2.2.2.2.2.2.2.2.2.1)) && (decide (x.2.2.2.2.2.2.2.2.2.2.2.2.2.1 < ((x.2.2.2.2.2.2.2.1 : Nat) : Int))))
  ((let v8 : Nat := ((Int.toNat x.2.2.2.2.2.2.2.2.2.2.2.2.2.1) + x.2.2.2.2.2.2.1)
  (cond (decide (v8 < (List.length v7)))
  ((next (x.1, x.2.1, x.2.2.1, x.2.2.2.1, x.2.2.2.2.1, x.2.2.2.2.2.1, x.2.2.2.2.2.2.1, x.2.2.2.2.2.2.2.1, x.2.2.2.2.2.2.2.2.1, x.2.2.2.2.2.2.2.2.2.1, x.2.2.2.2.2.2.2.2.2.2.1, x.2.2.2.2.2.2.2.2.2.2.2.1, x.2.2.2.2.2.2.2.2.2.2.2.2.1, (wrapF .i64 (x.2.2.2.2.2.2.2.2.2.2.2.2.2.1 + (1 : Int))), (List.set v7 v8 (List.getD x.2.2.2.2.2.2.2.2.2.2.2.2.2.2 v4 (EK.dflt (.int .u8)))))))
  none)))
  none)))
  none)))
  none))
  none)))
  none))
  none)))
  none)
  (some x.2.2.2.2.2.2.2.2.2.2.2.2.2.2))
theorem gf_clear2_f6_2 (N : Nat) (f0 : Int × Int × Int × (List Int) → Option (Nat × Nat × (List Int))) (f1 : Int → Option (Int × Int)) (f2 : Int × (List Int) → Option ((List Int))) (f3 : Nat × Nat × Int × Nat × Nat × (List Int) → Option ((List Int))) (next) (x) : gf_clear2_a6_2 N f0 f1 f2 f3 next x = loopStep Γ (gf_clear2_CA N f0 f1 f2 f3) (gf_clear2_J N) 2 133 gf_clear2_d6_2 gf_clear2_c6 next x := by kernel_rfl
theorem gf_clear2_e6_2 (N : Nat) (next) (x) : gf_clear2_b6_2 N next x = loopStep Γ (gf_clear2_C N) (gf_clear2_J N) 2 133 gf_clear2_d6_2 gf_clear2_c6 next x := by
  rw [← gf_clear2_CE N]
  exact Eq.trans (by kernel_rfl) (gf_clear2_f6_2 N (gf_row) (gf_Inv N) (gf_Scale_v1 N) (gf_add N) next x)
theorem gf_clear2_k6_2 (N : Nat) : LoopOK Try.prog 133 gf_clear2_c6 ⟨gf_clear2_d6_2, loopF (gf_clear2_b6_2 N) N⟩ := loop_ok tabOK (gf_clear2_t N) mixedOK (J := gf_clear2_J N) (cx := 2) (body := gf_clear2_c6) (nt := 133) (l := gf_clear2_d6_2) (b := gf_clear2_b6_2 N) (jok_from gf_clear2_i6 ⟨trivial, trivial, trivial, trivial⟩) (gf_clear2_e6_2 N) N
theorem gf_clear2_i2 : loopsOf gf_clear2_c2 = [] := by kernel_rfl
noncomputable def gf_clear2_a2 (N : Nat) (f0 : Int × Int × Int × (List Int) → Option (Nat × Nat × (List Int))) (f1 : Int → Option (Int × Int)) (f2 : Int × (List Int) → Option ((List Int))) (f3 : Nat × Nat × Int × Nat × Nat × (List Int) → Option ((List Int))) (next : Int × Int × Int × Int × Int × (List Int) × Int × Int → Option ((Int × (List Int) × Int × Int))) (x : Int × Int × Int × Int × Int × (List Int) × Int × Int) : Option ((Int × (List Int) × Int × Int)) :=
  (Option.bind
  (cond (decide (x.2.2.1 < x.2.2.2.2.2.2.1))
  (Option.bind (f0 (x.2.2.2.2.2.2.1, x.2.2.2.2.2.2.2, x.2.2.1, x.2.2.2.2.2.1)) fun r2 =>
  (cond ((decide ((0 : Int) ≤ x.2.1)) && (decide (x.2.1 < ((r2.2.1 : Nat) : Int))))
  ((let v3 : Nat := ((Int.toNat x.2.1) + r2.1)
  (cond (decide (v3 < (List.length r2.2.2)))
  ((some ((decide ((List.getD r2.2.2 v3 (EK.dflt (.int .u8))) = (0 : Int))), r2.2.2)))
  none)))
  none))
  (some (false, x.2.2.2.2.2.1)))
  fun r6 =>
  (cond r6.1
  (next (x.1, x.2.1, (wrapF .i64 (x.2.2.1 + (1 : Int))), x.2.2.2.1, x.2.2.2.2.1, r6.2, x.2.2.2.2.2.2.1, x.2.2.2.2.2.2.2))
  (some (x.2.2.1, r6.2, x.2.2.2.2.2.2.1, x.2.2.2.2.2.2.2))))
theorem gf_clear2_f2 (N : Nat) (f0 : Int × Int × Int × (List Int) → Option (Nat × Nat × (List Int))) (f1 : Int → Option (Int × Int)) (f2 : Int × (List Int) → Option ((List Int))) (f3 : Nat × Nat × Int × Nat × Nat × (List Int) → Option ((List Int))) (next) (x) : gf_clear2_a2 N f0 f1 f2 f3 next x = loopStep Γ (gf_clear2_CA N f0 f1 f2 f3) (gf_clear2_J N) 0 133 gf_clear2_d2 gf_clear2_c2 next x := by kernel_rfl
theorem gf_clear2_e2 (N : Nat) (next) (x) : gf_clear2_b2 N next x = loopStep Γ (gf_clear2_C N) (gf_clear2_J N) 0 133 gf_clear2_d2 gf_clear2_c2 next x := by
  rw [← gf_clear2_CE N]
  exact Eq.trans (by kernel_rfl) (gf_clear2_f2 N (gf_row) (gf_Inv N) (gf_Scale_v1 N) (gf_add N) next x)
theorem gf_clear2_k2 (N : Nat) : LoopOK Try.prog 133 gf_clear2_c2 ⟨gf_clear2_d2, loopF (gf_clear2_b2 N) N⟩ := loop_ok tabOK (gf_clear2_t N) mixedOK (J := gf_clear2_J N) (cx := 0) (body := gf_clear2_c2) (nt := 133) (l := gf_clear2_d2) (b := gf_clear2_b2 N) (jok_from gf_clear2_i2 ⟨trivial, trivial, trivial, trivial⟩) (gf_clear2_e2 N) N
theorem gf_clear2_i8 : loopsOf gf_clear2_c8 = [] := by kernel_rfl
noncomputable def gf_clear2_a8 (N : Nat) (f0 : Int × Int × Int × (List Int) → Option (Nat × Nat × (List Int))) (f1 : Int → Option (Int × Int)) (f2 : Int × (List Int) → Option ((List Int))) (f3 : Nat × Nat × Int × Nat × Nat × (List Int) → Option ((List Int))) (next : Int × Int × Int × Int × Int × Int × (List Int) × (List Int) × Int × Int × Int × Int → Option (((List Int) × (List Int) × Int × Int × Int × Int))) (x : Int × Int × Int × Int × Int × Int × (List Int) × (List Int) × Int × Int × Int × Int) : Option (((List Int) × (List Int) × Int × Int × Int × Int)) :=
  (cond (decide (x.2.2.2.2.2.1 < x.2.2.2.2.1))
  (Option.bind
  (cond (!(decide (x.2.2.2.2.2.1 = x.1)))
  (Option.bind (f0 (x.2.2.2.2.2.2.2.2.1, x.2.2.2.2.2.2.2.2.2.1, x.2.2.2.2.2.1, x.2.2.2.2.2.2.1)) fun r3 =>
  (cond ((decide ((0 : Int) ≤ x.2.1)) && (decide (x.2.1 < ((r3.2.1 : Nat) : Int))))
  ((let v4 : Nat := ((Int.toNat x.2.1) + r3.1)
  (cond (decide (v4 < (List.length r3.2.2)))
  ((let v5 : Int := (List.getD r3.2.2 v4 (EK.dflt (.int .u8)))
  (Option.bind (f0 (x.2.2.2.2.2.2.2.2.1, x.2.2.2.2.2.2.2.2.2.1, x.2.2.2.2.2.1, r3.2.2)) fun r6 =>
  (Option.bind (f0 (x.2.2.2.2.2.2.2.2.1, x.2.2.2.2.2.2.2.2.2.1, x.1, r6.2.2)) fun r7 =>
  (Option.bind (f3 (r6.1, r6.2.1, v5, r7.1, r7.2.1, r7.2.2)) fun r8 =>
  (Option.bind
  (cond (decide ((0 : Int) < x.2.2.2.2.2.2.2.2.2.2.1))
  (Option.bind (f0 (x.2.2.2.2.2.2.2.2.2.2.1, x.2.2.2.2.2.2.2.2.2.2.2, x.2.2.2.2.2.1, x.2.2.2.2.2.2.2.1)) fun r10 =>
  (Option.bind (f0 (x.2.2.2.2.2.2.2.2.2.2.1, x.2.2.2.2.2.2.2.2.2.2.2, x.1, r10.2.2)) fun r11 =>
  (Option.bind (f3 (r10.1, r10.2.1, v5, r11.1, r11.2.1, r11.2.2)) fun r12 =>
  (some r12))))
  (some x.2.2.2.2.2.2.2.1))
  fun r13 =>
  (some (r8, r13))))))))
  none)))
  none))
  (some (x.2.2.2.2.2.2.1, x.2.2.2.2.2.2.2.1)))
  fun r14 =>
  (next (x.1, x.2.1, x.2.2.1, x.2.2.2.1, x.2.2.2.2.1, (wrapF .i64 (x.2.2.2.2.2.1 + (1 : Int))), r14.1, r14.2, x.2.2.2.2.2.2.2.2.1, x.2.2.2.2.2.2.2.2.2.1, x.2.2.2.2.2.2.2.2.2.2.1, x.2.2.2.2.2.2.2.2.2.2.2)))
  (some (x.2.2.2.2.2.2.1, x.2.2.2.2.2.2.2.1, x.2.2.2.2.2.2.2.2.1, x.2.2.2.2.2.2.2.2.2.1, x.2.2.2.2.2.2.2.2.2.2.1, x.2.2.2.2.2.2.2.2.2.2.2)))
theorem gf_clear2_f8 (N : Nat) (f0 : Int × Int × Int × (List Int) → Option (Nat × Nat × (List Int))) (f1 : Int → Option (Int × Int)) (f2 : Int × (List Int) → Option ((List Int))) (f3 : Nat × Nat × Int × Nat × Nat × (List Int) → Option ((List Int))) (next) (x) : gf_clear2_a8 N f0 f1 f2 f3 next x = loopStep Γ (gf_clear2_CA N f0 f1 f2 f3) (gf_clear2_J N) 0 133 gf_clear2_d8 gf_clear2_c8 next x := by kernel_rfl
theorem gf_clear2_e8 (N : Nat) (next) (x) : gf_clear2_b8 N next x = loopStep Γ (gf_clear2_C N) (gf_clear2_J N) 0 133 gf_clear2_d8 gf_clear2_c8 next x := by
  rw [← gf_clear2_CE N]
  exact Eq.trans (by kernel_rfl) (gf_clear2_f8 N (gf_row) (gf_Inv N) (gf_Scale_v1 N) (gf_add N) next x)
theorem gf_clear2_k8 (N : Nat) : LoopOK Try.prog 133 gf_clear2_c8 ⟨gf_clear2_d8, loopF (gf_clear2_b8 N) N⟩ := loop_ok tabOK (gf_clear2_t N) mixedOK (J := gf_clear2_J N) (cx := 0) (body := gf_clear2_c8) (nt := 133) (l := gf_clear2_d8) (b := gf_clear2_b8 N) (jok_from gf_clear2_i8 ⟨trivial, trivial, trivial, trivial⟩) (gf_clear2_e8 N) N
theorem gf_clear2_i0 : loopsOf gf_clear2_c0 = [(2, gf_clear2_c2), (4, codeOf (getLoop 4 gf_clear2_c)), (6, gf_clear2_c6), (8, gf_clear2_c8)] := by kernel_rfl
noncomputable def gf_clear2_a0 (N : Nat) (f0 : Int × Int × Int × (List Int) → Option (Nat × Nat × (List Int))) (f1 : Int → Option (Int × Int)) (f2 : Int × (List Int) → Option ((List Int))) (f3 : Nat × Nat × Int × Nat × Nat × (List Int) → Option ((List Int))) (next : Int × Int × Int × (List Int) × (List Int) × Int × Int × Int × Int → Option ((Int × (List Int) × (List Int) × Int × Int × Int × Int))) (x : Int × Int × Int × (List Int) × (List Int) × Int × Int × Int × Int) : Option ((Int × (List Int) × (List Int) × Int × Int × Int × Int)) :=
  (cond (decide (x.2.2.1 < x.2.1))
  (Option.bind
  (Option.bind (gf_clear2_l2 N (x.1, x.2.2.1, x.1, x.2.1, x.2.2.1, x.2.2.2.1, x.2.2.2.2.2.1, x.2.2.2.2.2.2.1)) fun r2 =>
  (cond (decide (r2.1 = r2.2.2.1))
  (some (x.1, r2.2.1, x.2.2.2.2.1, r2.2.2.1, r2.2.2.2, x.2.2.2.2.2.2.2.1, x.2.2.2.2.2.2.2.2))
  (Option.bind (f0 (r2.2.2.1, r2.2.2.2, r2.1, r2.2.1)) fun r4 =>
  (cond ((decide ((0 : Int) ≤ x.2.2.1)) && (decide (x.2.2.1 < ((r4.2.1 : Nat) : Int))))
  ((let v5 : Nat := ((Int.toNat x.2.2.1) + r4.1)
  (cond (decide (v5 < (List.length r4.2.2)))
  ((Option.bind (f1 (List.getD r4.2.2 v5 (EK.dflt (.int .u8)))) fun r7 =>
  (Option.bind
  (cond (decide (r2.2.2.1 = (0 : Int)))
  (some r4.2.2)
  (Option.bind (f0 (r2.2.2.1, r2.2.2.2, r2.1, r4.2.2)) fun r9 =>
  (Option.bind (f0 (r2.2.2.1, r2.2.2.2, x.1, r9.2.2)) fun r10 =>
  (Option.bind (gf_clear2_l6_1 N (x.1, x.2.2.1, r2.1, r7.1, r9.1, r9.2.1, r10.1, r10.2.1, x.2.1, x.2.2.1, 0, 2, ((r9.2.1 : Nat) : Int), (0 : Int), r10.2.2)) fun r12 =>
  (cond (cond (decide ((r10.1 + r10.2.1) ≤ (List.length r12))) true false)
  (Option.bind (f2 (r7.1, (List.take r10.2.1 (List.drop r10.1 r12)))) fun r13 =>
  (cond (decide ((r10.1 + r10.2.1) ≤ (List.length r12)))
  ((some (List.take r10.1 r12 ++ List.take (min (List.length r13) r10.2.1) r13 ++ List.drop (r10.1 + (min (List.length r13) r10.2.1)) r12)))
  none))
  none)))))
  fun r16 =>
  (Option.bind
  (cond (decide (x.2.2.2.2.2.2.2.1 = (0 : Int)))
  (some x.2.2.2.2.1)
  (Option.bind (f0 (x.2.2.2.2.2.2.2.1, x.2.2.2.2.2.2.2.2, r2.1, x.2.2.2.2.1)) fun r18 =>
  (Option.bind (f0 (x.2.2.2.2.2.2.2.1, x.2.2.2.2.2.2.2.2, x.1, r18.2.2)) fun r19 =>
  (Option.bind (gf_clear2_l6_2 N (x.1, x.2.2.1, r2.1, r7.1, r18.1, r18.2.1, r19.1, r19.2.1, x.2.1, x.2.2.1, 0, 2, ((r18.2.1 : Nat) : Int), (0 : Int), r19.2.2)) fun r21 =>
  (cond (cond (decide ((r19.1 + r19.2.1) ≤ (List.length r21))) true false)
  (Option.bind (f2 (r7.1, (List.take r19.2.1 (List.drop r19.1 r21)))) fun r22 =>
  (cond (decide ((r19.1 + r19.2.1) ≤ (List.length r21)))
  ((some (List.take r19.1 r21 ++ List.take (min (List.length r22) r19.2.1) r22 ++ List.drop (r19.1 + (min (List.length r22) r19.2.1)) r21)))
  none))
  none)))))
  fun r25 =>
  (Option.bind (gf_clear2_l8 N (x.1, x.2.2.1, x.2.1, x.2.2.1, r2.2.2.1, (0 : Int), r16, r25, r2.2.2.1, r2.2.2.2, x.2.2.2.2.2.2.2.1, x.2.2.2.2.2.2.2.2)) fun r26 =>
  (some ((wrapF .i64 (x.1 + (1 : Int))), r26.1, r26.2.1, r26.2.2.1, r26.2.2.2.1, r26.2.2.2.2.1, r26.2.2.2.2.2)))))))
  none)))
  none))))
  fun r28 =>
  (next (r28.1, x.2.1, (wrapF .i64 (x.2.2.1 + (1 : Int))), r28.2.1, r28.2.2.1, r28.2.2.2.1, r28.2.2.2.2.1, r28.2.2.2.2.2.1, r28.2.2.2.2.2.2)))
  (some (x.1, x.2.2.2.1, x.2.2.2.2.1, x.2.2.2.2.2.1, x.2.2.2.2.2.2.1, x.2.2.2.2.2.2.2.1, x.2.2.2.2.2.2.2.2)))
theorem gf_clear2_f0 (N : Nat) (f0 : Int × Int × Int × (List Int) → Option (Nat × Nat × (List Int))) (f1 : Int → Option (Int × Int)) (f2 : Int × (List Int) → Option ((List Int))) (f3 : Nat × Nat × Int × Nat × Nat × (List Int) → Option ((List Int))) (next) (x) : gf_clear2_a0 N f0 f1 f2 f3 next x = loopStep Γ (gf_clear2_CA N f0 f1 f2 f3) (gf_clear2_J N) 0 133 gf_clear2_d0 gf_clear2_c0 next x := by kernel_rfl
theorem gf_clear2_e0 (N : Nat) (next) (x) : gf_clear2_b0 N next x = loopStep Γ (gf_clear2_C N) (gf_clear2_J N) 0 133 gf_clear2_d0 gf_clear2_c0 next x := by
  rw [← gf_clear2_CE N]
  exact Eq.trans (by kernel_rfl) (gf_clear2_f0 N (gf_row) (gf_Inv N) (gf_Scale_v1 N) (gf_add N) next x)
theorem gf_clear2_k0 (N : Nat) : LoopOK Try.prog 133 gf_clear2_c0 ⟨gf_clear2_d0, loopF (gf_clear2_b0 N) N⟩ := loop_ok tabOK (gf_clear2_t N) mixedOK (J := gf_clear2_J N) (cx := 0) (body := gf_clear2_c0) (nt := 133) (l := gf_clear2_d0) (b := gf_clear2_b0 N) (jok_from gf_clear2_i0 ⟨⟨.inr ⟨_, rfl, gf_clear2_k2 N⟩, .inl rfl, .inl rfl, .inr ⟨_, rfl, gf_clear2_k8 N⟩, trivial⟩, ⟨.inl rfl, .inl rfl, .inr ⟨_, rfl, gf_clear2_k6_1 N⟩, .inl rfl, trivial⟩, ⟨.inl rfl, .inl rfl, .inr ⟨_, rfl, gf_clear2_k6_2 N⟩, .inl rfl, trivial⟩, trivial⟩) (gf_clear2_e0 N) N
theorem gf_clear2_i : loopsOf gf_clear2_c = [(0, gf_clear2_c0), (2, gf_clear2_c2), (4, codeOf (getLoop 4 gf_clear2_c)), (6, gf_clear2_c6), (8, gf_clear2_c8)] := by kernel_rfl
noncomputable def gf_clear2_a (N : Nat) (f0 : Int × Int × Int × (List Int) → Option (Nat × Nat × (List Int))) (f1 : Int → Option (Int × Int)) (f2 : Int × (List Int) → Option ((List Int))) (f3 : Nat × Nat × Int × Nat × Nat × (List Int) → Option ((List Int))) (x : Int × Int × Int × Int × (List Int) × (List Int)) : Option (Int × (List Int) × (List Int)) :=
  (Option.bind (gf_clear2_l0 N ((0 : Int), x.2.1, (0 : Int), x.2.2.2.2.1, x.2.2.2.2.2, x.1, x.2.1, x.2.2.1, x.2.2.2.1)) fun r1 =>
  (some (r1.1, r1.2.1, r1.2.2.1)))
theorem gf_clear2_f (N : Nat) (f0 : Int × Int × Int × (List Int) → Option (Nat × Nat × (List Int))) (f1 : Int → Option (Int × Int)) (f2 : Int × (List Int) → Option ((List Int))) (f3 : Nat × Nat × Int × Nat × Nat × (List Int) → Option ((List Int))) (x) : gf_clear2_a N f0 f1 f2 f3 x = fnStep Γ (gf_clear2_CA N f0 f1 f2 f3) (gf_clear2_J N) 133 Try.f61.results.toList (gf_clear2_g N) gf_clear2_o gf_clear2_c x := by kernel_rfl
theorem gf_clear2_e (N : Nat) (x) : (gf_clear2_g N).F x = fnStep Γ (gf_clear2_C N) (gf_clear2_J N) 133 Try.f61.results.toList (gf_clear2_g N) gf_clear2_o gf_clear2_c x := by
  rw [← gf_clear2_CE N]
  exact Eq.trans (by kernel_rfl) (gf_clear2_f N (gf_row) (gf_Inv N) (gf_Scale_v1 N) (gf_add N) x)
theorem gf_clear2_y : Try.f61.body = some gf_clear2_c := by kernel_rfl
theorem gf_clear2_n : (Try.f61.name == "runtime.NumGoroutine") = false := by kernel_rfl
theorem gf_clear2_ok (N : Nat) : FnDoes Try.prog 61 (gf_clear2_g N) := fn_ok tabOK (gf_clear2_t N) mixedOK (J := gf_clear2_J N) (body := gf_clear2_c) Try.func61 gf_clear2_y gf_clear2_n Try.ntmps61 (jok_from gf_clear2_i ⟨⟨.inr ⟨_, rfl, gf_clear2_k0 N⟩, .inr ⟨_, rfl, gf_clear2_k2 N⟩, .inl rfl, .inl rfl, .inr ⟨_, rfl, gf_clear2_k8 N⟩, trivial⟩, ⟨.inl rfl, .inl rfl, .inl rfl, .inr ⟨_, rfl, gf_clear2_k6_1 N⟩, .inl rfl, trivial⟩, ⟨.inl rfl, .inl rfl, .inl rfl, .inr ⟨_, rfl, gf_clear2_k6_2 N⟩, .inl rfl, trivial⟩, trivial⟩) rfl rfl (le_of_ble rfl) (gf_clear2_e N)
noncomputable def gf_Inverse_c : Code := codeOf Try.f51.body
noncomputable def gf_Inverse_J (N : Nat) : Nat → Hint := fun cx => hintOf cx []
noncomputable def gf_Inverse_C (N : Nat) : Nat → List GS := fun k => tabOf k [(59, [gf_Check_g N]), (60, [gf_Identity_g N]), (62, [gf_own_g N]), (61, [gf_clear2_g N])]
def gf_Inverse_o : List (Shp × List Nat) := [(⟨[(0, (.tup [(.agg [(.one (.int .i64)), (.one (.int .i64)), (.one (.const (.slw 0 1)))]), (.one (.int .i64))]))], [(.sh (.arr (.int .u8) none), false)]⟩, [])]
noncomputable def gf_Inverse_g (N : Nat) : GS := { ins := ⟨[(0, (.av (.agg [(.one (.int .i64)), (.one (.int .i64)), (.one (.rsl (.int .u8)))])))], []⟩, lend := [.agg [none, none, some (.int .u8)]], outs := gf_Inverse_o.map fun s => ssOf s.1, its := [.int, .int, .lst (.int .u8)], ots := [[.int, .int, .int, .lst (.int .u8)]], F := gf_Inverse N }
noncomputable def gf_Inverse_CA (N : Nat) (f0 : Int × Int × (List Int) → Option (Int)) (f1 : Int → Option (Int × Int × Int × (List Int))) (f2 : Int × Int × (List Int) → Option (Int × Int × (List Int))) (f3 : Int × Int × Int × Int × (List Int) × (List Int) → Option (Int × (List Int) × (List Int))) : Nat → List GS := fun k => tabOf k [(59, [{ gf_Check_g N with F := f0 }]), (60, [{ gf_Identity_g N with F := f1 }]), (62, [{ gf_own_g N with F := f2 }]), (61, [{ gf_clear2_g N with F := f3 }])]
theorem gf_Inverse_CE (N : Nat) : gf_Inverse_CA N (gf_Check) (gf_Identity N) (gf_own) (gf_clear2 N) = gf_Inverse_C N := by kernel_rfl
theorem gf_Inverse_t (N : Nat) : TabC Try.prog (gf_Inverse_C N) := tab_ok ⟨⟨gf_Check_ok N, trivial⟩, ⟨gf_Identity_ok N, trivial⟩, ⟨gf_own_ok N, trivial⟩, ⟨gf_clear2_ok N, trivial⟩, trivial⟩
theorem gf_Inverse_i : loopsOf gf_Inverse_c = [] := by kernel_rfl
noncomputable def gf_Inverse_a (N : Nat) (f0 : Int × Int × (List Int) → Option (Int)) (f1 : Int → Option (Int × Int × Int × (List Int))) (f2 : Int × Int × (List Int) → Option (Int × Int × (List Int))) (f3 : Int × Int × Int × Int × (List Int) × (List Int) → Option (Int × (List Int) × (List Int))) (x : Int × Int × (List Int)) : Option (Int × Int × Int × (List Int)) :=
  (Option.bind (f0 (x.1, x.2.1, x.2.2)) fun r1 =>
  (cond (!(decide (r1 = (0 : Int))))
  (some ((0 : Int), (0 : Int), r1, ([] : List Int)))
  (cond (!(decide (x.1 = x.2.1)))
  (some ((0 : Int), (0 : Int), (23 : Int), ([] : List Int)))
  (Option.bind (f1 x.1) fun r4 =>
  (Option.bind (f2 (x.1, x.2.1, x.2.2)) fun r5 =>
  (Option.bind (f3 (r5.1, r5.2.1, r4.1, r4.2.1, r5.2.2, r4.2.2.2)) fun r6 =>
  (cond (decide (r6.1 < x.1))
  (some ((0 : Int), (0 : Int), (22 : Int), ([] : List Int)))
  (some (r4.1, r4.2.1, (0 : Int), r6.2.2)))))))))
theorem gf_Inverse_f (N : Nat) (f0 : Int × Int × (List Int) → Option (Int)) (f1 : Int → Option (Int × Int × Int × (List Int))) (f2 : Int × Int × (List Int) → Option (Int × Int × (List Int))) (f3 : Int × Int × Int × Int × (List Int) × (List Int) → Option (Int × (List Int) × (List Int))) (x) : gf_Inverse_a N f0 f1 f2 f3 x = fnStep Γ (gf_Inverse_CA N f0 f1 f2 f3) (gf_Inverse_J N) 34 Try.f51.results.toList (gf_Inverse_g N) gf_Inverse_o gf_Inverse_c x := by kernel_rfl
theorem gf_Inverse_e (N : Nat) (x) : (gf_Inverse_g N).F x = fnStep Γ (gf_Inverse_C N) (gf_Inverse_J N) 34 Try.f51.results.toList (gf_Inverse_g N) gf_Inverse_o gf_Inverse_c x := by
  rw [← gf_Inverse_CE N]
  exact Eq.trans (by kernel_rfl) (gf_Inverse_f N (gf_Check) (gf_Identity N) (gf_own) (gf_clear2 N) x)
theorem gf_Inverse_y : Try.f51.body = some gf_Inverse_c := by kernel_rfl
theorem gf_Inverse_n : (Try.f51.name == "runtime.NumGoroutine") = false := by kernel_rfl
theorem gf_Inverse_ok (N : Nat) : FnDoes Try.prog 51 (gf_Inverse_g N) := fn_ok tabOK (gf_Inverse_t N) mixedOK (J := gf_Inverse_J N) (body := gf_Inverse_c) Try.func51 gf_Inverse_y gf_Inverse_n Try.ntmps51 (jok_from gf_Inverse_i trivial) rfl rfl (le_of_ble rfl) (gf_Inverse_e N)
noncomputable def rs_Code_solve_c : Code := codeOf Try.f39.body
noncomputable def rs_Code_solve_c0 : Code := codeOf (getLoop 0 rs_Code_solve_c)
noncomputable def rs_Code_solve_c2 : Code := codeOf (getLoop 2 rs_Code_solve_c)
def rs_Code_solve_d0 : LD := { ins := ⟨[(0, (.av (.one (.const (.ptr ⟨0, 0, 0, 0⟩))))), (1, (.av (.one (.rsl (.sl (.int .u8)))))), (3, (.av (.one (.int .i64)))), (10, (.av (.one (.const (.slw 4 1))))), (27, (.av (.one (.rsl (.int .i64))))), (28, (.av (.one (.int .i64)))), (29, (.av (.one (.int .i64))))], [(.sh (.one (.int .i64)), true), (.sh (.one (.int .i64)), true), (.sh (.one (.const (.slw 3 1))), false), (.sh (.arr (.int .u8) none), false), (.sh (.arr (.int .u8) none), false)]⟩, mov := [4], wr := [0, 1, 2, 3], outs := [(.exit 0, ⟨[(10, (.av (.one (.const (.slw 5 1)))))], [(.sh (.one (.int .i64)), true), (.sh (.one (.int .i64)), true), (.sh (.one (.const (.slw 3 1))), false), (.sh (.arr (.int .u8) none), false), (.dead, false), (.sh (.arr (.int .u8) none), false)]⟩)], its := [.lst (.sl (.int .u8)), .int, .lst (.int .i64), .int, .int, .int, .int, .lst (.int .u8), .lst (.int .u8)], ots := [[.int, .int, .lst (.int .u8), .lst (.int .u8)]] }
def rs_Code_solve_d2 : LD := { ins := ⟨[(0, (.av (.one (.const (.ptr ⟨0, 0, 0, 0⟩))))), (1, (.av (.one (.rsl (.sl (.int .u8)))))), (3, (.av (.one (.int .i64)))), (13, (.av (.one (.const (.ptr ⟨7, 0, 0, 0⟩))))), (15, (.av (.one (.const (.slw 10 1))))), (59, (.av (.one (.int .i64)))), (60, (.av (.one (.int .i64))))], [(.sh (.one (.int .i64)), true), (.keep, false), (.keep, false), (.keep, false), (.keep, false), (.keep, false), (.sh (.arr (.int .u8) none), false), (.sh (.one (.int .i64)), true), (.sh (.one (.int .i64)), true), (.sh (.one (.const (.slw 6 1))), false), (.sh (.arr (.sl (.int .u8)) none), false)]⟩, mov := [10], wr := [0, 6, 7, 8, 9], outs := [(.exit 2, ⟨[(15, (.av (.one (.const (.slw 11 1)))))], [(.sh (.one (.int .i64)), true), (.keep, false), (.keep, false), (.keep, false), (.keep, false), (.keep, false), (.sh (.arr (.int .u8) none), false), (.sh (.one (.int .i64)), true), (.sh (.one (.int .i64)), true), (.sh (.one (.const (.slw 6 1))), false), (.dead, false), (.sh (.arr (.sl (.int .u8)) none), false)]⟩)], its := [.lst (.sl (.int .u8)), .int, .int, .int, .int, .lst (.int .u8), .int, .int, .lst (.sl (.int .u8))], ots := [[.int, .lst (.int .u8), .int, .int, .lst (.sl (.int .u8))]] }
noncomputable def rs_Code_solve_J (N : Nat) : Nat → Hint := fun cx => hintOf cx [(0, { reg := fun k => assoc0 k [], cnd := fun k => assoc0 k [], loop := fun k => assoc0 k [(0, ⟨rs_Code_solve_d0, loopF (rs_Code_solve_b0 N) N⟩), (2, ⟨rs_Code_solve_d2, loopF (rs_Code_solve_b2 N) N⟩)], nil := fun k => assoc0 k [(90, (.sl (.int .u8)))], unr := fun k => assocN k [], blk := fun k => assoc0 k [] })]
noncomputable def rs_Code_solve_C (N : Nat) : Nat → List GS := fun k => tabOf k [(22, [rs_Code_Row_g N]), (51, [gf_Inverse_g N]), (40, [rs_mixed_g N])]
def rs_Code_solve_o : List (Shp × List Nat) := [(⟨[(0, (.tup [(.one (.const (.slw 4 1))), (.one (.int .i64))]))], [(.sh (.one (.int .i64)), true), (.sh (.one (.int .i64)), true), (.sh (.one (.const (.slw 3 1))), false), (.sh (.arr (.int .u8) none), false), (.sh (.arr (.sl (.int .u8)) none), false)]⟩, [])]
noncomputable def rs_Code_solve_g (N : Nat) : GS := { ins := ⟨[(0, (.av (.one (.const (.ptr ⟨0, 0, 0, 0⟩))))), (1, (.av (.one (.rsl (.sl (.int .u8)))))), (2, (.av (.one (.rsl (.int .i64))))), (3, (.av (.one (.int .i64))))], [(some (.one (.int .i64)), true), (some (.one (.int .i64)), true), (some (.one (.const (.slw 3 1))), false), (some (.arr (.int .u8) none), false)]⟩, lend := [.keep, .keep, .keep, .keep], outs := rs_Code_solve_o.map fun s => ssOf s.1, its := [.lst (.sl (.int .u8)), .lst (.int .i64), .int, .int, .int, .lst (.int .u8)], ots := [[.int, .int, .int, .lst (.int .u8), .lst (.sl (.int .u8))]], F := rs_Code_solve N }
noncomputable def rs_Code_solve_CA (N : Nat) (f0 : Int × Int × Int × (List Int) → Option (Int × Int × (List Int) × (List Int))) (f1 : Int × Int × (List Int) → Option (Int × Int × Int × (List Int))) (f2 : (List Int) × (List (List Int)) × Int → Option ((List Int))) : Nat → List GS := fun k => tabOf k [(22, [{ rs_Code_Row_g N with F := f0 }]), (51, [{ gf_Inverse_g N with F := f1 }]), (40, [{ rs_mixed_g N with F := f2 }])]
theorem rs_Code_solve_CE (N : Nat) : rs_Code_solve_CA N (rs_Code_Row) (gf_Inverse N) (rs_mixed N) = rs_Code_solve_C N := by kernel_rfl
theorem rs_Code_solve_t (N : Nat) : TabC Try.prog (rs_Code_solve_C N) := tab_ok ⟨⟨rs_Code_Row_ok N, trivial⟩, ⟨gf_Inverse_ok N, trivial⟩, ⟨rs_mixed_ok N, trivial⟩, trivial⟩
theorem rs_Code_solve_i0 : loopsOf rs_Code_solve_c0 = [] := by kernel_rfl
noncomputable def rs_Code_solve_a0 (N : Nat) (f0 : Int × Int × Int × (List Int) → Option (Int × Int × (List Int) × (List Int))) (f1 : Int × Int × (List Int) → Option (Int × Int × Int × (List Int))) (f2 : (List Int) × (List (List Int)) × Int → Option ((List Int))) (next : (List (List Int)) × Int × (List Int) × Int × Int × Int × Int × (List Int) × (List Int) → Option ((Int × Int × (List Int) × (List Int)))) (x : (List (List Int)) × Int × (List Int) × Int × Int × Int × Int × (List Int) × (List Int)) : Option ((Int × Int × (List Int) × (List Int))) :=
  (cond (decide (x.2.2.2.2.1 < x.2.2.2.1))
  (cond ((decide ((0 : Int) ≤ x.2.2.2.2.1)) && (decide (x.2.2.2.2.1 < (((List.length x.2.2.1) : Nat) : Int))))
  ((Option.bind (f0 ((List.getD x.2.2.1 (Int.toNat x.2.2.2.2.1) (EK.dflt (.int .i64))), x.2.2.2.2.2.1, x.2.2.2.2.2.2.1, x.2.2.2.2.2.2.2.1)) fun r3 =>
  (cond (fits 1 ((List.length x.2.2.2.2.2.2.2.2) + (List.length r3.2.2.2)))
  ((next (x.1, x.2.1, x.2.2.1, x.2.2.2.1, (wrapF .i64 (x.2.2.2.2.1 + (1 : Int))), r3.1, r3.2.1, r3.2.2.1, (x.2.2.2.2.2.2.2.2 ++ r3.2.2.2))))
  none)))
  none)
  (some (x.2.2.2.2.2.1, x.2.2.2.2.2.2.1, x.2.2.2.2.2.2.2.1, x.2.2.2.2.2.2.2.2)))
theorem rs_Code_solve_f0 (N : Nat) (f0 : Int × Int × Int × (List Int) → Option (Int × Int × (List Int) × (List Int))) (f1 : Int × Int × (List Int) → Option (Int × Int × Int × (List Int))) (f2 : (List Int) × (List (List Int)) × Int → Option ((List Int))) (next) (x) : rs_Code_solve_a0 N f0 f1 f2 next x = loopStep Γ (rs_Code_solve_CA N f0 f1 f2) (rs_Code_solve_J N) 0 94 rs_Code_solve_d0 rs_Code_solve_c0 next x := by kernel_rfl
theorem rs_Code_solve_e0 (N : Nat) (next) (x) : rs_Code_solve_b0 N next x = loopStep Γ (rs_Code_solve_C N) (rs_Code_solve_J N) 0 94 rs_Code_solve_d0 rs_Code_solve_c0 next x := by
  rw [← rs_Code_solve_CE N]
  exact Eq.trans (by kernel_rfl) (rs_Code_solve_f0 N (rs_Code_Row) (gf_Inverse N) (rs_mixed N) next x)
theorem rs_Code_solve_k0 (N : Nat) : LoopOK Try.prog 94 rs_Code_solve_c0 ⟨rs_Code_solve_d0, loopF (rs_Code_solve_b0 N) N⟩ := loop_ok tabOK (rs_Code_solve_t N) mixedOK (J := rs_Code_solve_J N) (cx := 0) (body := rs_Code_solve_c0) (nt := 94) (l := rs_Code_solve_d0) (b := rs_Code_solve_b0 N) (jok_from rs_Code_solve_i0 ⟨trivial, trivial⟩) (rs_Code_solve_e0 N) N
theorem rs_Code_solve_i2 : loopsOf rs_Code_solve_c2 = [] := by kernel_rfl
noncomputable def rs_Code_solve_a2 (N : Nat) (f0 : Int × Int × Int × (List Int) → Option (Int × Int × (List Int) × (List Int))) (f1 : Int × Int × (List Int) → Option (Int × Int × Int × (List Int))) (f2 : (List Int) × (List (List Int)) × Int → Option ((List Int))) (next : (List (List Int)) × Int × Int × Int × Int × (List Int) × Int × Int × (List (List Int)) → Option ((Int × (List Int) × Int × Int × (List (List Int))))) (x : (List (List Int)) × Int × Int × Int × Int × (List Int) × Int × Int × (List (List Int))) : Option ((Int × (List Int) × Int × Int × (List (List Int)))) :=
  (cond (decide (x.2.2.2.1 < x.2.2.1))
  (let v2 : Int := (wrapF .i64 (x.2.2.2.1 * x.2.2.2.2.1))
  (let v4 : Int := (wrapF .i64 ((wrapF .i64 (x.2.2.2.1 + (1 : Int))) * x.2.2.2.2.1))
  (let v6 : Int := (wrapF .i64 ((wrapF .i64 (x.2.2.2.1 + (1 : Int))) * x.2.2.2.2.1))
  (cond ((((decide ((0 : Int) ≤ v2)) && (decide (v2 ≤ v4))) && (decide (v4 ≤ v6))) && (decide (v6 ≤ (((List.length x.2.2.2.2.2.1) : Nat) : Int))))
  ((let v7 : Nat := (Int.toNat v2)
  (let v8 : Nat := ((Int.toNat v4) - (Int.toNat v2))
  (cond (cond (decide ((v7 + v8) ≤ (List.length x.2.2.2.2.2.1))) true false)
  (Option.bind (f2 ((List.take v8 (List.drop v7 x.2.2.2.2.2.1)), x.1, x.2.1)) fun r10 =>
  (let v11 : List (List Int) := ([r10] : List (List Int))
  (cond (fits 24 ((List.length x.2.2.2.2.2.2.2.2) + (List.length v11)))
  ((next (x.1, x.2.1, x.2.2.1, (wrapF .i64 (x.2.2.2.1 + (1 : Int))), x.2.2.2.2.1, x.2.2.2.2.2.1, x.2.2.2.2.2.2.1, x.2.2.2.2.2.2.2.1, (x.2.2.2.2.2.2.2.2 ++ v11))))
  none)))
  none))))
  none))))
  (some (x.2.2.2.2.1, x.2.2.2.2.2.1, x.2.2.2.2.2.2.1, x.2.2.2.2.2.2.2.1, x.2.2.2.2.2.2.2.2)))
theorem rs_Code_solve_f2 (N : Nat) (f0 : Int × Int × Int × (List Int) → Option (Int × Int × (List Int) × (List Int))) (f1 : Int × Int × (List Int) → Option (Int × Int × Int × (List Int))) (f2 : (List Int) × (List (List Int)) × Int → Option ((List Int))) (next) (x) : rs_Code_solve_a2 N f0 f1 f2 next x = loopStep Γ (rs_Code_solve_CA N f0 f1 f2) (rs_Code_solve_J N) 0 94 rs_Code_solve_d2 rs_Code_solve_c2 next x := by kernel_rfl
theorem rs_Code_solve_e2 (N : Nat) (next) (x) : rs_Code_solve_b2 N next x = loopStep Γ (rs_Code_solve_C N) (rs_Code_solve_J N) 0 94 rs_Code_solve_d2 rs_Code_solve_c2 next x := by
  rw [← rs_Code_solve_CE N]
  exact Eq.trans (by kernel_rfl) (rs_Code_solve_f2 N (rs_Code_Row) (gf_Inverse N) (rs_mixed N) next x)
theorem rs_Code_solve_k2 (N : Nat) : LoopOK Try.prog 94 rs_Code_solve_c2 ⟨rs_Code_solve_d2, loopF (rs_Code_solve_b2 N) N⟩ := loop_ok tabOK (rs_Code_solve_t N) mixedOK (J := rs_Code_solve_J N) (cx := 0) (body := rs_Code_solve_c2) (nt := 94) (l := rs_Code_solve_d2) (b := rs_Code_solve_b2 N) (jok_from rs_Code_solve_i2 ⟨trivial, trivial⟩) (rs_Code_solve_e2 N) N
theorem rs_Code_solve_i : loopsOf rs_Code_solve_c = [(0, rs_Code_solve_c0), (2, rs_Code_solve_c2)] := by kernel_rfl
noncomputable def rs_Code_solve_a (N : Nat) (f0 : Int × Int × Int × (List Int) → Option (Int × Int × (List Int) × (List Int))) (f1 : Int × Int × (List Int) → Option (Int × Int × Int × (List Int))) (f2 : (List Int) × (List (List Int)) × Int → Option ((List Int))) (x : (List (List Int)) × (List Int) × Int × Int × Int × (List Int)) : Option (Int × Int × Int × (List Int) × (List (List Int))) :=
  (let v1 : Int := (wrapF .i64 (x.2.2.2.1 * x.2.2.2.1))
  (cond ((decide ((0 : Int) ≤ v1)) && (fits 1 (Int.toNat v1)))
  ((Option.bind (rs_Code_solve_l0 N (x.1, x.2.2.1, x.2.1, (((List.length x.2.1) : Nat) : Int), (0 : Int), x.2.2.2.1, x.2.2.2.2.1, x.2.2.2.2.2, (List.replicate 0 (EK.dflt (.int .u8))))) fun r4 =>
  (Option.bind (f1 (r4.1, r4.1, r4.2.2.2)) fun r5 =>
  (cond (!(decide (r5.2.2.1 = (0 : Int))))
  (some (r5.2.2.1, r4.1, r4.2.1, r4.2.2.1, ([] : List (List Int))))
  (Option.bind (rs_Code_solve_l2 N (x.1, x.2.2.1, r4.1, (0 : Int), r4.1, r5.2.2.2, r5.1, r5.2.1, ([] : List (List Int)))) fun r7 =>
  (some ((0 : Int), r7.1, r4.2.1, r4.2.2.1, r7.2.2.2.2)))))))
  none))
theorem rs_Code_solve_f (N : Nat) (f0 : Int × Int × Int × (List Int) → Option (Int × Int × (List Int) × (List Int))) (f1 : Int × Int × (List Int) → Option (Int × Int × Int × (List Int))) (f2 : (List Int) × (List (List Int)) × Int → Option ((List Int))) (x) : rs_Code_solve_a N f0 f1 f2 x = fnStep Γ (rs_Code_solve_CA N f0 f1 f2) (rs_Code_solve_J N) 94 Try.f39.results.toList (rs_Code_solve_g N) rs_Code_solve_o rs_Code_solve_c x := by kernel_rfl
theorem rs_Code_solve_e (N : Nat) (x) : (rs_Code_solve_g N).F x = fnStep Γ (rs_Code_solve_C N) (rs_Code_solve_J N) 94 Try.f39.results.toList (rs_Code_solve_g N) rs_Code_solve_o rs_Code_solve_c x := by
  rw [← rs_Code_solve_CE N]
  exact Eq.trans (by kernel_rfl) (rs_Code_solve_f N (rs_Code_Row) (gf_Inverse N) (rs_mixed N) x)
theorem rs_Code_solve_y : Try.f39.body = some rs_Code_solve_c := by kernel_rfl
theorem rs_Code_solve_n : (Try.f39.name == "runtime.NumGoroutine") = false := by kernel_rfl
theorem rs_Code_solve_ok (N : Nat) : FnDoes Try.prog 39 (rs_Code_solve_g N) := fn_ok tabOK (rs_Code_solve_t N) mixedOK (J := rs_Code_solve_J N) (body := rs_Code_solve_c) Try.func39 rs_Code_solve_y rs_Code_solve_n Try.ntmps39 (jok_from rs_Code_solve_i ⟨⟨.inr ⟨_, rfl, rs_Code_solve_k0 N⟩, .inr ⟨_, rfl, rs_Code_solve_k2 N⟩, trivial⟩, trivial⟩) rfl rfl (le_of_ble rfl) (rs_Code_solve_e N)
noncomputable def rs_mixed_v1_c : Code := codeOf Try.f40.body
noncomputable def rs_mixed_v1_c0 : Code := codeOf (getLoop 0 rs_mixed_v1_c)
def rs_mixed_v1_d0 : LD := { ins := ⟨[(1, (.av (.one (.rsl (.sl (.int .u8)))))), (7, (.av (.one (.const (.slw 0 1))))), (14, (.av (.one (.rsl (.int .u8))))), (15, (.av (.one (.int .i64)))), (16, (.av (.one (.int .i64))))], [(.sh (.arr (.int .u8) none), false)]⟩, mov := [], wr := [0], outs := [(.exit 0, ⟨[], [(.sh (.arr (.int .u8) none), false)]⟩)], its := [.lst (.sl (.int .u8)), .lst (.int .u8), .int, .int, .lst (.int .u8)], ots := [[.lst (.int .u8)]] }
noncomputable def rs_mixed_v1_J (N : Nat) : Nat → Hint := fun cx => hintOf cx [(0, { reg := fun k => assoc0 k [], cnd := fun k => assoc0 k [], loop := fun k => assoc0 k [(0, ⟨rs_mixed_v1_d0, loopF (rs_mixed_v1_b0 N) N⟩)], nil := fun k => assoc0 k [], unr := fun k => assocN k [], blk := fun k => assoc0 k [(1, ⟨[], [0], [(.normal, ⟨[], [(.sh (.arr (.int .u8) none), false)]⟩)], [[.lst (.int .u8)]]⟩)] })]
noncomputable def rs_mixed_v1_C (N : Nat) : Nat → List GS := fun k => tabOf k [(47, [gf_Scale_g N]), (46, [gf_Sum_g N])]
def rs_mixed_v1_o : List (Shp × List Nat) := [(⟨[(0, (.av (.one (.const (.slw 0 1)))))], [(.sh (.arr (.int .u8) none), false)]⟩, [])]
noncomputable def rs_mixed_v1_g (N : Nat) : GS := { ins := ⟨[(0, (.av (.one (.rsl (.int .u8))))), (1, (.av (.one (.rsl (.sl (.int .u8)))))), (2, (.av (.one (.int .i64))))], []⟩, lend := [.lend (.int .u8), .lend (.sl (.int .u8)), .keep], outs := rs_mixed_v1_o.map fun s => ssOf s.1, its := [.lst (.int .u8), .lst (.sl (.int .u8)), .int], ots := [[.lst (.int .u8)]], F := rs_mixed_v1 N }
noncomputable def rs_mixed_v1_CA (N : Nat) (f0 : Int × (List Int) → Option ((List Int))) (f1 : (List Int) × (List Int) → Option (Int × (List Int))) : Nat → List GS := fun k => tabOf k [(47, [{ gf_Scale_g N with F := f0 }]), (46, [{ gf_Sum_g N with F := f1 }])]
theorem rs_mixed_v1_CE (N : Nat) : rs_mixed_v1_CA N (gf_Scale N) (gf_Sum N) = rs_mixed_v1_C N := by kernel_rfl
theorem rs_mixed_v1_t (N : Nat) : TabC Try.prog (rs_mixed_v1_C N) := tab_ok ⟨⟨gf_Scale_ok N, trivial⟩, ⟨gf_Sum_ok N, trivial⟩, trivial⟩
theorem rs_mixed_v1_i0 : loopsOf rs_mixed_v1_c0 = [] := by kernel_rfl
noncomputable def rs_mixed_v1_a0 (N : Nat) (f0 : Int × (List Int) → Option ((List Int))) (f1 : (List Int) × (List Int) → Option (Int × (List Int))) (next : (List (List Int)) × (List Int) × Int × Int × (List Int) → Option (((List Int)))) (x : (List (List Int)) × (List Int) × Int × Int × (List Int)) : Option (((List Int))) :=
  (cond (decide (x.2.2.2.1 < x.2.2.1))
  (Option.bind
  (cond ((decide ((0 : Int) ≤ x.2.2.2.1)) && (decide (x.2.2.2.1 < (((List.length x.2.1) : Nat) : Int))))
  ((let v2 : Int := (List.getD x.2.1 (Int.toNat x.2.2.2.1) (EK.dflt (.int .u8)))
  (cond (decide (v2 = (0 : Int)))
  (some x.2.2.2.2)
  (cond ((decide ((0 : Int) ≤ x.2.2.2.1)) && (decide (x.2.2.2.1 < (((List.length x.1) : Nat) : Int))))
  ((Option.bind (f0 (v2, (List.getD x.1 (Int.toNat x.2.2.2.1) (EK.dflt (.sl (.int .u8)))))) fun r5 =>
  (Option.bind (f1 (x.2.2.2.2, r5)) fun r6 =>
  (cond (decide ((0 + (List.length x.2.2.2.2)) ≤ (List.length x.2.2.2.2)))
  ((some (List.take 0 x.2.2.2.2 ++ List.take (min (List.length r6.2) (List.length x.2.2.2.2)) r6.2 ++ List.drop (0 + (min (List.length r6.2) (List.length x.2.2.2.2))) x.2.2.2.2)))
  none))))
  none))))
  none)
  fun r9 =>
  (next (x.1, x.2.1, x.2.2.1, (wrapF .i64 (x.2.2.2.1 + (1 : Int))), r9)))
  (some x.2.2.2.2))
theorem rs_mixed_v1_f0 (N : Nat) (f0 : Int × (List Int) → Option ((List Int))) (f1 : (List Int) × (List Int) → Option (Int × (List Int))) (next) (x) : rs_mixed_v1_a0 N f0 f1 next x = loopStep Γ (rs_mixed_v1_CA N f0 f1) (rs_mixed_v1_J N) 0 39 rs_mixed_v1_d0 rs_mixed_v1_c0 next x := by kernel_rfl
theorem rs_mixed_v1_e0 (N : Nat) (next) (x) : rs_mixed_v1_b0 N next x = loopStep Γ (rs_mixed_v1_C N) (rs_mixed_v1_J N) 0 39 rs_mixed_v1_d0 rs_mixed_v1_c0 next x := by
  rw [← rs_mixed_v1_CE N]
  exact Eq.trans (by kernel_rfl) (rs_mixed_v1_f0 N (gf_Scale N) (gf_Sum N) next x)
theorem rs_mixed_v1_k0 (N : Nat) : LoopOK Try.prog 39 rs_mixed_v1_c0 ⟨rs_mixed_v1_d0, loopF (rs_mixed_v1_b0 N) N⟩ := loop_ok tabOK (rs_mixed_v1_t N) mixedOK (J := rs_mixed_v1_J N) (cx := 0) (body := rs_mixed_v1_c0) (nt := 39) (l := rs_mixed_v1_d0) (b := rs_mixed_v1_b0 N) (jok_from rs_mixed_v1_i0 ⟨trivial, trivial⟩) (rs_mixed_v1_e0 N) N
theorem rs_mixed_v1_i : loopsOf rs_mixed_v1_c = [(0, rs_mixed_v1_c0)] := by kernel_rfl
noncomputable def rs_mixed_v1_a (N : Nat) (f0 : Int × (List Int) → Option ((List Int))) (f1 : (List Int) × (List Int) → Option (Int × (List Int))) (x : (List Int) × (List (List Int)) × Int) : Option ((List Int)) :=
  (cond ((decide ((0 : Int) ≤ x.2.2)) && (fits 1 (Int.toNat x.2.2)))
  ((Option.bind (rs_mixed_v1_l0 N (x.2.1, x.1, (((List.length x.1) : Nat) : Int), (0 : Int), (List.replicate (Int.toNat x.2.2) (EK.dflt (.int .u8))))) fun r3 =>
  (some r3)))
  none)
theorem rs_mixed_v1_f (N : Nat) (f0 : Int × (List Int) → Option ((List Int))) (f1 : (List Int) × (List Int) → Option (Int × (List Int))) (x) : rs_mixed_v1_a N f0 f1 x = fnStep Γ (rs_mixed_v1_CA N f0 f1) (rs_mixed_v1_J N) 39 Try.f40.results.toList (rs_mixed_v1_g N) rs_mixed_v1_o rs_mixed_v1_c x := by kernel_rfl
theorem rs_mixed_v1_e (N : Nat) (x) : (rs_mixed_v1_g N).F x = fnStep Γ (rs_mixed_v1_C N) (rs_mixed_v1_J N) 39 Try.f40.results.toList (rs_mixed_v1_g N) rs_mixed_v1_o rs_mixed_v1_c x := by
  rw [← rs_mixed_v1_CE N]
  exact Eq.trans (by kernel_rfl) (rs_mixed_v1_f N (gf_Scale N) (gf_Sum N) x)
theorem rs_mixed_v1_y : Try.f40.body = some rs_mixed_v1_c := by kernel_rfl
theorem rs_mixed_v1_n : (Try.f40.name == "runtime.NumGoroutine") = false := by kernel_rfl
theorem rs_mixed_v1_ok (N : Nat) : FnDoes Try.prog 40 (rs_mixed_v1_g N) := fn_ok tabOK (rs_mixed_v1_t N) mixedOK (J := rs_mixed_v1_J N) (body := rs_mixed_v1_c) Try.func40 rs_mixed_v1_y rs_mixed_v1_n Try.ntmps40 (jok_from rs_mixed_v1_i ⟨⟨.inr ⟨_, rfl, rs_mixed_v1_k0 N⟩, trivial⟩, trivial⟩) rfl rfl (le_of_ble rfl) (rs_mixed_v1_e N)
end Go.Rf.W
