/-
  The printed functions are what the program does.
-/
import Derived.Test.YtmkpcnmjhmdndaaGfK0
set_option linter.unusedVariables false
set_option maxRecDepth 100000
namespace Go.Rf.W
open Go Go.Rf Go.Proofs
noncomputable def granarylaw02_own_c : Code := codeOf Try.f34.body
noncomputable def granarylaw02_own_J (N : Nat) : Nat → Hint := fun cx => hintOf cx []
noncomputable def granarylaw02_own_C (N : Nat) : Nat → List GS := fun k => tabOf k []
def granarylaw02_own_o : List (Shp × List Nat) := [(⟨[(0, (.av (.agg [(.one (.int .i64)), (.one (.int .i64)), (.one (.const (.slw 0 1)))])))], [(.sh (.arr (.int .u8) none), false)]⟩, [])]
noncomputable def granarylaw02_own_g (N : Nat) : GS := { ins := ⟨[(0, (.av (.agg [(.one (.int .i64)), (.one (.int .i64)), (.one (.rsl (.int .u8)))])))], []⟩, lend := [.keep], outs := granarylaw02_own_o.map fun s => ssOf s.1, its := [.int, .int, .lst (.int .u8)], ots := [[.int, .int, .lst (.int .u8)]], F := granarylaw02_own }
theorem granarylaw02_own_t (N : Nat) : TabC Try.prog (granarylaw02_own_C N) := tab_ok trivial
theorem granarylaw02_own_i : loopsOf granarylaw02_own_c = [] := by kernel_rfl
theorem granarylaw02_own_e (N : Nat) (x) : (granarylaw02_own_g N).F x = fnStep Γ (granarylaw02_own_C N) (granarylaw02_own_J N) 9 Try.f34.results.toList (granarylaw02_own_g N) granarylaw02_own_o granarylaw02_own_c x := by kernel_rfl
theorem granarylaw02_own_y : Try.f34.body = some granarylaw02_own_c := by kernel_rfl
theorem granarylaw02_own_n : (Try.f34.name == "runtime.NumGoroutine") = false := by kernel_rfl
theorem granarylaw02_own_ok (N : Nat) : FnDoes Try.prog 34 (granarylaw02_own_g N) := fn_ok tabOK (granarylaw02_own_t N) mixedOK (J := granarylaw02_own_J N) (body := granarylaw02_own_c) Try.func34 granarylaw02_own_y granarylaw02_own_n Try.ntmps34 (jok_from granarylaw02_own_i trivial) rfl rfl (le_of_ble rfl) (granarylaw02_own_e N)
noncomputable def gf_clear2_v1_c : Code := codeOf Try.f63.body
noncomputable def gf_clear2_v1_c0 : Code := codeOf (getLoop 0 gf_clear2_v1_c)
noncomputable def gf_clear2_v1_c2 : Code := codeOf (getLoop 2 gf_clear2_v1_c)
noncomputable def gf_clear2_v1_c6 : Code := codeOf (getLoop 6 gf_clear2_v1_c)
noncomputable def gf_clear2_v1_c8 : Code := codeOf (getLoop 8 gf_clear2_v1_c)
def gf_clear2_v1_d2 : LD := { ins := ⟨[(2, (.av (.one (.const (.ptr ⟨1, 0, 0, 0⟩))))), (3, (.av (.one (.const (.ptr ⟨4, 0, 0, 0⟩))))), (5, (.av (.one (.int .i64)))), (6, (.av (.one (.int .i64)))), (7, (.av (.one (.int .i64)))), (18, (.av (.one (.int .i64)))), (19, (.av (.one (.int .i64))))], [(.sh (.arr (.int .u8) none), false), (.sh (.one (.int .i64)), true), (.sh (.one (.int .i64)), true), (.sh (.one (.const (.slw 0 1))), false), (.keep, false), (.keep, false), (.keep, false)]⟩, mov := [], wr := [0, 1, 2, 3], outs := [(.exit 2, ⟨[(7, (.av (.one (.int .i64))))], [(.sh (.arr (.int .u8) none), false), (.sh (.one (.int .i64)), true), (.sh (.one (.int .i64)), true), (.sh (.one (.const (.slw 0 1))), false), (.keep, false), (.keep, false), (.keep, false)]⟩)], its := [.int, .int, .int, .int, .int, .lst (.int .u8), .int, .int], ots := [[.int, .lst (.int .u8), .int, .int]] }
def gf_clear2_v1_d6_1 : LD := { ins := ⟨[(2, (.av (.one (.const (.ptr ⟨1, 0, 0, 0⟩))))), (3, (.av (.one (.const (.ptr ⟨4, 0, 0, 0⟩))))), (5, (.av (.one (.int .i64)))), (6, (.av (.one (.int .i64)))), (7, (.av (.one (.int .i64)))), (8, (.av (.one (.int .u8)))), (12, (.av (.one (.sl 0 1)))), (13, (.av (.one (.sl 0 1)))), (18, (.av (.one (.int .i64)))), (19, (.av (.one (.int .i64)))), (54, (.av (.one (.sl 7 3)))), (55, (.av (.one (.const (.int .i64 (2 : Int)))))), (56, (.av (.one (.const (.int .i64 (0 : Int)))))), (70, (.av (.one (.int .i64)))), (71, (.av (.one (.int .i64))))], [(.sh (.arr (.int .u8) none), false), (.keep, false), (.keep, false), (.keep, false), (.keep, false), (.keep, false), (.keep, false), (.keep, false), (.keep, false), (.keep, false), (.keep, false)]⟩, mov := [], wr := [0], outs := [(.exit 6, ⟨[], [(.sh (.arr (.int .u8) none), false), (.keep, false), (.keep, false), (.keep, false), (.keep, false), (.keep, false), (.keep, false), (.keep, false), (.keep, false), (.keep, false), (.keep, false)]⟩)], its := [.int, .int, .int, .int, .nat, .nat, .nat, .nat, .int, .int, .nat, .nat, .int, .int, .lst (.int .u8)], ots := [[.lst (.int .u8)]] }
def gf_clear2_v1_d8 : LD := { ins := ⟨[(2, (.av (.one (.const (.ptr ⟨1, 0, 0, 0⟩))))), (3, (.av (.one (.const (.ptr ⟨4, 0, 0, 0⟩))))), (5, (.av (.one (.int .i64)))), (6, (.av (.one (.int .i64)))), (18, (.av (.one (.int .i64)))), (19, (.av (.one (.int .i64)))), (96, (.av (.one (.int .i64)))), (97, (.av (.one (.int .i64))))], [(.sh (.arr (.int .u8) none), false), (.sh (.one (.int .i64)), true), (.sh (.one (.int .i64)), true), (.sh (.one (.const (.slw 0 1))), false), (.sh (.one (.const (.int .i64 (0 : Int)))), true), (.keep, false), (.keep, false), (.keep, false), (.keep, false), (.keep, false), (.keep, false)]⟩, mov := [], wr := [0, 1, 2, 3, 4], outs := [(.exit 8, ⟨[], [(.sh (.arr (.int .u8) none), false), (.sh (.one (.int .i64)), true), (.sh (.one (.int .i64)), true), (.sh (.one (.const (.slw 0 1))), false), (.sh (.one (.const (.int .i64 (0 : Int)))), true), (.keep, false), (.keep, false), (.keep, false), (.keep, false), (.keep, false), (.keep, false)]⟩)], its := [.int, .int, .int, .int, .int, .int, .lst (.int .u8), .int, .int], ots := [[.lst (.int .u8), .int, .int]] }
def gf_clear2_v1_d0 : LD := { ins := ⟨[(2, (.av (.one (.const (.ptr ⟨1, 0, 0, 0⟩))))), (3, (.av (.one (.const (.ptr ⟨4, 0, 0, 0⟩))))), (5, (.av (.one (.int .i64)))), (18, (.av (.one (.int .i64)))), (19, (.av (.one (.int .i64))))], [(.sh (.arr (.int .u8) none), false), (.sh (.one (.int .i64)), true), (.sh (.one (.int .i64)), true), (.sh (.one (.const (.slw 0 1))), false), (.sh (.one (.const (.int .i64 (0 : Int)))), true), (.sh (.one (.int .i64)), true), (.sh (.one (.rsl (.int .u8))), false)]⟩, mov := [], wr := [0, 1, 2, 3, 4, 5, 6], outs := [(.exit 0, ⟨[(5, (.av (.one (.int .i64))))], [(.sh (.arr (.int .u8) none), false), (.sh (.one (.int .i64)), true), (.sh (.one (.int .i64)), true), (.sh (.one (.const (.slw 0 1))), false), (.sh (.one (.const (.int .i64 (0 : Int)))), true), (.sh (.one (.int .i64)), true), (.sh (.one (.rsl (.int .u8))), false)]⟩)], its := [.int, .int, .int, .lst (.int .u8), .int, .int, .int, .lst (.int .u8)], ots := [[.int, .lst (.int .u8), .int, .int, .int, .lst (.int .u8)]] }
noncomputable def gf_clear2_v1_J (N : Nat) : Nat → Hint := fun cx => hintOf cx [(0, { reg := fun k => assoc0 k [(6, ⟨⟨[(35, (.av (.one .bool)))], [(.sh (.arr (.int .u8) none), false), (.keep, true), (.keep, true), (.keep, false), (.dead, false), (.dead, false), (.dead, false)]⟩, [], [0], [.bool, .lst (.int .u8)]⟩)], cnd := fun k => assoc0 k [(102, ⟨[], [0], [(.normal, ⟨[], [(.sh (.arr (.int .u8) none), false), (.keep, true), (.keep, true), (.keep, false), (.keep, true), (.dead, false), (.dead, false), (.dead, false), (.dead, false), (.dead, false), (.dead, false)]⟩)], [[.lst (.int .u8)]]⟩)], loop := fun k => assoc0 k [(2, ⟨gf_clear2_v1_d2, loopF (gf_clear2_v1_b2 N) N⟩), (8, ⟨gf_clear2_v1_d8, loopF (gf_clear2_v1_b8 N) N⟩), (0, ⟨gf_clear2_v1_d0, loopF (gf_clear2_v1_b0 N) N⟩)], nil := fun k => assoc0 k [], unr := fun k => assocN k [(4, 3)], blk := fun k => assoc0 k [(1, ⟨[], [0, 1, 2, 3, 4], [(.normal, ⟨[(5, (.av (.one (.int .i64))))], [(.sh (.arr (.int .u8) none), false), (.sh (.one (.int .i64)), true), (.sh (.one (.int .i64)), true), (.sh (.one (.const (.slw 0 1))), false), (.sh (.one (.const (.int .i64 (0 : Int)))), true), (.keep, true), (.keep, false)]⟩)], [[.int, .lst (.int .u8), .int, .int]]⟩)] }),
  (1, { reg := fun k => assoc0 k [], cnd := fun k => assoc0 k [], loop := fun k => assoc0 k [(6, ⟨gf_clear2_v1_d6_1, loopF (gf_clear2_v1_b6_1 N) N⟩)], nil := fun k => assoc0 k [], unr := fun k => assocN k [], blk := fun k => assoc0 k [(5, ⟨[], [0], [(.normal, ⟨[], [(.sh (.arr (.int .u8) none), false), (.keep, true), (.keep, true), (.keep, false), (.keep, true), (.keep, true), (.keep, false), (.keep, false)]⟩)], [[.lst (.int .u8)]]⟩)] })]
noncomputable def gf_clear2_v1_C (N : Nat) : Nat → List GS := fun k => tabOf k [(59, [gf_row_g N]), (14, [gf_Inv_g N]), (45, [gf_Scale_g N]), (66, [gf_add_g N])]
def gf_clear2_v1_o : List (Shp × List Nat) := [(⟨[(0, (.av (.one (.int .i64))))], [(.sh (.arr (.int .u8) none), false)]⟩, [])]
noncomputable def gf_clear2_v1_g (N : Nat) : GS := { ins := ⟨[(0, (.av (.agg [(.one (.int .i64)), (.one (.int .i64)), (.one (.const (.slw 0 1)))]))), (1, (.av (.agg [(.one (.const (.int .i64 (0 : Int)))), (.one (.int .i64)), (.one (.rsl (.int .u8)))])))], [(some (.arr (.int .u8) none), false)]⟩, lend := [.keep, .keep], outs := gf_clear2_v1_o.map fun s => ssOf s.1, its := [.int, .int, .int, .lst (.int .u8), .lst (.int .u8)], ots := [[.int, .lst (.int .u8)]], F := gf_clear2_v1 N }
noncomputable def gf_clear2_v1_CA (N : Nat) (f0 : Int × Int × Int × (List Int) → Option (Nat × Nat × (List Int))) (f1 : Int → Option (Int × Int)) (f2 : Int × (List Int) → Option ((List Int))) (f3 : Nat × Nat × Int × Nat × Nat × (List Int) → Option ((List Int))) : Nat → List GS := fun k => tabOf k [(59, [{ gf_row_g N with F := f0 }]), (14, [{ gf_Inv_g N with F := f1 }]), (45, [{ gf_Scale_g N with F := f2 }]), (66, [{ gf_add_g N with F := f3 }])]
theorem gf_clear2_v1_CE (N : Nat) : gf_clear2_v1_CA N (gf_row) (gf_Inv N) (gf_Scale N) (gf_add N) = gf_clear2_v1_C N := by kernel_rfl
theorem gf_clear2_v1_t (N : Nat) : TabC Try.prog (gf_clear2_v1_C N) := tab_ok ⟨⟨gf_row_ok N, trivial⟩, ⟨gf_Inv_ok N, trivial⟩, ⟨gf_Scale_ok N, trivial⟩, ⟨gf_add_ok N, trivial⟩, trivial⟩
theorem gf_clear2_v1_i6 : loopsOf gf_clear2_v1_c6 = [] := by kernel_rfl
noncomputable def gf_clear2_v1_a6_1 (N : Nat) (f0 : Int × Int × Int × (List Int) → Option (Nat × Nat × (List Int))) (f1 : Int → Option (Int × Int)) (f2 : Int × (List Int) → Option ((List Int))) (f3 : Nat × Nat × Int × Nat × Nat × (List Int) → Option ((List Int))) (next : Int × Int × Int × Int × Nat × Nat × Nat × Nat × Int × Int × Nat × Nat × Int × Int × (List Int) → Option (((List Int)))) (x : Int × Int × Int × Int × Nat × Nat × Nat × Nat × Int × Int × Nat × Nat × Int × Int × (List Int)) : Option (((List Int))) :=
  (cond (decide (x.2.2.2.2.2.2.2.2.2.2.2.2.2.1 < x.2.2.2.2.2.2.2.2.2.2.2.2.1))
  (cond ((decide ((0 : Int) ≤ x.2.2.2.2.2.2.2.2.2.2.2.2.2.1)) && (decide (x.2.2.2.2.2.2.2.2.2.2.2.2.2.1 < ((x.2.2.2.2.2.2.2.1 : Nat) : Int))))
  ((let v2 : Nat := ((Int.toNat x.2.2.2.2.2.2.2.2.2.2.2.2.2.1) + x.2.2.2.2.2.2.1)
  (cond (decide (v2 < (List.length x.2.2.2.2.2.2.2.2.2.2.2.2.2.2)))
  ((cond ((decide ((0 : Int) ≤ x.2.2.2.2.2.2.2.2.2.2.2.2.2.1)) && (decide (x.2.2.2.2.2.2.2.2.2.2.2.2.2.1 < ((x.2.2.2.2.2.1 : Nat) : Int))))
  ((let v4 : Nat := ((Int.toNat x.2.2.2.2.2.2.2.2.2.2.2.2.2.1) + x.2.2.2.2.1)
  (cond (decide (v4 < (List.length x.2.2.2.2.2.2.2.2.2.2.2.2.2.2)))
  ((cond ((decide ((0 : Int) ≤ x.2.2.2.2.2.2.2.2.2.2.2.2.2.1)) && (decide (x.2.2.2.2.2.2.2.2.2.2.2.2.2.1 < ((x.2.2.2.2.2.1 : Nat) : Int))))
  ((let v6 : Nat := ((Int.toNat x.2.2.2.2.2.2.2.2.2.2.2.2.2.1) + x.2.2.2.2.1)
  (cond (decide (v6 < (List.length x.2.2.2.2.2.2.2.2.2.2.2.2.2.2)))
  ((let v7 : List Int := (List.set x.2.2.2.2.2.2.2.2.2.2.2.2.2.2 v6 (List.getD x.2.2.2.2.2.2.2.2.2.2.2.2.2.2 v2 (EK.dflt (.int .u8))))
  (cond ((decide ((0 : Int) ≤ x.2.2.2.2.2.2.2.2.2.2.2.2.2.1)) && (decide (x.2.2.2.2.2.2.2.2.2.2.2.2.2.1 < ((x.2.2.2.2.2.2.2.1 : Nat) : Int))))
  ((let v8 : Nat := ((Int.toNat x.2.2.2.2.2.2.2.2.2.2.2.2.2.1) + x.2.2.2.2.2.2.1)
  (cond (decide (v8 < (List.length v7)))
  ((next (x.1, x.2.1, x.2.2.1, x.2.2.2.1, x.2.2.2.2.1, x.2.2.2.2.2.1, x.2.2.2.2.2.2.1, x.2.2.2.2.2.2.2.1, x.2.2.2.2.2.2.2.2.1, x.2.2.2.2.2.2.2.2.2.1, x.2.2.2.2.2.2.2.2.2.2.1, x.2.2.2.2.2.2.2.2.2.2.2.1, x.2.2.2.2.2.2.2.2.2.2.2.2.1, (wrapF .i64 (x.2.2.2.2.2.2.2.2.2.2.2.2.2.1 + (1 : Int))), (List.set v7 v8 (List.getD x.2.2.2.2.2.2.2.2.2.2.2.2.2.2 v4 (EK.dflt (.int .u8)))))))
  none)))
  none)))
  none)))
  none))
  none)))
  none))
  none)))
  none)
  (some x.2.2.2.2.2.2.2.2.2.2.2.2.2.2))
theorem gf_clear2_v1_f6_1 (N : Nat) (f0 : Int × Int × Int × (List Int) → Option (Nat × Nat × (List Int))) (f1 : Int → Option (Int × Int)) (f2 : Int × (List Int) → Option ((List Int))) (f3 : Nat × Nat × Int × Nat × Nat × (List Int) → Option ((List Int))) (next) (x) : gf_clear2_v1_a6_1 N f0 f1 f2 f3 next x = loopStep Γ (gf_clear2_v1_CA N f0 f1 f2 f3) (gf_clear2_v1_J N) 1 133 gf_clear2_v1_d6_1 gf_clear2_v1_c6 next x := by kernel_rfl
theorem gf_clear2_v1_e6_1 (N : Nat) (next) (x) : gf_clear2_v1_b6_1 N next x = loopStep Γ (gf_clear2_v1_C N) (gf_clear2_v1_J N) 1 133 gf_clear2_v1_d6_1 gf_clear2_v1_c6 next x := by
  rw [← gf_clear2_v1_CE N]
  exact Eq.trans (by kernel_rfl) (gf_clear2_v1_f6_1 N (gf_row) (gf_Inv N) (gf_Scale N) (gf_add N) next x)
theorem gf_clear2_v1_k6_1 (N : Nat) : LoopOK Try.prog 133 gf_clear2_v1_c6 ⟨gf_clear2_v1_d6_1, loopF (gf_clear2_v1_b6_1 N) N⟩ := loop_ok tabOK (gf_clear2_v1_t N) mixedOK (J := gf_clear2_v1_J N) (cx := 1) (body := gf_clear2_v1_c6) (nt := 133) (l := gf_clear2_v1_d6_1) (b := gf_clear2_v1_b6_1 N) (jok_from gf_clear2_v1_i6 ⟨trivial, trivial, trivial⟩) (gf_clear2_v1_e6_1 N) N
theorem gf_clear2_v1_i2 : loopsOf gf_clear2_v1_c2 = [] := by kernel_rfl
noncomputable def gf_clear2_v1_a2 (N : Nat) (f0 : Int × Int × Int × (List Int) → Option (Nat × Nat × (List Int))) (f1 : Int → Option (Int × Int)) (f2 : Int × (List Int) → Option ((List Int))) (f3 : Nat × Nat × Int × Nat × Nat × (List Int) → Option ((List Int))) (next : Int × Int × Int × Int × Int × (List Int) × Int × Int → Option ((Int × (List Int) × Int × Int))) (x : Int × Int × Int × Int × Int × (List Int) × Int × Int) : Option ((Int × (List Int) × Int × Int)) :=
  (Option.bind
  (cond (decide (x.2.2.1 < x.2.2.2.2.2.2.1))
  (Option.bind (f0 (x.2.2.2.2.2.2.1, x.2.2.2.2.2.2.2, x.2.2.1, x.2.2.2.2.2.1)) fun r2 =>
  (cond ((decide ((0 : Int) ≤ x.2.1)) && (decide (x.2.1 < ((r2.2.1 : Nat) : Int))))
  ((let v3 : Nat := ((Int.toNat x.2.1) + r2.1)
  (cond (decide (v3 < (List.length r2.2.2)))
  ((some ((decide ((List.getD r2.2.2 v3 (EK.dflt (.int .u8))) = (0 : Int))), r2.2.2)))
  none)))
  none))
  (some (false, x.2.2.2.2.2.1)))
  fun r6 =>
  (cond r6.1
  (next (x.1, x.2.1, (wrapF .i64 (x.2.2.1 + (1 : Int))), x.2.2.2.1, x.2.2.2.2.1, r6.2, x.2.2.2.2.2.2.1, x.2.2.2.2.2.2.2))
  (some (x.2.2.1, r6.2, x.2.2.2.2.2.2.1, x.2.2.2.2.2.2.2))))
theorem gf_clear2_v1_f2 (N : Nat) (f0 : Int × Int × Int × (List Int) → Option (Nat × Nat × (List Int))) (f1 : Int → Option (Int × Int)) (f2 : Int × (List Int) → Option ((List Int))) (f3 : Nat × Nat × Int × Nat × Nat × (List Int) → Option ((List Int))) (next) (x) : gf_clear2_v1_a2 N f0 f1 f2 f3 next x = loopStep Γ (gf_clear2_v1_CA N f0 f1 f2 f3) (gf_clear2_v1_J N) 0 133 gf_clear2_v1_d2 gf_clear2_v1_c2 next x := by kernel_rfl
theorem gf_clear2_v1_e2 (N : Nat) (next) (x) : gf_clear2_v1_b2 N next x = loopStep Γ (gf_clear2_v1_C N) (gf_clear2_v1_J N) 0 133 gf_clear2_v1_d2 gf_clear2_v1_c2 next x := by
  rw [← gf_clear2_v1_CE N]
  exact Eq.trans (by kernel_rfl) (gf_clear2_v1_f2 N (gf_row) (gf_Inv N) (gf_Scale N) (gf_add N) next x)
theorem gf_clear2_v1_k2 (N : Nat) : LoopOK Try.prog 133 gf_clear2_v1_c2 ⟨gf_clear2_v1_d2, loopF (gf_clear2_v1_b2 N) N⟩ := loop_ok tabOK (gf_clear2_v1_t N) mixedOK (J := gf_clear2_v1_J N) (cx := 0) (body := gf_clear2_v1_c2) (nt := 133) (l := gf_clear2_v1_d2) (b := gf_clear2_v1_b2 N) (jok_from gf_clear2_v1_i2 ⟨trivial, trivial, trivial⟩) (gf_clear2_v1_e2 N) N
theorem gf_clear2_v1_i8 : loopsOf gf_clear2_v1_c8 = [] := by kernel_rfl
noncomputable def gf_clear2_v1_a8 (N : Nat) (f0 : Int × Int × Int × (List Int) → Option (Nat × Nat × (List Int))) (f1 : Int → Option (Int × Int)) (f2 : Int × (List Int) → Option ((List Int))) (f3 : Nat × Nat × Int × Nat × Nat × (List Int) → Option ((List Int))) (next : Int × Int × Int × Int × Int × Int × (List Int) × Int × Int → Option (((List Int) × Int × Int))) (x : Int × Int × Int × Int × Int × Int × (List Int) × Int × Int) : Option (((List Int) × Int × Int)) :=
  (cond (decide (x.2.2.2.2.2.1 < x.2.2.2.2.1))
  (Option.bind
  (cond (!(decide (x.2.2.2.2.2.1 = x.1)))
  (Option.bind (f0 (x.2.2.2.2.2.2.2.1, x.2.2.2.2.2.2.2.2, x.2.2.2.2.2.1, x.2.2.2.2.2.2.1)) fun r3 =>
  (cond ((decide ((0 : Int) ≤ x.2.1)) && (decide (x.2.1 < ((r3.2.1 : Nat) : Int))))
  ((let v4 : Nat := ((Int.toNat x.2.1) + r3.1)
  (cond (decide (v4 < (List.length r3.2.2)))
  ((Option.bind (f0 (x.2.2.2.2.2.2.2.1, x.2.2.2.2.2.2.2.2, x.2.2.2.2.2.1, r3.2.2)) fun r6 =>
  (Option.bind (f0 (x.2.2.2.2.2.2.2.1, x.2.2.2.2.2.2.2.2, x.1, r6.2.2)) fun r7 =>
  (Option.bind (f3 (r6.1, r6.2.1, (List.getD r3.2.2 v4 (EK.dflt (.int .u8))), r7.1, r7.2.1, r7.2.2)) fun r8 =>
  (some r8)))))
  none)))
  none))
  (some x.2.2.2.2.2.2.1))
  fun r9 =>
  (next (x.1, x.2.1, x.2.2.1, x.2.2.2.1, x.2.2.2.2.1, (wrapF .i64 (x.2.2.2.2.2.1 + (1 : Int))), r9, x.2.2.2.2.2.2.2.1, x.2.2.2.2.2.2.2.2)))
  (some (x.2.2.2.2.2.2.1, x.2.2.2.2.2.2.2.1, x.2.2.2.2.2.2.2.2)))
theorem gf_clear2_v1_f8 (N : Nat) (f0 : Int × Int × Int × (List Int) → Option (Nat × Nat × (List Int))) (f1 : Int → Option (Int × Int)) (f2 : Int × (List Int) → Option ((List Int))) (f3 : Nat × Nat × Int × Nat × Nat × (List Int) → Option ((List Int))) (next) (x) : gf_clear2_v1_a8 N f0 f1 f2 f3 next x = loopStep Γ (gf_clear2_v1_CA N f0 f1 f2 f3) (gf_clear2_v1_J N) 0 133 gf_clear2_v1_d8 gf_clear2_v1_c8 next x := by kernel_rfl
theorem gf_clear2_v1_e8 (N : Nat) (next) (x) : gf_clear2_v1_b8 N next x = loopStep Γ (gf_clear2_v1_C N) (gf_clear2_v1_J N) 0 133 gf_clear2_v1_d8 gf_clear2_v1_c8 next x := by
  rw [← gf_clear2_v1_CE N]
  exact Eq.trans (by kernel_rfl) (gf_clear2_v1_f8 N (gf_row) (gf_Inv N) (gf_Scale N) (gf_add N) next x)
theorem gf_clear2_v1_k8 (N : Nat) : LoopOK Try.prog 133 gf_clear2_v1_c8 ⟨gf_clear2_v1_d8, loopF (gf_clear2_v1_b8 N) N⟩ := loop_ok tabOK (gf_clear2_v1_t N) mixedOK (J := gf_clear2_v1_J N) (cx := 0) (body := gf_clear2_v1_c8) (nt := 133) (l := gf_clear2_v1_d8) (b := gf_clear2_v1_b8 N) (jok_from gf_clear2_v1_i8 ⟨trivial, trivial, trivial⟩) (gf_clear2_v1_e8 N) N
theorem gf_clear2_v1_i0 : loopsOf gf_clear2_v1_c0 = [(2, gf_clear2_v1_c2), (4, codeOf (getLoop 4 gf_clear2_v1_c)), (6, gf_clear2_v1_c6), (8, gf_clear2_v1_c8)] := by kernel_rfl
noncomputable def gf_clear2_v1_a0 (N : Nat) (f0 : Int × Int × Int × (List Int) → Option (Nat × Nat × (List Int))) (f1 : Int → Option (Int × Int)) (f2 : Int × (List Int) → Option ((List Int))) (f3 : Nat × Nat × Int × Nat × Nat × (List Int) → Option ((List Int))) (next : Int × Int × Int × (List Int) × Int × Int × Int × (List Int) → Option ((Int × (List Int) × Int × Int × Int × (List Int)))) (x : Int × Int × Int × (List Int) × Int × Int × Int × (List Int)) : Option ((Int × (List Int) × Int × Int × Int × (List Int))) :=
  (cond (decide (x.2.2.1 < x.2.1))
  (Option.bind
  (Option.bind (gf_clear2_v1_l2 N (x.1, x.2.2.1, x.1, x.2.1, x.2.2.1, x.2.2.2.1, x.2.2.2.2.1, x.2.2.2.2.2.1)) fun r2 =>
  (cond (decide (r2.1 = r2.2.2.1))
  (some (x.1, r2.2.1, r2.2.2.1, r2.2.2.2))
  (Option.bind (f0 (r2.2.2.1, r2.2.2.2, r2.1, r2.2.1)) fun r4 =>
  (cond ((decide ((0 : Int) ≤ x.2.2.1)) && (decide (x.2.2.1 < ((r4.2.1 : Nat) : Int))))
  ((let v5 : Nat := ((Int.toNat x.2.2.1) + r4.1)
  (cond (decide (v5 < (List.length r4.2.2)))
  ((Option.bind (f1 (List.getD r4.2.2 v5 (EK.dflt (.int .u8)))) fun r7 =>
  (Option.bind
  (cond (decide (r2.2.2.1 = (0 : Int)))
  (some r4.2.2)
  (Option.bind (f0 (r2.2.2.1, r2.2.2.2, r2.1, r4.2.2)) fun r9 =>
  (Option.bind (f0 (r2.2.2.1, r2.2.2.2, x.1, r9.2.2)) fun r10 =>
  (Option.bind (gf_clear2_v1_l6_1 N (x.1, x.2.2.1, r2.1, r7.1, r9.1, r9.2.1, r10.1, r10.2.1, x.2.1, x.2.2.1, 0, 2, ((r9.2.1 : Nat) : Int), (0 : Int), r10.2.2)) fun r12 =>
  (cond (cond (decide ((r10.1 + r10.2.1) ≤ (List.length r12))) true false)
  (Option.bind (f2 (r7.1, (List.take r10.2.1 (List.drop r10.1 r12)))) fun r13 =>
  (cond (decide ((r10.1 + r10.2.1) ≤ (List.length r12)))
  ((some (List.take r10.1 r12 ++ List.take (min (List.length r13) r10.2.1) r13 ++ List.drop (r10.1 + (min (List.length r13) r10.2.1)) r12)))
  none))
  none)))))
  fun r16 =>
  (Option.bind (gf_clear2_v1_l8 N (x.1, x.2.2.1, x.2.1, x.2.2.1, r2.2.2.1, (0 : Int), r16, r2.2.2.1, r2.2.2.2)) fun r17 =>
  (some ((wrapF .i64 (x.1 + (1 : Int))), r17.1, r17.2.1, r17.2.2))))))
  none)))
  none))))
  fun r19 =>
  (next (r19.1, x.2.1, (wrapF .i64 (x.2.2.1 + (1 : Int))), r19.2.1, r19.2.2.1, r19.2.2.2, x.2.2.2.2.2.2.1, x.2.2.2.2.2.2.2)))
  (some (x.1, x.2.2.2.1, x.2.2.2.2.1, x.2.2.2.2.2.1, x.2.2.2.2.2.2.1, x.2.2.2.2.2.2.2)))
theorem gf_clear2_v1_f0 (N : Nat) (f0 : Int × Int × Int × (List Int) → Option (Nat × Nat × (List Int))) (f1 : Int → Option (Int × Int)) (f2 : Int × (List Int) → Option ((List Int))) (f3 : Nat × Nat × Int × Nat × Nat × (List Int) → Option ((List Int))) (next) (x) : gf_clear2_v1_a0 N f0 f1 f2 f3 next x = loopStep Γ (gf_clear2_v1_CA N f0 f1 f2 f3) (gf_clear2_v1_J N) 0 133 gf_clear2_v1_d0 gf_clear2_v1_c0 next x := by kernel_rfl
theorem gf_clear2_v1_e0 (N : Nat) (next) (x) : gf_clear2_v1_b0 N next x = loopStep Γ (gf_clear2_v1_C N) (gf_clear2_v1_J N) 0 133 gf_clear2_v1_d0 gf_clear2_v1_c0 next x := by
  rw [← gf_clear2_v1_CE N]
  exact Eq.trans (by kernel_rfl) (gf_clear2_v1_f0 N (gf_row) (gf_Inv N) (gf_Scale N) (gf_add N) next x)
theorem gf_clear2_v1_k0 (N : Nat) : LoopOK Try.prog 133 gf_clear2_v1_c0 ⟨gf_clear2_v1_d0, loopF (gf_clear2_v1_b0 N) N⟩ := loop_ok tabOK (gf_clear2_v1_t N) mixedOK (J := gf_clear2_v1_J N) (cx := 0) (body := gf_clear2_v1_c0) (nt := 133) (l := gf_clear2_v1_d0) (b := gf_clear2_v1_b0 N) (jok_from gf_clear2_v1_i0 ⟨⟨.inr ⟨_, rfl, gf_clear2_v1_k2 N⟩, .inl rfl, .inl rfl, .inr ⟨_, rfl, gf_clear2_v1_k8 N⟩, trivial⟩, ⟨.inl rfl, .inl rfl, .inr ⟨_, rfl, gf_clear2_v1_k6_1 N⟩, .inl rfl, trivial⟩, trivial⟩) (gf_clear2_v1_e0 N) N
theorem gf_clear2_v1_i : loopsOf gf_clear2_v1_c = [(0, gf_clear2_v1_c0), (2, gf_clear2_v1_c2), (4, codeOf (getLoop 4 gf_clear2_v1_c)), (6, gf_clear2_v1_c6), (8, gf_clear2_v1_c8)] := by kernel_rfl
noncomputable def gf_clear2_v1_a (N : Nat) (f0 : Int × Int × Int × (List Int) → Option (Nat × Nat × (List Int))) (f1 : Int → Option (Int × Int)) (f2 : Int × (List Int) → Option ((List Int))) (f3 : Nat × Nat × Int × Nat × Nat × (List Int) → Option ((List Int))) (x : Int × Int × Int × (List Int) × (List Int)) : Option (Int × (List Int)) :=
  (Option.bind (gf_clear2_v1_l0 N ((0 : Int), x.2.1, (0 : Int), x.2.2.2.2, x.1, x.2.1, x.2.2.1, x.2.2.2.1)) fun r1 =>
  (some (r1.1, r1.2.1)))
theorem gf_clear2_v1_f (N : Nat) (f0 : Int × Int × Int × (List Int) → Option (Nat × Nat × (List Int))) (f1 : Int → Option (Int × Int)) (f2 : Int × (List Int) → Option ((List Int))) (f3 : Nat × Nat × Int × Nat × Nat × (List Int) → Option ((List Int))) (x) : gf_clear2_v1_a N f0 f1 f2 f3 x = fnStep Γ (gf_clear2_v1_CA N f0 f1 f2 f3) (gf_clear2_v1_J N) 133 Try.f63.results.toList (gf_clear2_v1_g N) gf_clear2_v1_o gf_clear2_v1_c x := by kernel_rfl
theorem gf_clear2_v1_e (N : Nat) (x) : (gf_clear2_v1_g N).F x = fnStep Γ (gf_clear2_v1_C N) (gf_clear2_v1_J N) 133 Try.f63.results.toList (gf_clear2_v1_g N) gf_clear2_v1_o gf_clear2_v1_c x := by
  rw [← gf_clear2_v1_CE N]
  exact Eq.trans (by kernel_rfl) (gf_clear2_v1_f N (gf_row) (gf_Inv N) (gf_Scale N) (gf_add N) x)
theorem gf_clear2_v1_y : Try.f63.body = some gf_clear2_v1_c := by kernel_rfl
theorem gf_clear2_v1_n : (Try.f63.name == "runtime.NumGoroutine") = false := by kernel_rfl
theorem gf_clear2_v1_ok (N : Nat) : FnDoes Try.prog 63 (gf_clear2_v1_g N) := fn_ok tabOK (gf_clear2_v1_t N) mixedOK (J := gf_clear2_v1_J N) (body := gf_clear2_v1_c) Try.func63 gf_clear2_v1_y gf_clear2_v1_n Try.ntmps63 (jok_from gf_clear2_v1_i ⟨⟨.inr ⟨_, rfl, gf_clear2_v1_k0 N⟩, .inr ⟨_, rfl, gf_clear2_v1_k2 N⟩, .inl rfl, .inl rfl, .inr ⟨_, rfl, gf_clear2_v1_k8 N⟩, trivial⟩, ⟨.inl rfl, .inl rfl, .inl rfl, .inr ⟨_, rfl, gf_clear2_v1_k6_1 N⟩, .inl rfl, trivial⟩, trivial⟩) rfl rfl (le_of_ble rfl) (gf_clear2_v1_e N)
noncomputable def gf_Rank_c : Code := codeOf Try.f33.body
noncomputable def gf_Rank_J (N : Nat) : Nat → Hint := fun cx => hintOf cx []
noncomputable def gf_Rank_C (N : Nat) : Nat → List GS := fun k => tabOf k [(50, [gf_Check_g N]), (64, [gf_own_g N]), (63, [gf_clear2_v1_g N])]
def gf_Rank_o : List (Shp × List Nat) := [(⟨[(0, (.tup [(.one (.int .i64)), (.one (.int .i64))]))], []⟩, [])]
noncomputable def gf_Rank_g (N : Nat) : GS := { ins := ⟨[(0, (.av (.agg [(.one (.int .i64)), (.one (.int .i64)), (.one (.rsl (.int .u8)))])))], []⟩, lend := [.agg [none, none, some (.int .u8)]], outs := gf_Rank_o.map fun s => ssOf s.1, its := [.int, .int, .lst (.int .u8)], ots := [[.int, .int]], F := gf_Rank N }
noncomputable def gf_Rank_CA (N : Nat) (f0 : Int × Int × (List Int) → Option (Int)) (f1 : Int × Int × (List Int) → Option (Int × Int × (List Int))) (f2 : Int × Int × Int × (List Int) × (List Int) → Option (Int × (List Int))) : Nat → List GS := fun k => tabOf k [(50, [{ gf_Check_g N with F := f0 }]), (64, [{ gf_own_g N with F := f1 }]), (63, [{ gf_clear2_v1_g N with F := f2 }])]
theorem gf_Rank_CE (N : Nat) : gf_Rank_CA N (gf_Check) (gf_own) (gf_clear2_v1 N) = gf_Rank_C N := by kernel_rfl
theorem gf_Rank_t (N : Nat) : TabC Try.prog (gf_Rank_C N) := tab_ok ⟨⟨gf_Check_ok N, trivial⟩, ⟨gf_own_ok N, trivial⟩, ⟨gf_clear2_v1_ok N, trivial⟩, trivial⟩
theorem gf_Rank_i : loopsOf gf_Rank_c = [] := by kernel_rfl
noncomputable def gf_Rank_a (N : Nat) (f0 : Int × Int × (List Int) → Option (Int)) (f1 : Int × Int × (List Int) → Option (Int × Int × (List Int))) (f2 : Int × Int × Int × (List Int) × (List Int) → Option (Int × (List Int))) (x : Int × Int × (List Int)) : Option (Int × Int) :=
  (Option.bind (f0 (x.1, x.2.1, x.2.2)) fun r1 =>
  (cond (!(decide (r1 = (0 : Int))))
  (some ((0 : Int), r1))
  (Option.bind (f1 (x.1, x.2.1, x.2.2)) fun r3 =>
  (Option.bind (f2 (r3.1, r3.2.1, (0 : Int), ([] : List Int), r3.2.2)) fun r4 =>
  (some (r4.1, (0 : Int)))))))
theorem gf_Rank_f (N : Nat) (f0 : Int × Int × (List Int) → Option (Int)) (f1 : Int × Int × (List Int) → Option (Int × Int × (List Int))) (f2 : Int × Int × Int × (List Int) × (List Int) → Option (Int × (List Int))) (x) : gf_Rank_a N f0 f1 f2 x = fnStep Γ (gf_Rank_CA N f0 f1 f2) (gf_Rank_J N) 14 Try.f33.results.toList (gf_Rank_g N) gf_Rank_o gf_Rank_c x := by kernel_rfl
theorem gf_Rank_e (N : Nat) (x) : (gf_Rank_g N).F x = fnStep Γ (gf_Rank_C N) (gf_Rank_J N) 14 Try.f33.results.toList (gf_Rank_g N) gf_Rank_o gf_Rank_c x := by
  rw [← gf_Rank_CE N]
  exact Eq.trans (by kernel_rfl) (gf_Rank_f N (gf_Check) (gf_own) (gf_clear2_v1 N) x)
theorem gf_Rank_y : Try.f33.body = some gf_Rank_c := by kernel_rfl
theorem gf_Rank_n : (Try.f33.name == "runtime.NumGoroutine") = false := by kernel_rfl
theorem gf_Rank_ok (N : Nat) : FnDoes Try.prog 33 (gf_Rank_g N) := fn_ok tabOK (gf_Rank_t N) mixedOK (J := gf_Rank_J N) (body := gf_Rank_c) Try.func33 gf_Rank_y gf_Rank_n Try.ntmps33 (jok_from gf_Rank_i trivial) rfl rfl (le_of_ble rfl) (gf_Rank_e N)
noncomputable def gf_row_v1_c : Code := codeOf Try.f59.body
noncomputable def gf_row_v1_J (N : Nat) : Nat → Hint := fun cx => hintOf cx []
noncomputable def gf_row_v1_C (N : Nat) : Nat → List GS := fun k => tabOf k []
def gf_row_v1_o : List (Shp × List Nat) := [(⟨[(0, (.av (.one (.rsl (.int .u8)))))], []⟩, [])]
noncomputable def gf_row_v1_g (N : Nat) : GS := { ins := ⟨[(0, (.av (.agg [(.one (.int .i64)), (.one (.int .i64)), (.one (.rsl (.int .u8)))]))), (1, (.av (.one (.int .i64))))], []⟩, lend := [.keep, .keep], outs := gf_row_v1_o.map fun s => ssOf s.1, its := [.int, .int, .lst (.int .u8), .int], ots := [[.lst (.int .u8)]], F := gf_row_v1 }
theorem gf_row_v1_t (N : Nat) : TabC Try.prog (gf_row_v1_C N) := tab_ok trivial
theorem gf_row_v1_i : loopsOf gf_row_v1_c = [] := by kernel_rfl
theorem gf_row_v1_e (N : Nat) (x) : (gf_row_v1_g N).F x = fnStep Γ (gf_row_v1_C N) (gf_row_v1_J N) 22 Try.f59.results.toList (gf_row_v1_g N) gf_row_v1_o gf_row_v1_c x := by kernel_rfl
theorem gf_row_v1_y : Try.f59.body = some gf_row_v1_c := by kernel_rfl
theorem gf_row_v1_n : (Try.f59.name == "runtime.NumGoroutine") = false := by kernel_rfl
theorem gf_row_v1_ok (N : Nat) : FnDoes Try.prog 59 (gf_row_v1_g N) := fn_ok tabOK (gf_row_v1_t N) mixedOK (J := gf_row_v1_J N) (body := gf_row_v1_c) Try.func59 gf_row_v1_y gf_row_v1_n Try.ntmps59 (jok_from gf_row_v1_i trivial) rfl rfl (le_of_ble rfl) (gf_row_v1_e N)
noncomputable def gf_Turn_c : Code := codeOf Try.f35.body
noncomputable def gf_Turn_c0 : Code := codeOf (getLoop 0 gf_Turn_c)
noncomputable def gf_Turn_c2 : Code := codeOf (getLoop 2 gf_Turn_c)
def gf_Turn_d2 : LD := { ins := ⟨[(1, (.av (.one (.const (.ptr ⟨0, 0, 0, 0⟩))))), (2, (.av (.one (.const (.ptr ⟨3, 0, 0, 0⟩))))), (5, (.av (.one (.const (.ptr ⟨7, 0, 0, 0⟩))))), (6, (.av (.one (.int .i64)))), (21, (.av (.one (.int .i64)))), (22, (.av (.one (.int .i64)))), (27, (.av (.one (.rsl (.int .u8))))), (28, (.av (.one (.int .i64)))), (29, (.av (.one (.int .i64))))], [(.keep, false), (.keep, false), (.keep, false), (.keep, false), (.keep, false), (.keep, false), (.sh (.arr (.int .u8) none), false), (.sh (.one (.int .i64)), true), (.sh (.one (.int .i64)), true), (.sh (.one (.const (.slw 6 1))), false)]⟩, mov := [], wr := [6, 7, 8, 9], outs := [(.exit 2, ⟨[], [(.keep, false), (.keep, false), (.keep, false), (.keep, false), (.keep, false), (.keep, false), (.sh (.arr (.int .u8) none), false), (.sh (.one (.int .i64)), true), (.sh (.one (.int .i64)), true), (.sh (.one (.const (.slw 6 1))), false)]⟩)], its := [.int, .int, .int, .lst (.int .u8), .int, .int, .lst (.int .u8), .int, .int], ots := [[.lst (.int .u8), .int, .int]] }
def gf_Turn_d0 : LD := { ins := ⟨[(1, (.av (.one (.const (.ptr ⟨0, 0, 0, 0⟩))))), (2, (.av (.one (.const (.ptr ⟨3, 0, 0, 0⟩))))), (5, (.av (.one (.const (.ptr ⟨7, 0, 0, 0⟩))))), (21, (.av (.one (.int .i64)))), (22, (.av (.one (.int .i64))))], [(.sh (.one (.int .i64)), true), (.sh (.one (.int .i64)), true), (.sh (.one (.rsl (.int .u8))), false), (.keep, false), (.keep, false), (.keep, false), (.sh (.arr (.int .u8) none), false), (.sh (.one (.int .i64)), true), (.sh (.one (.int .i64)), true), (.sh (.one (.const (.slw 6 1))), false)]⟩, mov := [], wr := [0, 1, 2, 6, 7, 8, 9], outs := [(.exit 0, ⟨[], [(.sh (.one (.int .i64)), true), (.sh (.one (.int .i64)), true), (.sh (.one (.rsl (.int .u8))), false), (.keep, false), (.keep, false), (.keep, false), (.sh (.arr (.int .u8) none), false), (.sh (.one (.int .i64)), true), (.sh (.one (.int .i64)), true), (.sh (.one (.const (.slw 6 1))), false)]⟩)], its := [.int, .int, .int, .int, .lst (.int .u8), .lst (.int .u8), .int, .int], ots := [[.int, .int, .lst (.int .u8), .lst (.int .u8), .int, .int]] }
noncomputable def gf_Turn_J (N : Nat) : Nat → Hint := fun cx => hintOf cx [(0, { reg := fun k => assoc0 k [], cnd := fun k => assoc0 k [], loop := fun k => assoc0 k [(2, ⟨gf_Turn_d2, loopF (gf_Turn_b2 N) N⟩), (0, ⟨gf_Turn_d0, loopF (gf_Turn_b0 N) N⟩)], nil := fun k => assoc0 k [], unr := fun k => assocN k [], blk := fun k => assoc0 k [] })]
noncomputable def gf_Turn_C (N : Nat) : Nat → List GS := fun k => tabOf k [(50, [gf_Check_g N]), (58, [gf_zeros_g N]), (59, [gf_row_g N, gf_row_v1_g N])]
def gf_Turn_o : List (Shp × List Nat) := [(⟨[(0, (.tup [(.agg [(.one (.int .i64)), (.one (.int .i64)), (.one (.const (.slw 0 1)))]), (.one (.int .i64))]))], [(.sh (.arr (.int .u8) none), false)]⟩, [])]
noncomputable def gf_Turn_g (N : Nat) : GS := { ins := ⟨[(0, (.av (.agg [(.one (.int .i64)), (.one (.int .i64)), (.one (.rsl (.int .u8)))])))], []⟩, lend := [.agg [none, none, some (.int .u8)]], outs := gf_Turn_o.map fun s => ssOf s.1, its := [.int, .int, .lst (.int .u8)], ots := [[.int, .int, .int, .lst (.int .u8)]], F := gf_Turn N }
noncomputable def gf_Turn_CA (N : Nat) (f0 : Int × Int × (List Int) → Option (Int)) (f1 : Int × Int → Option (Int × Int × (List Int))) (f2 : Int × Int × Int × (List Int) → Option (Nat × Nat × (List Int))) (f3 : Int × Int × (List Int) × Int → Option ((List Int))) : Nat → List GS := fun k => tabOf k [(50, [{ gf_Check_g N with F := f0 }]), (58, [{ gf_zeros_g N with F := f1 }]), (59, [{ gf_row_g N with F := f2 }, { gf_row_v1_g N with F := f3 }])]
theorem gf_Turn_CE (N : Nat) : gf_Turn_CA N (gf_Check) (gf_zeros) (gf_row) (gf_row_v1) = gf_Turn_C N := by kernel_rfl
theorem gf_Turn_t (N : Nat) : TabC Try.prog (gf_Turn_C N) := tab_ok ⟨⟨gf_Check_ok N, trivial⟩, ⟨gf_zeros_ok N, trivial⟩, ⟨gf_row_ok N, gf_row_v1_ok N, trivial⟩, trivial⟩
theorem gf_Turn_i2 : loopsOf gf_Turn_c2 = [] := by kernel_rfl
noncomputable def gf_Turn_a2 (N : Nat) (f0 : Int × Int × (List Int) → Option (Int)) (f1 : Int × Int → Option (Int × Int × (List Int))) (f2 : Int × Int × Int × (List Int) → Option (Nat × Nat × (List Int))) (f3 : Int × Int × (List Int) × Int → Option ((List Int))) (next : Int × Int × Int × (List Int) × Int × Int × (List Int) × Int × Int → Option (((List Int) × Int × Int))) (x : Int × Int × Int × (List Int) × Int × Int × (List Int) × Int × Int) : Option (((List Int) × Int × Int)) :=
  (cond (decide (x.2.2.2.2.2.1 < x.2.2.2.2.1))
  (cond ((decide ((0 : Int) ≤ x.2.2.2.2.2.1)) && (decide (x.2.2.2.2.2.1 < (((List.length x.2.2.2.1) : Nat) : Int))))
  ((Option.bind (f2 (x.2.2.2.2.2.2.2.1, x.2.2.2.2.2.2.2.2, x.2.2.2.2.2.1, x.2.2.2.2.2.2.1)) fun r3 =>
  (cond ((decide ((0 : Int) ≤ x.1)) && (decide (x.1 < ((r3.2.1 : Nat) : Int))))
  ((let v4 : Nat := ((Int.toNat x.1) + r3.1)
  (cond (decide (v4 < (List.length r3.2.2)))
  ((next (x.1, x.2.1, x.2.2.1, x.2.2.2.1, x.2.2.2.2.1, (wrapF .i64 (x.2.2.2.2.2.1 + (1 : Int))), (List.set r3.2.2 v4 (List.getD x.2.2.2.1 (Int.toNat x.2.2.2.2.2.1) (EK.dflt (.int .u8)))), x.2.2.2.2.2.2.2.1, x.2.2.2.2.2.2.2.2)))
  none)))
  none)))
  none)
  (some (x.2.2.2.2.2.2.1, x.2.2.2.2.2.2.2.1, x.2.2.2.2.2.2.2.2)))
theorem gf_Turn_f2 (N : Nat) (f0 : Int × Int × (List Int) → Option (Int)) (f1 : Int × Int → Option (Int × Int × (List Int))) (f2 : Int × Int × Int × (List Int) → Option (Nat × Nat × (List Int))) (f3 : Int × Int × (List Int) × Int → Option ((List Int))) (next) (x) : gf_Turn_a2 N f0 f1 f2 f3 next x = loopStep Γ (gf_Turn_CA N f0 f1 f2 f3) (gf_Turn_J N) 0 43 gf_Turn_d2 gf_Turn_c2 next x := by kernel_rfl
theorem gf_Turn_e2 (N : Nat) (next) (x) : gf_Turn_b2 N next x = loopStep Γ (gf_Turn_C N) (gf_Turn_J N) 0 43 gf_Turn_d2 gf_Turn_c2 next x := by
  rw [← gf_Turn_CE N]
  exact Eq.trans (by kernel_rfl) (gf_Turn_f2 N (gf_Check) (gf_zeros) (gf_row) (gf_row_v1) next x)
theorem gf_Turn_k2 (N : Nat) : LoopOK Try.prog 43 gf_Turn_c2 ⟨gf_Turn_d2, loopF (gf_Turn_b2 N) N⟩ := loop_ok tabOK (gf_Turn_t N) mixedOK (J := gf_Turn_J N) (cx := 0) (body := gf_Turn_c2) (nt := 43) (l := gf_Turn_d2) (b := gf_Turn_b2 N) (jok_from gf_Turn_i2 ⟨trivial, trivial⟩) (gf_Turn_e2 N) N
theorem gf_Turn_i0 : loopsOf gf_Turn_c0 = [(2, gf_Turn_c2)] := by kernel_rfl
noncomputable def gf_Turn_a0 (N : Nat) (f0 : Int × Int × (List Int) → Option (Int)) (f1 : Int × Int → Option (Int × Int × (List Int))) (f2 : Int × Int × Int × (List Int) → Option (Nat × Nat × (List Int))) (f3 : Int × Int × (List Int) × Int → Option ((List Int))) (next : Int × Int × Int × Int × (List Int) × (List Int) × Int × Int → Option ((Int × Int × (List Int) × (List Int) × Int × Int))) (x : Int × Int × Int × Int × (List Int) × (List Int) × Int × Int) : Option ((Int × Int × (List Int) × (List Int) × Int × Int)) :=
  (cond (decide (x.2.1 < x.1))
  (Option.bind (f3 (x.2.2.1, x.2.2.2.1, x.2.2.2.2.1, x.2.1)) fun r2 =>
  (Option.bind (gf_Turn_l2 N (x.2.1, x.1, x.2.1, r2, (((List.length r2) : Nat) : Int), (0 : Int), x.2.2.2.2.2.1, x.2.2.2.2.2.2.1, x.2.2.2.2.2.2.2)) fun r4 =>
  (next (x.1, (wrapF .i64 (x.2.1 + (1 : Int))), x.2.2.1, x.2.2.2.1, x.2.2.2.2.1, r4.1, r4.2.1, r4.2.2))))
  (some (x.2.2.1, x.2.2.2.1, x.2.2.2.2.1, x.2.2.2.2.2.1, x.2.2.2.2.2.2.1, x.2.2.2.2.2.2.2)))
theorem gf_Turn_f0 (N : Nat) (f0 : Int × Int × (List Int) → Option (Int)) (f1 : Int × Int → Option (Int × Int × (List Int))) (f2 : Int × Int × Int × (List Int) → Option (Nat × Nat × (List Int))) (f3 : Int × Int × (List Int) × Int → Option ((List Int))) (next) (x) : gf_Turn_a0 N f0 f1 f2 f3 next x = loopStep Γ (gf_Turn_CA N f0 f1 f2 f3) (gf_Turn_J N) 0 43 gf_Turn_d0 gf_Turn_c0 next x := by kernel_rfl
theorem gf_Turn_e0 (N : Nat) (next) (x) : gf_Turn_b0 N next x = loopStep Γ (gf_Turn_C N) (gf_Turn_J N) 0 43 gf_Turn_d0 gf_Turn_c0 next x := by
  rw [← gf_Turn_CE N]
  exact Eq.trans (by kernel_rfl) (gf_Turn_f0 N (gf_Check) (gf_zeros) (gf_row) (gf_row_v1) next x)
theorem gf_Turn_k0 (N : Nat) : LoopOK Try.prog 43 gf_Turn_c0 ⟨gf_Turn_d0, loopF (gf_Turn_b0 N) N⟩ := loop_ok tabOK (gf_Turn_t N) mixedOK (J := gf_Turn_J N) (cx := 0) (body := gf_Turn_c0) (nt := 43) (l := gf_Turn_d0) (b := gf_Turn_b0 N) (jok_from gf_Turn_i0 ⟨⟨.inr ⟨_, rfl, gf_Turn_k2 N⟩, trivial⟩, trivial⟩) (gf_Turn_e0 N) N
theorem gf_Turn_i : loopsOf gf_Turn_c = [(0, gf_Turn_c0), (2, gf_Turn_c2)] := by kernel_rfl
noncomputable def gf_Turn_a (N : Nat) (f0 : Int × Int × (List Int) → Option (Int)) (f1 : Int × Int → Option (Int × Int × (List Int))) (f2 : Int × Int × Int × (List Int) → Option (Nat × Nat × (List Int))) (f3 : Int × Int × (List Int) × Int → Option ((List Int))) (x : Int × Int × (List Int)) : Option (Int × Int × Int × (List Int)) :=
  (Option.bind (f0 (x.1, x.2.1, x.2.2)) fun r1 =>
  (cond (!(decide (r1 = (0 : Int))))
  (some ((0 : Int), (0 : Int), r1, ([] : List Int)))
  (Option.bind (f1 (x.2.1, x.1)) fun r3 =>
  (Option.bind (gf_Turn_l0 N (x.1, (0 : Int), x.1, x.2.1, x.2.2, r3.2.2, r3.1, r3.2.1)) fun r4 =>
  (some (r4.2.2.2.2.1, r4.2.2.2.2.2, (0 : Int), r4.2.2.2.1))))))
theorem gf_Turn_f (N : Nat) (f0 : Int × Int × (List Int) → Option (Int)) (f1 : Int × Int → Option (Int × Int × (List Int))) (f2 : Int × Int × Int × (List Int) → Option (Nat × Nat × (List Int))) (f3 : Int × Int × (List Int) × Int → Option ((List Int))) (x) : gf_Turn_a N f0 f1 f2 f3 x = fnStep Γ (gf_Turn_CA N f0 f1 f2 f3) (gf_Turn_J N) 43 Try.f35.results.toList (gf_Turn_g N) gf_Turn_o gf_Turn_c x := by kernel_rfl
theorem gf_Turn_e (N : Nat) (x) : (gf_Turn_g N).F x = fnStep Γ (gf_Turn_C N) (gf_Turn_J N) 43 Try.f35.results.toList (gf_Turn_g N) gf_Turn_o gf_Turn_c x := by
  rw [← gf_Turn_CE N]
  exact Eq.trans (by kernel_rfl) (gf_Turn_f N (gf_Check) (gf_zeros) (gf_row) (gf_row_v1) x)
theorem gf_Turn_y : Try.f35.body = some gf_Turn_c := by kernel_rfl
theorem gf_Turn_n : (Try.f35.name == "runtime.NumGoroutine") = false := by kernel_rfl
theorem gf_Turn_ok (N : Nat) : FnDoes Try.prog 35 (gf_Turn_g N) := fn_ok tabOK (gf_Turn_t N) mixedOK (J := gf_Turn_J N) (body := gf_Turn_c) Try.func35 gf_Turn_y gf_Turn_n Try.ntmps35 (jok_from gf_Turn_i ⟨⟨.inr ⟨_, rfl, gf_Turn_k0 N⟩, .inr ⟨_, rfl, gf_Turn_k2 N⟩, trivial⟩, trivial⟩) rfl rfl (le_of_ble rfl) (gf_Turn_e N)
noncomputable def gf_checked_c : Code := codeOf Try.f65.body
noncomputable def gf_checked_c0 : Code := codeOf (getLoop 0 gf_checked_c)
def gf_checked_d0 : LD := { ins := ⟨[(6, (.av (.one (.rsl (.pair (.int .i64) (.pair (.int .i64) (.pair (.sl (.int .u8)) .unit))))))), (7, (.av (.one (.int .i64)))), (8, (.av (.one (.int .i64))))], []⟩, mov := [], wr := [], outs := [(.ret, ⟨[(2, (.av (.one (.int .i64))))], []⟩), (.exit 0, ⟨[], []⟩)], its := [.lst (.pair (.int .i64) (.pair (.int .i64) (.pair (.sl (.int .u8)) .unit))), .int, .int], ots := [[.int], []] }
noncomputable def gf_checked_J (N : Nat) : Nat → Hint := fun cx => hintOf cx [(0, { reg := fun k => assoc0 k [], cnd := fun k => assoc0 k [], loop := fun k => assoc0 k [(0, ⟨gf_checked_d0, loopF (gf_checked_b0 N) N⟩)], nil := fun k => assoc0 k [], unr := fun k => assocN k [], blk := fun k => assoc0 k [] })]
noncomputable def gf_checked_C (N : Nat) : Nat → List GS := fun k => tabOf k [(50, [gf_Check_g N])]
def gf_checked_o : List (Shp × List Nat) := [(⟨[(0, (.av (.one (.int .i64))))], []⟩, [])]
noncomputable def gf_checked_g (N : Nat) : GS := { ins := ⟨[(0, (.av (.one (.rsl (.pair (.int .i64) (.pair (.int .i64) (.pair (.sl (.int .u8)) .unit)))))))], []⟩, lend := [.lend (.pair (.int .i64) (.pair (.int .i64) (.pair (.sl (.int .u8)) .unit)))], outs := gf_checked_o.map fun s => ssOf s.1, its := [.lst (.pair (.int .i64) (.pair (.int .i64) (.pair (.sl (.int .u8)) .unit)))], ots := [[.int]], F := gf_checked N }
noncomputable def gf_checked_CA (N : Nat) (f0 : Int × Int × (List Int) → Option (Int)) : Nat → List GS := fun k => tabOf k [(50, [{ gf_Check_g N with F := f0 }])]
theorem gf_checked_CE (N : Nat) : gf_checked_CA N (gf_Check) = gf_checked_C N := by kernel_rfl
theorem gf_checked_t (N : Nat) : TabC Try.prog (gf_checked_C N) := tab_ok ⟨⟨gf_Check_ok N, trivial⟩, trivial⟩
theorem gf_checked_i0 : loopsOf gf_checked_c0 = [] := by kernel_rfl
noncomputable def gf_checked_a0 (N : Nat) (f0 : Int × Int × (List Int) → Option (Int)) (next : (List (Int × (Int × ((List Int) × Unit)))) × Int × Int → Option (Int ⊕ Unit)) (x : (List (Int × (Int × ((List Int) × Unit)))) × Int × Int) : Option (Int ⊕ Unit) :=
  (cond (decide (x.2.2 < x.2.1))
  (cond ((decide ((0 : Int) ≤ x.2.2)) && (decide (x.2.2 < (((List.length x.1) : Nat) : Int))))
  ((let v2 : (Int × (Int × ((List Int) × Unit))) := (List.getD x.1 (Int.toNat x.2.2) (EK.dflt (.pair (.int .i64) (.pair (.int .i64) (.pair (.sl (.int .u8)) .unit)))))
  (Option.bind (f0 (v2.1, v2.2.1, v2.2.2.1)) fun r3 =>
  (cond (!(decide (r3 = (0 : Int))))
  (some (.inl r3))
  (next (x.1, x.2.1, (wrapF .i64 (x.2.2 + (1 : Int)))))))))
  none)
  (some (.inr (()))))
theorem gf_checked_f0 (N : Nat) (f0 : Int × Int × (List Int) → Option (Int)) (next) (x) : gf_checked_a0 N f0 next x = loopStep Γ (gf_checked_CA N f0) (gf_checked_J N) 0 18 gf_checked_d0 gf_checked_c0 next x := by kernel_rfl
theorem gf_checked_e0 (N : Nat) (next) (x) : gf_checked_b0 N next x = loopStep Γ (gf_checked_C N) (gf_checked_J N) 0 18 gf_checked_d0 gf_checked_c0 next x := by
  rw [← gf_checked_CE N]
  exact Eq.trans (by kernel_rfl) (gf_checked_f0 N (gf_Check) next x)
theorem gf_checked_k0 (N : Nat) : LoopOK Try.prog 18 gf_checked_c0 ⟨gf_checked_d0, loopF (gf_checked_b0 N) N⟩ := loop_ok tabOK (gf_checked_t N) mixedOK (J := gf_checked_J N) (cx := 0) (body := gf_checked_c0) (nt := 18) (l := gf_checked_d0) (b := gf_checked_b0 N) (jok_from gf_checked_i0 ⟨trivial, trivial⟩) (gf_checked_e0 N) N
theorem gf_checked_i : loopsOf gf_checked_c = [(0, gf_checked_c0)] := by kernel_rfl
noncomputable def gf_checked_a (N : Nat) (f0 : Int × Int × (List Int) → Option (Int)) (x : (List (Int × (Int × ((List Int) × Unit))))) : Option (Int) :=
  (Option.bind (gf_checked_l0 N (x, (((List.length x) : Nat) : Int), (0 : Int))) fun r2 =>
  (match r2 with
  | .inl y3 =>
  (some y3)
  | .inr z4 =>
  (some (0 : Int))))
theorem gf_checked_f (N : Nat) (f0 : Int × Int × (List Int) → Option (Int)) (x) : gf_checked_a N f0 x = fnStep Γ (gf_checked_CA N f0) (gf_checked_J N) 18 Try.f65.results.toList (gf_checked_g N) gf_checked_o gf_checked_c x := by kernel_rfl
theorem gf_checked_e (N : Nat) (x) : (gf_checked_g N).F x = fnStep Γ (gf_checked_C N) (gf_checked_J N) 18 Try.f65.results.toList (gf_checked_g N) gf_checked_o gf_checked_c x := by
  rw [← gf_checked_CE N]
  exact Eq.trans (by kernel_rfl) (gf_checked_f N (gf_Check) x)
theorem gf_checked_y : Try.f65.body = some gf_checked_c := by kernel_rfl
theorem gf_checked_n : (Try.f65.name == "runtime.NumGoroutine") = false := by kernel_rfl
theorem gf_checked_ok (N : Nat) : FnDoes Try.prog 65 (gf_checked_g N) := fn_ok tabOK (gf_checked_t N) mixedOK (J := gf_checked_J N) (body := gf_checked_c) Try.func65 gf_checked_y gf_checked_n Try.ntmps65 (jok_from gf_checked_i ⟨⟨.inr ⟨_, rfl, gf_checked_k0 N⟩, trivial⟩, trivial⟩) rfl rfl (le_of_ble rfl) (gf_checked_e N)
noncomputable def gf_add_v1_c : Code := codeOf Try.f66.body
noncomputable def gf_add_v1_c0 : Code := codeOf (getLoop 0 gf_add_v1_c)
def gf_add_v1_d0 : LD := { ins := ⟨[(0, (.av (.one (.sl 0 1)))), (1, (.av (.one (.int .u8)))), (10, (.av (.one (.rsl (.int .u8))))), (11, (.av (.one (.int .i64)))), (12, (.av (.one (.int .i64))))], [(.sh (.arr (.int .u8) none), false)]⟩, mov := [], wr := [0], outs := [(.exit 0, ⟨[], [(.sh (.arr (.int .u8) none), false)]⟩)], its := [.nat, .nat, .int, .lst (.int .u8), .int, .int, .lst (.int .u8)], ots := [[.lst (.int .u8)]] }
noncomputable def gf_add_v1_J (N : Nat) : Nat → Hint := fun cx => hintOf cx [(0, { reg := fun k => assoc0 k [], cnd := fun k => assoc0 k [], loop := fun k => assoc0 k [(0, ⟨gf_add_v1_d0, loopF (gf_add_v1_b0 N) N⟩)], nil := fun k => assoc0 k [], unr := fun k => assocN k [], blk := fun k => assoc0 k [] })]
noncomputable def gf_add_v1_C (N : Nat) : Nat → List GS := fun k => tabOf k [(12, [gf_Mul_g N])]
def gf_add_v1_o : List (Shp × List Nat) := [(⟨[(0, (.tup []))], [(.sh (.arr (.int .u8) none), false)]⟩, [])]
noncomputable def gf_add_v1_g (N : Nat) : GS := { ins := ⟨[(0, (.av (.one (.sl 0 1)))), (1, (.av (.one (.int .u8)))), (2, (.av (.one (.rsl (.int .u8)))))], [(some (.arr (.int .u8) none), false)]⟩, lend := [.keep, .keep, .keep], outs := gf_add_v1_o.map fun s => ssOf s.1, its := [.nat, .nat, .int, .lst (.int .u8), .lst (.int .u8)], ots := [[.lst (.int .u8)]], F := gf_add_v1 N }
noncomputable def gf_add_v1_CA (N : Nat) (f0 : Int × Int → Option (Int)) : Nat → List GS := fun k => tabOf k [(12, [{ gf_Mul_g N with F := f0 }])]
theorem gf_add_v1_CE (N : Nat) : gf_add_v1_CA N (gf_Mul N) = gf_add_v1_C N := by kernel_rfl
theorem gf_add_v1_t (N : Nat) : TabC Try.prog (gf_add_v1_C N) := tab_ok ⟨⟨gf_Mul_ok N, trivial⟩, trivial⟩
theorem gf_add_v1_i0 : loopsOf gf_add_v1_c0 = [] := by kernel_rfl
noncomputable def gf_add_v1_a0 (N : Nat) (f0 : Int × Int → Option (Int)) (next : Nat × Nat × Int × (List Int) × Int × Int × (List Int) → Option (((List Int)))) (x : Nat × Nat × Int × (List Int) × Int × Int × (List Int)) : Option (((List Int))) :=
  (cond (decide (x.2.2.2.2.2.1 < x.2.2.2.2.1))
  (cond ((decide ((0 : Int) ≤ x.2.2.2.2.2.1)) && (decide (x.2.2.2.2.2.1 < (((List.length x.2.2.2.1) : Nat) : Int))))
  ((cond ((decide ((0 : Int) ≤ x.2.2.2.2.2.1)) && (decide (x.2.2.2.2.2.1 < ((x.2.1 : Nat) : Int))))
  ((let v3 : Nat := ((Int.toNat x.2.2.2.2.2.1) + x.1)
  (cond (decide (v3 < (List.length x.2.2.2.2.2.2)))
  ((Option.bind (f0 (x.2.2.1, (List.getD x.2.2.2.1 (Int.toNat x.2.2.2.2.2.1) (EK.dflt (.int .u8))))) fun r5 =>
  (cond ((decide ((0 : Int) ≤ x.2.2.2.2.2.1)) && (decide (x.2.2.2.2.2.1 < ((x.2.1 : Nat) : Int))))
  ((let v7 : Nat := ((Int.toNat x.2.2.2.2.2.1) + x.1)
  (cond (decide (v7 < (List.length x.2.2.2.2.2.2)))
  ((next (x.1, x.2.1, x.2.2.1, x.2.2.2.1, x.2.2.2.2.1, (wrapF .i64 (x.2.2.2.2.2.1 + (1 : Int))), (List.set x.2.2.2.2.2.2 v7 (xorF .u8 (List.getD x.2.2.2.2.2.2 v3 (EK.dflt (.int .u8))) r5)))))
  none)))
  none)))
  none)))
  none))
  none)
  (some x.2.2.2.2.2.2))
theorem gf_add_v1_f0 (N : Nat) (f0 : Int × Int → Option (Int)) (next) (x) : gf_add_v1_a0 N f0 next x = loopStep Γ (gf_add_v1_CA N f0) (gf_add_v1_J N) 0 27 gf_add_v1_d0 gf_add_v1_c0 next x := by kernel_rfl
theorem gf_add_v1_e0 (N : Nat) (next) (x) : gf_add_v1_b0 N next x = loopStep Γ (gf_add_v1_C N) (gf_add_v1_J N) 0 27 gf_add_v1_d0 gf_add_v1_c0 next x := by
  rw [← gf_add_v1_CE N]
  exact Eq.trans (by kernel_rfl) (gf_add_v1_f0 N (gf_Mul N) next x)
theorem gf_add_v1_k0 (N : Nat) : LoopOK Try.prog 27 gf_add_v1_c0 ⟨gf_add_v1_d0, loopF (gf_add_v1_b0 N) N⟩ := loop_ok tabOK (gf_add_v1_t N) mixedOK (J := gf_add_v1_J N) (cx := 0) (body := gf_add_v1_c0) (nt := 27) (l := gf_add_v1_d0) (b := gf_add_v1_b0 N) (jok_from gf_add_v1_i0 ⟨trivial, trivial⟩) (gf_add_v1_e0 N) N
theorem gf_add_v1_i : loopsOf gf_add_v1_c = [(0, gf_add_v1_c0)] := by kernel_rfl
noncomputable def gf_add_v1_a (N : Nat) (f0 : Int × Int → Option (Int)) (x : Nat × Nat × Int × (List Int) × (List Int)) : Option ((List Int)) :=
  (cond (decide (x.2.2.1 = (0 : Int)))
  (some x.2.2.2.2)
  (Option.bind (gf_add_v1_l0 N (x.1, x.2.1, x.2.2.1, x.2.2.2.1, (((List.length x.2.2.2.1) : Nat) : Int), (0 : Int), x.2.2.2.2)) fun r3 =>
  (some r3)))
theorem gf_add_v1_f (N : Nat) (f0 : Int × Int → Option (Int)) (x) : gf_add_v1_a N f0 x = fnStep Γ (gf_add_v1_CA N f0) (gf_add_v1_J N) 27 Try.f66.results.toList (gf_add_v1_g N) gf_add_v1_o gf_add_v1_c x := by kernel_rfl
theorem gf_add_v1_e (N : Nat) (x) : (gf_add_v1_g N).F x = fnStep Γ (gf_add_v1_C N) (gf_add_v1_J N) 27 Try.f66.results.toList (gf_add_v1_g N) gf_add_v1_o gf_add_v1_c x := by
  rw [← gf_add_v1_CE N]
  exact Eq.trans (by kernel_rfl) (gf_add_v1_f N (gf_Mul N) x)
theorem gf_add_v1_y : Try.f66.body = some gf_add_v1_c := by kernel_rfl
theorem gf_add_v1_n : (Try.f66.name == "runtime.NumGoroutine") = false := by kernel_rfl
theorem gf_add_v1_ok (N : Nat) : FnDoes Try.prog 66 (gf_add_v1_g N) := fn_ok tabOK (gf_add_v1_t N) mixedOK (J := gf_add_v1_J N) (body := gf_add_v1_c) Try.func66 gf_add_v1_y gf_add_v1_n Try.ntmps66 (jok_from gf_add_v1_i ⟨⟨.inr ⟨_, rfl, gf_add_v1_k0 N⟩, trivial⟩, trivial⟩) rfl rfl (le_of_ble rfl) (gf_add_v1_e N)
noncomputable def gf_Product_c : Code := codeOf Try.f36.body
noncomputable def gf_Product_c0 : Code := codeOf (getLoop 0 gf_Product_c)
noncomputable def gf_Product_c2 : Code := codeOf (getLoop 2 gf_Product_c)
def gf_Product_d2 : LD := { ins := ⟨[(2, (.av (.one (.const (.ptr ⟨0, 0, 0, 0⟩))))), (3, (.av (.one (.const (.ptr ⟨3, 0, 0, 0⟩))))), (4, (.av (.one (.const (.ptr ⟨6, 0, 0, 0⟩))))), (7, (.av (.one (.const (.ptr ⟨11, 0, 0, 0⟩))))), (8, (.av (.one (.int .i64)))), (31, (.av (.one (.int .i64)))), (32, (.av (.one (.int .i64)))), (37, (.av (.one (.rsl (.int .u8))))), (38, (.av (.one (.int .i64)))), (39, (.av (.one (.int .i64))))], [(.keep, false), (.keep, false), (.keep, false), (.sh (.one (.int .i64)), true), (.sh (.one (.int .i64)), true), (.sh (.one (.rsl (.int .u8))), false), (.keep, false), (.keep, false), (.keep, false), (.keep, false), (.sh (.arr (.int .u8) none), false), (.sh (.one (.int .i64)), true), (.sh (.one (.int .i64)), true), (.sh (.one (.const (.slw 10 1))), false)]⟩, mov := [], wr := [3, 4, 5, 10, 11, 12, 13], outs := [(.exit 2, ⟨[], [(.keep, false), (.keep, false), (.keep, false), (.sh (.one (.int .i64)), true), (.sh (.one (.int .i64)), true), (.sh (.one (.rsl (.int .u8))), false), (.keep, false), (.keep, false), (.keep, false), (.keep, false), (.sh (.arr (.int .u8) none), false), (.sh (.one (.int .i64)), true), (.sh (.one (.int .i64)), true), (.sh (.one (.const (.slw 10 1))), false)]⟩)], its := [.int, .int, .int, .lst (.int .u8), .int, .int, .int, .int, .lst (.int .u8), .lst (.int .u8), .int, .int], ots := [[.int, .int, .lst (.int .u8), .lst (.int .u8), .int, .int]] }
def gf_Product_d0 : LD := { ins := ⟨[(2, (.av (.one (.const (.ptr ⟨0, 0, 0, 0⟩))))), (3, (.av (.one (.const (.ptr ⟨3, 0, 0, 0⟩))))), (4, (.av (.one (.const (.ptr ⟨6, 0, 0, 0⟩))))), (7, (.av (.one (.const (.ptr ⟨11, 0, 0, 0⟩))))), (31, (.av (.one (.int .i64)))), (32, (.av (.one (.int .i64))))], [(.sh (.one (.int .i64)), true), (.sh (.one (.int .i64)), true), (.sh (.one (.rsl (.int .u8))), false), (.sh (.one (.int .i64)), true), (.sh (.one (.int .i64)), true), (.sh (.one (.rsl (.int .u8))), false), (.keep, false), (.keep, false), (.keep, false), (.keep, false), (.sh (.arr (.int .u8) none), false), (.sh (.one (.int .i64)), true), (.sh (.one (.int .i64)), true), (.sh (.one (.const (.slw 10 1))), false)]⟩, mov := [], wr := [0, 1, 2, 3, 4, 5, 10, 11, 12, 13], outs := [(.exit 0, ⟨[], [(.sh (.one (.int .i64)), true), (.sh (.one (.int .i64)), true), (.sh (.one (.rsl (.int .u8))), false), (.sh (.one (.int .i64)), true), (.sh (.one (.int .i64)), true), (.sh (.one (.rsl (.int .u8))), false), (.keep, false), (.keep, false), (.keep, false), (.keep, false), (.sh (.arr (.int .u8) none), false), (.sh (.one (.int .i64)), true), (.sh (.one (.int .i64)), true), (.sh (.one (.const (.slw 10 1))), false)]⟩)], its := [.int, .int, .int, .int, .lst (.int .u8), .int, .int, .lst (.int .u8), .lst (.int .u8), .int, .int], ots := [[.int, .int, .lst (.int .u8), .int, .int, .lst (.int .u8), .lst (.int .u8), .int, .int]] }
noncomputable def gf_Product_J (N : Nat) : Nat → Hint := fun cx => hintOf cx [(0, { reg := fun k => assoc0 k [], cnd := fun k => assoc0 k [], loop := fun k => assoc0 k [(2, ⟨gf_Product_d2, loopF (gf_Product_b2 N) N⟩), (0, ⟨gf_Product_d0, loopF (gf_Product_b0 N) N⟩)], nil := fun k => assoc0 k [], unr := fun k => assocN k [], blk := fun k => assoc0 k [] })]
noncomputable def gf_Product_C (N : Nat) : Nat → List GS := fun k => tabOf k [(65, [gf_checked_g N]), (58, [gf_zeros_g N]), (59, [gf_row_g N, gf_row_v1_g N]), (66, [gf_add_v1_g N])]
def gf_Product_o : List (Shp × List Nat) := [(⟨[(0, (.tup [(.agg [(.one (.int .i64)), (.one (.int .i64)), (.one (.const (.slw 0 1)))]), (.one (.int .i64))]))], [(.sh (.arr (.int .u8) none), false)]⟩, [])]
noncomputable def gf_Product_g (N : Nat) : GS := { ins := ⟨[(0, (.av (.agg [(.one (.int .i64)), (.one (.int .i64)), (.one (.rsl (.int .u8)))]))), (1, (.av (.agg [(.one (.int .i64)), (.one (.int .i64)), (.one (.rsl (.int .u8)))])))], []⟩, lend := [.agg [none, none, some (.int .u8)], .agg [none, none, some (.int .u8)]], outs := gf_Product_o.map fun s => ssOf s.1, its := [.int, .int, .lst (.int .u8), .int, .int, .lst (.int .u8)], ots := [[.int, .int, .int, .lst (.int .u8)]], F := gf_Product N }
noncomputable def gf_Product_CA (N : Nat) (f0 : (List (Int × (Int × ((List Int) × Unit)))) → Option (Int)) (f1 : Int × Int → Option (Int × Int × (List Int))) (f2 : Int × Int × Int × (List Int) → Option (Nat × Nat × (List Int))) (f3 : Int × Int × (List Int) × Int → Option ((List Int))) (f4 : Nat × Nat × Int × (List Int) × (List Int) → Option ((List Int))) : Nat → List GS := fun k => tabOf k [(65, [{ gf_checked_g N with F := f0 }]), (58, [{ gf_zeros_g N with F := f1 }]), (59, [{ gf_row_g N with F := f2 }, { gf_row_v1_g N with F := f3 }]), (66, [{ gf_add_v1_g N with F := f4 }])]
theorem gf_Product_CE (N : Nat) : gf_Product_CA N (gf_checked N) (gf_zeros) (gf_row) (gf_row_v1) (gf_add_v1 N) = gf_Product_C N := by kernel_rfl
theorem gf_Product_t (N : Nat) : TabC Try.prog (gf_Product_C N) := tab_ok ⟨⟨gf_checked_ok N, trivial⟩, ⟨gf_zeros_ok N, trivial⟩, ⟨gf_row_ok N, gf_row_v1_ok N, trivial⟩, ⟨gf_add_v1_ok N, trivial⟩, trivial⟩
theorem gf_Product_i2 : loopsOf gf_Product_c2 = [] := by kernel_rfl
noncomputable def gf_Product_a2 (N : Nat) (f0 : (List (Int × (Int × ((List Int) × Unit)))) → Option (Int)) (f1 : Int × Int → Option (Int × Int × (List Int))) (f2 : Int × Int × Int × (List Int) → Option (Nat × Nat × (List Int))) (f3 : Int × Int × (List Int) × Int → Option ((List Int))) (f4 : Nat × Nat × Int × (List Int) × (List Int) → Option ((List Int))) (next : Int × Int × Int × (List Int) × Int × Int × Int × Int × (List Int) × (List Int) × Int × Int → Option ((Int × Int × (List Int) × (List Int) × Int × Int))) (x : Int × Int × Int × (List Int) × Int × Int × Int × Int × (List Int) × (List Int) × Int × Int) : Option ((Int × Int × (List Int) × (List Int) × Int × Int)) :=
  (cond (decide (x.2.2.2.2.2.1 < x.2.2.2.2.1))
  (cond ((decide ((0 : Int) ≤ x.2.2.2.2.2.1)) && (decide (x.2.2.2.2.2.1 < (((List.length x.2.2.2.1) : Nat) : Int))))
  ((Option.bind (f2 (x.2.2.2.2.2.2.2.2.2.2.1, x.2.2.2.2.2.2.2.2.2.2.2, x.1, x.2.2.2.2.2.2.2.2.2.1)) fun r3 =>
  (Option.bind (f3 (x.2.2.2.2.2.2.1, x.2.2.2.2.2.2.2.1, x.2.2.2.2.2.2.2.2.1, x.2.2.2.2.2.1)) fun r4 =>
  (Option.bind (f4 (r3.1, r3.2.1, (List.getD x.2.2.2.1 (Int.toNat x.2.2.2.2.2.1) (EK.dflt (.int .u8))), r4, r3.2.2)) fun r5 =>
  (next (x.1, x.2.1, x.2.2.1, x.2.2.2.1, x.2.2.2.2.1, (wrapF .i64 (x.2.2.2.2.2.1 + (1 : Int))), x.2.2.2.2.2.2.1, x.2.2.2.2.2.2.2.1, x.2.2.2.2.2.2.2.2.1, r5, x.2.2.2.2.2.2.2.2.2.2.1, x.2.2.2.2.2.2.2.2.2.2.2))))))
  none)
  (some (x.2.2.2.2.2.2.1, x.2.2.2.2.2.2.2.1, x.2.2.2.2.2.2.2.2.1, x.2.2.2.2.2.2.2.2.2.1, x.2.2.2.2.2.2.2.2.2.2.1, x.2.2.2.2.2.2.2.2.2.2.2)))
theorem gf_Product_f2 (N : Nat) (f0 : (List (Int × (Int × ((List Int) × Unit)))) → Option (Int)) (f1 : Int × Int → Option (Int × Int × (List Int))) (f2 : Int × Int × Int × (List Int) → Option (Nat × Nat × (List Int))) (f3 : Int × Int × (List Int) × Int → Option ((List Int))) (f4 : Nat × Nat × Int × (List Int) × (List Int) → Option ((List Int))) (next) (x) : gf_Product_a2 N f0 f1 f2 f3 f4 next x = loopStep Γ (gf_Product_CA N f0 f1 f2 f3 f4) (gf_Product_J N) 0 55 gf_Product_d2 gf_Product_c2 next x := by kernel_rfl
theorem gf_Product_e2 (N : Nat) (next) (x) : gf_Product_b2 N next x = loopStep Γ (gf_Product_C N) (gf_Product_J N) 0 55 gf_Product_d2 gf_Product_c2 next x := by
  rw [← gf_Product_CE N]
  exact Eq.trans (by kernel_rfl) (gf_Product_f2 N (gf_checked N) (gf_zeros) (gf_row) (gf_row_v1) (gf_add_v1 N) next x)
theorem gf_Product_k2 (N : Nat) : LoopOK Try.prog 55 gf_Product_c2 ⟨gf_Product_d2, loopF (gf_Product_b2 N) N⟩ := loop_ok tabOK (gf_Product_t N) mixedOK (J := gf_Product_J N) (cx := 0) (body := gf_Product_c2) (nt := 55) (l := gf_Product_d2) (b := gf_Product_b2 N) (jok_from gf_Product_i2 ⟨trivial, trivial⟩) (gf_Product_e2 N) N
theorem gf_Product_i0 : loopsOf gf_Product_c0 = [(2, gf_Product_c2)] := by kernel_rfl
noncomputable def gf_Product_a0 (N : Nat) (f0 : (List (Int × (Int × ((List Int) × Unit)))) → Option (Int)) (f1 : Int × Int → Option (Int × Int × (List Int))) (f2 : Int × Int × Int × (List Int) → Option (Nat × Nat × (List Int))) (f3 : Int × Int × (List Int) × Int → Option ((List Int))) (f4 : Nat × Nat × Int × (List Int) × (List Int) → Option ((List Int))) (next : Int × Int × Int × Int × (List Int) × Int × Int × (List Int) × (List Int) × Int × Int → Option ((Int × Int × (List Int) × Int × Int × (List Int) × (List Int) × Int × Int))) (x : Int × Int × Int × Int × (List Int) × Int × Int × (List Int) × (List Int) × Int × Int) : Option ((Int × Int × (List Int) × Int × Int × (List Int) × (List Int) × Int × Int)) :=
  (cond (decide (x.2.1 < x.1))
  (Option.bind (f3 (x.2.2.1, x.2.2.2.1, x.2.2.2.2.1, x.2.1)) fun r2 =>
  (Option.bind (gf_Product_l2 N (x.2.1, x.1, x.2.1, r2, (((List.length r2) : Nat) : Int), (0 : Int), x.2.2.2.2.2.1, x.2.2.2.2.2.2.1, x.2.2.2.2.2.2.2.1, x.2.2.2.2.2.2.2.2.1, x.2.2.2.2.2.2.2.2.2.1, x.2.2.2.2.2.2.2.2.2.2)) fun r4 =>
  (next (x.1, (wrapF .i64 (x.2.1 + (1 : Int))), x.2.2.1, x.2.2.2.1, x.2.2.2.2.1, r4.1, r4.2.1, r4.2.2.1, r4.2.2.2.1, r4.2.2.2.2.1, r4.2.2.2.2.2))))
  (some (x.2.2.1, x.2.2.2.1, x.2.2.2.2.1, x.2.2.2.2.2.1, x.2.2.2.2.2.2.1, x.2.2.2.2.2.2.2.1, x.2.2.2.2.2.2.2.2.1, x.2.2.2.2.2.2.2.2.2.1, x.2.2.2.2.2.2.2.2.2.2)))
theorem gf_Product_f0 (N : Nat) (f0 : (List (Int × (Int × ((List Int) × Unit)))) → Option (Int)) (f1 : Int × Int → Option (Int × Int × (List Int))) (f2 : Int × Int × Int × (List Int) → Option (Nat × Nat × (List Int))) (f3 : Int × Int × (List Int) × Int → Option ((List Int))) (f4 : Nat × Nat × Int × (List Int) × (List Int) → Option ((List Int))) (next) (x) : gf_Product_a0 N f0 f1 f2 f3 f4 next x = loopStep Γ (gf_Product_CA N f0 f1 f2 f3 f4) (gf_Product_J N) 0 55 gf_Product_d0 gf_Product_c0 next x := by kernel_rfl
theorem gf_Product_e0 (N : Nat) (next) (x) : gf_Product_b0 N next x = loopStep Γ (gf_Product_C N) (gf_Product_J N) 0 55 gf_Product_d0 gf_Product_c0 next x := by
  rw [← gf_Product_CE N]
  exact Eq.trans (by kernel_rfl) (gf_Product_f0 N (gf_checked N) (gf_zeros) (gf_row) (gf_row_v1) (gf_add_v1 N) next x)
theorem gf_Product_k0 (N : Nat) : LoopOK Try.prog 55 gf_Product_c0 ⟨gf_Product_d0, loopF (gf_Product_b0 N) N⟩ := loop_ok tabOK (gf_Product_t N) mixedOK (J := gf_Product_J N) (cx := 0) (body := gf_Product_c0) (nt := 55) (l := gf_Product_d0) (b := gf_Product_b0 N) (jok_from gf_Product_i0 ⟨⟨.inr ⟨_, rfl, gf_Product_k2 N⟩, trivial⟩, trivial⟩) (gf_Product_e0 N) N
theorem gf_Product_i : loopsOf gf_Product_c = [(0, gf_Product_c0), (2, gf_Product_c2)] := by kernel_rfl
noncomputable def gf_Product_a (N : Nat) (f0 : (List (Int × (Int × ((List Int) × Unit)))) → Option (Int)) (f1 : Int × Int → Option (Int × Int × (List Int))) (f2 : Int × Int × Int × (List Int) → Option (Nat × Nat × (List Int))) (f3 : Int × Int × (List Int) × Int → Option ((List Int))) (f4 : Nat × Nat × Int × (List Int) × (List Int) → Option ((List Int))) (x : Int × Int × (List Int) × Int × Int × (List Int)) : Option (Int × Int × Int × (List Int)) :=
  (let v1 : List (Int × (Int × ((List Int) × Unit))) := ([(x.1, (x.2.1, (x.2.2.1, ()))), (x.2.2.2.1, (x.2.2.2.2.1, (x.2.2.2.2.2, ())))] : List (Int × (Int × ((List Int) × Unit))))
  (cond (cond (decide (2 ≤ (List.length v1))) true false)
  (Option.bind (f0 (List.take 2 (List.drop 0 v1))) fun r2 =>
  (cond (!(decide (r2 = (0 : Int))))
  (some ((0 : Int), (0 : Int), r2, ([] : List Int)))
  (cond (!(decide (x.2.1 = x.2.2.2.1)))
  (some ((0 : Int), (0 : Int), (23 : Int), ([] : List Int)))
  (Option.bind (f1 (x.1, x.2.2.2.2.1)) fun r5 =>
  (Option.bind (gf_Product_l0 N (x.1, (0 : Int), x.1, x.2.1, x.2.2.1, x.2.2.2.1, x.2.2.2.2.1, x.2.2.2.2.2, r5.2.2, r5.1, r5.2.1)) fun r6 =>
  (some (r6.2.2.2.2.2.2.2.1, r6.2.2.2.2.2.2.2.2, (0 : Int), r6.2.2.2.2.2.2.1)))))))
  none))
theorem gf_Product_f (N : Nat) (f0 : (List (Int × (Int × ((List Int) × Unit)))) → Option (Int)) (f1 : Int × Int → Option (Int × Int × (List Int))) (f2 : Int × Int × Int × (List Int) → Option (Nat × Nat × (List Int))) (f3 : Int × Int × (List Int) × Int → Option ((List Int))) (f4 : Nat × Nat × Int × (List Int) × (List Int) → Option ((List Int))) (x) : gf_Product_a N f0 f1 f2 f3 f4 x = fnStep Γ (gf_Product_CA N f0 f1 f2 f3 f4) (gf_Product_J N) 55 Try.f36.results.toList (gf_Product_g N) gf_Product_o gf_Product_c x := by kernel_rfl
theorem gf_Product_e (N : Nat) (x) : (gf_Product_g N).F x = fnStep Γ (gf_Product_C N) (gf_Product_J N) 55 Try.f36.results.toList (gf_Product_g N) gf_Product_o gf_Product_c x := by
  rw [← gf_Product_CE N]
  exact Eq.trans (by kernel_rfl) (gf_Product_f N (gf_checked N) (gf_zeros) (gf_row) (gf_row_v1) (gf_add_v1 N) x)
theorem gf_Product_y : Try.f36.body = some gf_Product_c := by kernel_rfl
theorem gf_Product_n : (Try.f36.name == "runtime.NumGoroutine") = false := by kernel_rfl
theorem gf_Product_ok (N : Nat) : FnDoes Try.prog 36 (gf_Product_g N) := fn_ok tabOK (gf_Product_t N) mixedOK (J := gf_Product_J N) (body := gf_Product_c) Try.func36 gf_Product_y gf_Product_n Try.ntmps36 (jok_from gf_Product_i ⟨⟨.inr ⟨_, rfl, gf_Product_k0 N⟩, .inr ⟨_, rfl, gf_Product_k2 N⟩, trivial⟩, trivial⟩) rfl rfl (le_of_ble rfl) (gf_Product_e N)
noncomputable def granaryref02_Same_v2_c : Code := codeOf Try.f38.body
noncomputable def granaryref02_Same_v2_J (N : Nat) : Nat → Hint := fun cx => hintOf cx [(0, { reg := fun k => assoc0 k [(1, ⟨⟨[(4, (.av (.one .bool)))], [(.keep, true), (.keep, true), (.keep, false), (.keep, true), (.keep, true), (.keep, false)]⟩, [], [], [.bool]⟩)], cnd := fun k => assoc0 k [], loop := fun k => assoc0 k [], nil := fun k => assoc0 k [], unr := fun k => assocN k [], blk := fun k => assoc0 k [] })]
noncomputable def granaryref02_Same_v2_C (N : Nat) : Nat → List GS := fun k => tabOf k []
def granaryref02_Same_v2_o : List (Shp × List Nat) := [(⟨[(0, (.av (.one .bool)))], []⟩, [])]
noncomputable def granaryref02_Same_v2_g (N : Nat) : GS := { ins := ⟨[(0, (.av (.agg [(.one (.int .i64)), (.one (.int .i64)), (.one (.rsl (.int .u8)))]))), (1, (.av (.agg [(.one (.int .i64)), (.one (.int .i64)), (.one (.rsl (.int .u8)))])))], []⟩, lend := [.agg [none, none, some (.int .u8)], .keep], outs := granaryref02_Same_v2_o.map fun s => ssOf s.1, its := [.int, .int, .lst (.int .u8), .int, .int, .lst (.int .u8)], ots := [[.bool]], F := granaryref02_Same_v2 }
theorem granaryref02_Same_v2_t (N : Nat) : TabC Try.prog (granaryref02_Same_v2_C N) := tab_ok trivial
theorem granaryref02_Same_v2_i : loopsOf granaryref02_Same_v2_c = [] := by kernel_rfl
theorem granaryref02_Same_v2_e (N : Nat) (x) : (granaryref02_Same_v2_g N).F x = fnStep Γ (granaryref02_Same_v2_C N) (granaryref02_Same_v2_J N) 26 Try.f38.results.toList (granaryref02_Same_v2_g N) granaryref02_Same_v2_o granaryref02_Same_v2_c x := by kernel_rfl
theorem granaryref02_Same_v2_y : Try.f38.body = some granaryref02_Same_v2_c := by kernel_rfl
theorem granaryref02_Same_v2_n : (Try.f38.name == "runtime.NumGoroutine") = false := by kernel_rfl
theorem granaryref02_Same_v2_ok (N : Nat) : FnDoes Try.prog 38 (granaryref02_Same_v2_g N) := fn_ok tabOK (granaryref02_Same_v2_t N) mixedOK (J := granaryref02_Same_v2_J N) (body := granaryref02_Same_v2_c) Try.func38 granaryref02_Same_v2_y granaryref02_Same_v2_n Try.ntmps38 (jok_from granaryref02_Same_v2_i ⟨trivial, trivial⟩) rfl rfl (le_of_ble rfl) (granaryref02_Same_v2_e N)
noncomputable def gf_Rows_c : Code := codeOf Try.f41.body
noncomputable def gf_Rows_c0 : Code := codeOf (getLoop 0 gf_Rows_c)
def gf_Rows_d0 : LD := { ins := ⟨[(2, (.av (.one (.const (.ptr ⟨0, 0, 0, 0⟩))))), (4, (.av (.one (.const (.ptr ⟨3, 0, 0, 0⟩))))), (7, (.av (.one (.const (.ptr ⟨6, 0, 0, 0⟩))))), (26, (.av (.one (.rsl (.int .i64))))), (27, (.av (.one (.int .i64)))), (28, (.av (.one (.int .i64))))], [(.sh (.one (.int .i64)), true), (.sh (.one (.int .i64)), true), (.sh (.one (.rsl (.int .u8))), false), (.sh (.one (.const (.int .i64 (0 : Int)))), true), (.sh (.one (.const (.int .i64 (0 : Int)))), true), (.sh (.one (.const .nils)), false), (.sh (.one (.int .i64)), true), (.sh (.one (.int .i64)), true), (.sh (.one (.const (.slw 9 1))), false), (.sh (.arr (.int .u8) none), false)]⟩, mov := [9], wr := [0, 1, 2, 3, 4, 5, 6, 7, 8], outs := [(.ret, ⟨[(5, (.av (.one (.const (.int .i64 (2 : Int))))))], [(.sh (.one (.int .i64)), true), (.sh (.one (.int .i64)), true), (.sh (.one (.rsl (.int .u8))), false), (.sh (.one (.const (.int .i64 (0 : Int)))), true), (.sh (.one (.const (.int .i64 (0 : Int)))), true), (.sh (.one (.const .nils)), false), (.sh (.one (.int .i64)), true), (.sh (.one (.int .i64)), true), (.sh (.one (.const (.slw 10 1))), false), (.dead, false), (.sh (.arr (.int .u8) none), false)]⟩), (.exit 0, ⟨[], [(.sh (.one (.int .i64)), true), (.sh (.one (.int .i64)), true), (.sh (.one (.rsl (.int .u8))), false), (.sh (.one (.const (.int .i64 (0 : Int)))), true), (.sh (.one (.const (.int .i64 (0 : Int)))), true), (.sh (.one (.const .nils)), false), (.sh (.one (.int .i64)), true), (.sh (.one (.int .i64)), true), (.sh (.one (.const (.slw 10 1))), false), (.dead, false), (.sh (.arr (.int .u8) none), false)]⟩)], its := [.lst (.int .i64), .int, .int, .int, .int, .lst (.int .u8), .int, .int, .lst (.int .u8)], ots := [[.int, .int, .lst (.int .u8), .int, .int, .lst (.int .u8)], [.int, .int, .lst (.int .u8), .int, .int, .lst (.int .u8)]] }
noncomputable def gf_Rows_J (N : Nat) : Nat → Hint := fun cx => hintOf cx [(0, { reg := fun k => assoc0 k [(10, ⟨⟨[(39, (.av (.one .bool)))], [(.keep, true), (.keep, true), (.keep, false), (.keep, true), (.keep, true), (.keep, false), (.keep, true), (.keep, true), (.keep, false), (.keep, false)]⟩, [], [], [.bool]⟩)], cnd := fun k => assoc0 k [], loop := fun k => assoc0 k [(0, ⟨gf_Rows_d0, loopF (gf_Rows_b0 N) N⟩)], nil := fun k => assoc0 k [], unr := fun k => assocN k [], blk := fun k => assoc0 k [] })]
noncomputable def gf_Rows_C (N : Nat) : Nat → List GS := fun k => tabOf k [(50, [gf_Check_g N]), (57, [gf_side_g N]), (59, [gf_row_v1_g N])]
def gf_Rows_o : List (Shp × List Nat) := [(⟨[(0, (.tup [(.agg [(.one (.int .i64)), (.one (.int .i64)), (.one (.const (.slw 0 1)))]), (.one (.int .i64))]))], [(.sh (.arr (.int .u8) none), false)]⟩, [])]
noncomputable def gf_Rows_g (N : Nat) : GS := { ins := ⟨[(0, (.av (.agg [(.one (.int .i64)), (.one (.int .i64)), (.one (.rsl (.int .u8)))]))), (1, (.av (.one (.rsl (.int .i64)))))], []⟩, lend := [.agg [none, none, some (.int .u8)], .lend (.int .i64)], outs := gf_Rows_o.map fun s => ssOf s.1, its := [.int, .int, .lst (.int .u8), .lst (.int .i64)], ots := [[.int, .int, .int, .lst (.int .u8)]], F := gf_Rows N }
noncomputable def gf_Rows_CA (N : Nat) (f0 : Int × Int × (List Int) → Option (Int)) (f1 : Int → Option (Bool)) (f2 : Int × Int × (List Int) × Int → Option ((List Int))) : Nat → List GS := fun k => tabOf k [(50, [{ gf_Check_g N with F := f0 }]), (57, [{ gf_side_g N with F := f1 }]), (59, [{ gf_row_v1_g N with F := f2 }])]
theorem gf_Rows_CE (N : Nat) : gf_Rows_CA N (gf_Check) (gf_side) (gf_row_v1) = gf_Rows_C N := by kernel_rfl
theorem gf_Rows_t (N : Nat) : TabC Try.prog (gf_Rows_C N) := tab_ok ⟨⟨gf_Check_ok N, trivial⟩, ⟨gf_side_ok N, trivial⟩, ⟨gf_row_v1_ok N, trivial⟩, trivial⟩
theorem gf_Rows_i0 : loopsOf gf_Rows_c0 = [] := by kernel_rfl
noncomputable def gf_Rows_a0 (N : Nat) (f0 : Int × Int × (List Int) → Option (Int)) (f1 : Int → Option (Bool)) (f2 : Int × Int × (List Int) × Int → Option ((List Int))) (next : (List Int) × Int × Int × Int × Int × (List Int) × Int × Int × (List Int) → Option ((Int × Int × (List Int) × Int × Int × (List Int)) ⊕ (Int × Int × (List Int) × Int × Int × (List Int)))) (x : (List Int) × Int × Int × Int × Int × (List Int) × Int × Int × (List Int)) : Option ((Int × Int × (List Int) × Int × Int × (List Int)) ⊕ (Int × Int × (List Int) × Int × Int × (List Int))) :=
  (cond (decide (x.2.2.1 < x.2.1))
  (cond ((decide ((0 : Int) ≤ x.2.2.1)) && (decide (x.2.2.1 < (((List.length x.1) : Nat) : Int))))
  ((let v2 : Int := (List.getD x.1 (Int.toNat x.2.2.1) (EK.dflt (.int .i64)))
  (Option.bind
  (cond (decide (v2 < (0 : Int)))
  (some true)
  (some (decide (x.2.2.2.1 ≤ v2))))
  fun r5 =>
  (cond r5
  (some (.inl (x.2.2.2.1, x.2.2.2.2.1, x.2.2.2.2.2.1, x.2.2.2.2.2.2.1, x.2.2.2.2.2.2.2.1, x.2.2.2.2.2.2.2.2)))
  (Option.bind (f2 (x.2.2.2.1, x.2.2.2.2.1, x.2.2.2.2.2.1, v2)) fun r6 =>
  (cond (fits 1 ((List.length x.2.2.2.2.2.2.2.2) + (List.length r6)))
  ((next (x.1, x.2.1, (wrapF .i64 (x.2.2.1 + (1 : Int))), x.2.2.2.1, x.2.2.2.2.1, x.2.2.2.2.2.1, x.2.2.2.2.2.2.1, x.2.2.2.2.2.2.2.1, (x.2.2.2.2.2.2.2.2 ++ r6))))
  none))))))
  none)
  (some (.inr ((x.2.2.2.1, x.2.2.2.2.1, x.2.2.2.2.2.1, x.2.2.2.2.2.2.1, x.2.2.2.2.2.2.2.1, x.2.2.2.2.2.2.2.2)))))
theorem gf_Rows_f0 (N : Nat) (f0 : Int × Int × (List Int) → Option (Int)) (f1 : Int → Option (Bool)) (f2 : Int × Int × (List Int) × Int → Option ((List Int))) (next) (x) : gf_Rows_a0 N f0 f1 f2 next x = loopStep Γ (gf_Rows_CA N f0 f1 f2) (gf_Rows_J N) 0 50 gf_Rows_d0 gf_Rows_c0 next x := by kernel_rfl
theorem gf_Rows_e0 (N : Nat) (next) (x) : gf_Rows_b0 N next x = loopStep Γ (gf_Rows_C N) (gf_Rows_J N) 0 50 gf_Rows_d0 gf_Rows_c0 next x := by
  rw [← gf_Rows_CE N]
  exact Eq.trans (by kernel_rfl) (gf_Rows_f0 N (gf_Check) (gf_side) (gf_row_v1) next x)
theorem gf_Rows_k0 (N : Nat) : LoopOK Try.prog 50 gf_Rows_c0 ⟨gf_Rows_d0, loopF (gf_Rows_b0 N) N⟩ := loop_ok tabOK (gf_Rows_t N) mixedOK (J := gf_Rows_J N) (cx := 0) (body := gf_Rows_c0) (nt := 50) (l := gf_Rows_d0) (b := gf_Rows_b0 N) (jok_from gf_Rows_i0 ⟨trivial, trivial⟩) (gf_Rows_e0 N) N
theorem gf_Rows_i : loopsOf gf_Rows_c = [(0, gf_Rows_c0)] := by kernel_rfl
noncomputable def gf_Rows_a (N : Nat) (f0 : Int × Int × (List Int) → Option (Int)) (f1 : Int → Option (Bool)) (f2 : Int × Int × (List Int) × Int → Option ((List Int))) (x : Int × Int × (List Int) × (List Int)) : Option (Int × Int × Int × (List Int)) :=
  (Option.bind (f0 (x.1, x.2.1, x.2.2.1)) fun r1 =>
  (cond (!(decide (r1 = (0 : Int))))
  (some ((0 : Int), (0 : Int), r1, ([] : List Int)))
  (Option.bind (f1 (((List.length x.2.2.2) : Nat) : Int)) fun r4 =>
  (cond (!r4)
  (some ((0 : Int), (0 : Int), (2 : Int), ([] : List Int)))
  (Option.bind (gf_Rows_l0 N (x.2.2.2, (((List.length x.2.2.2) : Nat) : Int), (0 : Int), x.1, x.2.1, x.2.2.1, (((List.length x.2.2.2) : Nat) : Int), x.2.1, ([] : List Int))) fun r8 =>
  (match r8 with
  | .inl y9 =>
  (some ((0 : Int), (0 : Int), (2 : Int), ([] : List Int)))
  | .inr z10 =>
  (some (z10.2.2.2.1, z10.2.2.2.2.1, (0 : Int), z10.2.2.2.2.2))))))))
theorem gf_Rows_f (N : Nat) (f0 : Int × Int × (List Int) → Option (Int)) (f1 : Int → Option (Bool)) (f2 : Int × Int × (List Int) × Int → Option ((List Int))) (x) : gf_Rows_a N f0 f1 f2 x = fnStep Γ (gf_Rows_CA N f0 f1 f2) (gf_Rows_J N) 50 Try.f41.results.toList (gf_Rows_g N) gf_Rows_o gf_Rows_c x := by kernel_rfl
theorem gf_Rows_e (N : Nat) (x) : (gf_Rows_g N).F x = fnStep Γ (gf_Rows_C N) (gf_Rows_J N) 50 Try.f41.results.toList (gf_Rows_g N) gf_Rows_o gf_Rows_c x := by
  rw [← gf_Rows_CE N]
  exact Eq.trans (by kernel_rfl) (gf_Rows_f N (gf_Check) (gf_side) (gf_row_v1) x)
theorem gf_Rows_y : Try.f41.body = some gf_Rows_c := by kernel_rfl
theorem gf_Rows_n : (Try.f41.name == "runtime.NumGoroutine") = false := by kernel_rfl
theorem gf_Rows_ok (N : Nat) : FnDoes Try.prog 41 (gf_Rows_g N) := fn_ok tabOK (gf_Rows_t N) mixedOK (J := gf_Rows_J N) (body := gf_Rows_c) Try.func41 gf_Rows_y gf_Rows_n Try.ntmps41 (jok_from gf_Rows_i ⟨⟨.inr ⟨_, rfl, gf_Rows_k0 N⟩, trivial⟩, trivial⟩) rfl rfl (le_of_ble rfl) (gf_Rows_e N)
noncomputable def granaryref02_both_c : Code := codeOf Try.f69.body
noncomputable def granaryref02_both_J (N : Nat) : Nat → Hint := fun cx => hintOf cx []
noncomputable def granaryref02_both_C (N : Nat) : Nat → List GS := fun k => tabOf k [(32, [granaryref02_Check_g N])]
def granaryref02_both_o : List (Shp × List Nat) := [(⟨[(0, (.av (.one (.int .i64))))], []⟩, [])]
noncomputable def granaryref02_both_g (N : Nat) : GS := { ins := ⟨[(0, (.av (.agg [(.one (.int .i64)), (.one (.int .i64)), (.one (.rsl (.int .u8)))]))), (1, (.av (.agg [(.one (.int .i64)), (.one (.int .i64)), (.one (.rsl (.int .u8)))])))], []⟩, lend := [.keep, .keep], outs := granaryref02_both_o.map fun s => ssOf s.1, its := [.int, .int, .lst (.int .u8), .int, .int, .lst (.int .u8)], ots := [[.int]], F := granaryref02_both }
noncomputable def granaryref02_both_CA (N : Nat) (f0 : Int × Int × (List Int) → Option (Int)) : Nat → List GS := fun k => tabOf k [(32, [{ granaryref02_Check_g N with F := f0 }])]
theorem granaryref02_both_CE (N : Nat) : granaryref02_both_CA N (granaryref02_Check) = granaryref02_both_C N := by kernel_rfl
theorem granaryref02_both_t (N : Nat) : TabC Try.prog (granaryref02_both_C N) := tab_ok ⟨⟨granaryref02_Check_ok N, trivial⟩, trivial⟩
theorem granaryref02_both_i : loopsOf granaryref02_both_c = [] := by kernel_rfl
noncomputable def granaryref02_both_a (N : Nat) (f0 : Int × Int × (List Int) → Option (Int)) (x : Int × Int × (List Int) × Int × Int × (List Int)) : Option (Int) :=
  (Option.bind (f0 (x.1, x.2.1, x.2.2.1)) fun r1 =>
  (cond (!(decide (r1 = (0 : Int))))
  (some r1)
  (Option.bind (f0 (x.2.2.2.1, x.2.2.2.2.1, x.2.2.2.2.2)) fun r3 =>
  (some r3))))
theorem granaryref02_both_f (N : Nat) (f0 : Int × Int × (List Int) → Option (Int)) (x) : granaryref02_both_a N f0 x = fnStep Γ (granaryref02_both_CA N f0) (granaryref02_both_J N) 13 Try.f69.results.toList (granaryref02_both_g N) granaryref02_both_o granaryref02_both_c x := by kernel_rfl
theorem granaryref02_both_e (N : Nat) (x) : (granaryref02_both_g N).F x = fnStep Γ (granaryref02_both_C N) (granaryref02_both_J N) 13 Try.f69.results.toList (granaryref02_both_g N) granaryref02_both_o granaryref02_both_c x := by
  rw [← granaryref02_both_CE N]
  exact Eq.trans (by kernel_rfl) (granaryref02_both_f N (granaryref02_Check) x)
theorem granaryref02_both_y : Try.f69.body = some granaryref02_both_c := by kernel_rfl
theorem granaryref02_both_n : (Try.f69.name == "runtime.NumGoroutine") = false := by kernel_rfl
theorem granaryref02_both_ok (N : Nat) : FnDoes Try.prog 69 (granaryref02_both_g N) := fn_ok tabOK (granaryref02_both_t N) mixedOK (J := granaryref02_both_J N) (body := granaryref02_both_c) Try.func69 granaryref02_both_y granaryref02_both_n Try.ntmps69 (jok_from granaryref02_both_i trivial) rfl rfl (le_of_ble rfl) (granaryref02_both_e N)
noncomputable def granaryref02_At_c : Code := codeOf Try.f70.body
noncomputable def granaryref02_At_J (N : Nat) : Nat → Hint := fun cx => hintOf cx []
noncomputable def granaryref02_At_C (N : Nat) : Nat → List GS := fun k => tabOf k []
def granaryref02_At_o : List (Shp × List Nat) := [(⟨[(0, (.av (.one (.int .u8))))], []⟩, [])]
noncomputable def granaryref02_At_g (N : Nat) : GS := { ins := ⟨[(0, (.av (.agg [(.one (.int .i64)), (.one (.int .i64)), (.one (.rsl (.int .u8)))]))), (1, (.av (.one (.int .i64)))), (2, (.av (.one (.int .i64))))], []⟩, lend := [.keep, .keep, .keep], outs := granaryref02_At_o.map fun s => ssOf s.1, its := [.int, .int, .lst (.int .u8), .int, .int], ots := [[.int]], F := granaryref02_At }
theorem granaryref02_At_t (N : Nat) : TabC Try.prog (granaryref02_At_C N) := tab_ok trivial
theorem granaryref02_At_i : loopsOf granaryref02_At_c = [] := by kernel_rfl
theorem granaryref02_At_e (N : Nat) (x) : (granaryref02_At_g N).F x = fnStep Γ (granaryref02_At_C N) (granaryref02_At_J N) 17 Try.f70.results.toList (granaryref02_At_g N) granaryref02_At_o granaryref02_At_c x := by kernel_rfl
theorem granaryref02_At_y : Try.f70.body = some granaryref02_At_c := by kernel_rfl
theorem granaryref02_At_n : (Try.f70.name == "runtime.NumGoroutine") = false := by kernel_rfl
theorem granaryref02_At_ok (N : Nat) : FnDoes Try.prog 70 (granaryref02_At_g N) := fn_ok tabOK (granaryref02_At_t N) mixedOK (J := granaryref02_At_J N) (body := granaryref02_At_c) Try.func70 granaryref02_At_y granaryref02_At_n Try.ntmps70 (jok_from granaryref02_At_i trivial) rfl rfl (le_of_ble rfl) (granaryref02_At_e N)
noncomputable def granaryref02_Product_c : Code := codeOf Try.f48.body
noncomputable def granaryref02_Product_c0 : Code := codeOf (getLoop 0 granaryref02_Product_c)
noncomputable def granaryref02_Product_c2 : Code := codeOf (getLoop 2 granaryref02_Product_c)
noncomputable def granaryref02_Product_c4 : Code := codeOf (getLoop 4 granaryref02_Product_c)
def granaryref02_Product_d4 : LD := { ins := ⟨[(2, (.av (.one (.const (.ptr ⟨0, 0, 0, 0⟩))))), (3, (.av (.one (.const (.ptr ⟨3, 0, 0, 0⟩))))), (4, (.av (.one (.const (.ptr ⟨6, 0, 0, 0⟩))))), (7, (.av (.one (.const (.ptr ⟨10, 0, 0, 0⟩))))), (8, (.av (.one (.int .i64)))), (9, (.av (.one (.int .i64)))), (10, (.av (.one (.int .i64))))], [(.sh (.one (.int .i64)), true), (.sh (.one (.int .i64)), true), (.sh (.one (.rsl (.int .u8))), false), (.sh (.one (.int .i64)), true), (.sh (.one (.int .i64)), true), (.sh (.one (.rsl (.int .u8))), false), (.keep, false), (.keep, false), (.keep, false), (.sh (.arr (.int .u8) none), false), (.sh (.one (.int .i64)), true), (.sh (.one (.int .i64)), true), (.sh (.one (.const (.slw 9 1))), false)]⟩, mov := [], wr := [0, 1, 2, 3, 4, 5, 9, 10, 11, 12], outs := [(.exit 4, ⟨[], [(.sh (.one (.int .i64)), true), (.sh (.one (.int .i64)), true), (.sh (.one (.rsl (.int .u8))), false), (.sh (.one (.int .i64)), true), (.sh (.one (.int .i64)), true), (.sh (.one (.rsl (.int .u8))), false), (.keep, false), (.keep, false), (.keep, false), (.sh (.arr (.int .u8) none), false), (.sh (.one (.int .i64)), true), (.sh (.one (.int .i64)), true), (.sh (.one (.const (.slw 9 1))), false)]⟩)], its := [.int, .int, .int, .int, .int, .lst (.int .u8), .int, .int, .lst (.int .u8), .lst (.int .u8), .int, .int], ots := [[.int, .int, .lst (.int .u8), .int, .int, .lst (.int .u8), .lst (.int .u8), .int, .int]] }
def granaryref02_Product_d2 : LD := { ins := ⟨[(2, (.av (.one (.const (.ptr ⟨0, 0, 0, 0⟩))))), (3, (.av (.one (.const (.ptr ⟨3, 0, 0, 0⟩))))), (4, (.av (.one (.const (.ptr ⟨6, 0, 0, 0⟩))))), (7, (.av (.one (.const (.ptr ⟨10, 0, 0, 0⟩))))), (8, (.av (.one (.int .i64)))), (9, (.av (.one (.int .i64))))], [(.sh (.one (.int .i64)), true), (.sh (.one (.int .i64)), true), (.sh (.one (.rsl (.int .u8))), false), (.sh (.one (.int .i64)), true), (.sh (.one (.int .i64)), true), (.sh (.one (.rsl (.int .u8))), false), (.keep, false), (.keep, false), (.keep, false), (.sh (.arr (.int .u8) none), false), (.sh (.one (.int .i64)), true), (.sh (.one (.int .i64)), true), (.sh (.one (.const (.slw 9 1))), false)]⟩, mov := [], wr := [0, 1, 2, 3, 4, 5, 9, 10, 11, 12], outs := [(.exit 2, ⟨[], [(.sh (.one (.int .i64)), true), (.sh (.one (.int .i64)), true), (.sh (.one (.rsl (.int .u8))), false), (.sh (.one (.int .i64)), true), (.sh (.one (.int .i64)), true), (.sh (.one (.rsl (.int .u8))), false), (.keep, false), (.keep, false), (.keep, false), (.sh (.arr (.int .u8) none), false), (.sh (.one (.int .i64)), true), (.sh (.one (.int .i64)), true), (.sh (.one (.const (.slw 9 1))), false)]⟩)], its := [.int, .int, .int, .int, .lst (.int .u8), .int, .int, .lst (.int .u8), .lst (.int .u8), .int, .int], ots := [[.int, .int, .lst (.int .u8), .int, .int, .lst (.int .u8), .lst (.int .u8), .int, .int]] }
def granaryref02_Product_d0 : LD := { ins := ⟨[(2, (.av (.one (.const (.ptr ⟨0, 0, 0, 0⟩))))), (3, (.av (.one (.const (.ptr ⟨3, 0, 0, 0⟩))))), (4, (.av (.one (.const (.ptr ⟨6, 0, 0, 0⟩))))), (7, (.av (.one (.const (.ptr ⟨10, 0, 0, 0⟩))))), (8, (.av (.one (.int .i64))))], [(.sh (.one (.int .i64)), true), (.sh (.one (.int .i64)), true), (.sh (.one (.rsl (.int .u8))), false), (.sh (.one (.int .i64)), true), (.sh (.one (.int .i64)), true), (.sh (.one (.rsl (.int .u8))), false), (.keep, false), (.keep, false), (.keep, false), (.sh (.arr (.int .u8) none), false), (.sh (.one (.int .i64)), true), (.sh (.one (.int .i64)), true), (.sh (.one (.const (.slw 9 1))), false)]⟩, mov := [], wr := [0, 1, 2, 3, 4, 5, 9, 10, 11, 12], outs := [(.exit 0, ⟨[], [(.sh (.one (.int .i64)), true), (.sh (.one (.int .i64)), true), (.sh (.one (.rsl (.int .u8))), false), (.sh (.one (.int .i64)), true), (.sh (.one (.int .i64)), true), (.sh (.one (.rsl (.int .u8))), false), (.keep, false), (.keep, false), (.keep, false), (.sh (.arr (.int .u8) none), false), (.sh (.one (.int .i64)), true), (.sh (.one (.int .i64)), true), (.sh (.one (.const (.slw 9 1))), false)]⟩)], its := [.int, .int, .int, .lst (.int .u8), .int, .int, .lst (.int .u8), .lst (.int .u8), .int, .int], ots := [[.int, .int, .lst (.int .u8), .int, .int, .lst (.int .u8), .lst (.int .u8), .int, .int]] }
noncomputable def granaryref02_Product_J (N : Nat) : Nat → Hint := fun cx => hintOf cx [(0, { reg := fun k => assoc0 k [], cnd := fun k => assoc0 k [], loop := fun k => assoc0 k [(4, ⟨granaryref02_Product_d4, loopF (granaryref02_Product_b4 N) N⟩), (2, ⟨granaryref02_Product_d2, loopF (granaryref02_Product_b2 N) N⟩), (0, ⟨granaryref02_Product_d0, loopF (granaryref02_Product_b0 N) N⟩)], nil := fun k => assoc0 k [], unr := fun k => assocN k [], blk := fun k => assoc0 k [] })]
noncomputable def granaryref02_Product_C (N : Nat) : Nat → List GS := fun k => tabOf k [(69, [granaryref02_both_g N]), (60, [granaryref02_New_g N]), (70, [granaryref02_At_g N]), (27, [granaryref02_Mul_g N])]
def granaryref02_Product_o : List (Shp × List Nat) := [(⟨[(0, (.tup [(.agg [(.one (.int .i64)), (.one (.int .i64)), (.one (.const (.slw 0 1)))]), (.one (.int .i64))]))], [(.sh (.arr (.int .u8) none), false)]⟩, [])]
noncomputable def granaryref02_Product_g (N : Nat) : GS := { ins := ⟨[(0, (.av (.agg [(.one (.int .i64)), (.one (.int .i64)), (.one (.rsl (.int .u8)))]))), (1, (.av (.agg [(.one (.int .i64)), (.one (.int .i64)), (.one (.rsl (.int .u8)))])))], []⟩, lend := [.keep, .keep], outs := granaryref02_Product_o.map fun s => ssOf s.1, its := [.int, .int, .lst (.int .u8), .int, .int, .lst (.int .u8)], ots := [[.int, .int, .int, .lst (.int .u8)]], F := granaryref02_Product N }
noncomputable def granaryref02_Product_CA (N : Nat) (f0 : Int × Int × (List Int) × Int × Int × (List Int) → Option (Int)) (f1 : Int × Int → Option (Int × Int × (List Int))) (f2 : Int × Int × (List Int) × Int × Int → Option (Int)) (f3 : Int × Int → Option (Int)) : Nat → List GS := fun k => tabOf k [(69, [{ granaryref02_both_g N with F := f0 }]), (60, [{ granaryref02_New_g N with F := f1 }]), (70, [{ granaryref02_At_g N with F := f2 }]), (27, [{ granaryref02_Mul_g N with F := f3 }])]
theorem granaryref02_Product_CE (N : Nat) : granaryref02_Product_CA N (granaryref02_both) (granaryref02_New) (granaryref02_At) (granaryref02_Mul N) = granaryref02_Product_C N := by kernel_rfl
theorem granaryref02_Product_t (N : Nat) : TabC Try.prog (granaryref02_Product_C N) := tab_ok ⟨⟨granaryref02_both_ok N, trivial⟩, ⟨granaryref02_New_ok N, trivial⟩, ⟨granaryref02_At_ok N, trivial⟩, ⟨granaryref02_Mul_ok N, trivial⟩, trivial⟩
theorem granaryref02_Product_i4 : loopsOf granaryref02_Product_c4 = [] := by kernel_rfl
noncomputable def granaryref02_Product_a4 (N : Nat) (f0 : Int × Int × (List Int) × Int × Int × (List Int) → Option (Int)) (f1 : Int × Int → Option (Int × Int × (List Int))) (f2 : Int × Int × (List Int) × Int × Int → Option (Int)) (f3 : Int × Int → Option (Int)) (next : Int × Int × Int × Int × Int × (List Int) × Int × Int × (List Int) × (List Int) × Int × Int → Option ((Int × Int × (List Int) × Int × Int × (List Int) × (List Int) × Int × Int))) (x : Int × Int × Int × Int × Int × (List Int) × Int × Int × (List Int) × (List Int) × Int × Int) : Option ((Int × Int × (List Int) × Int × Int × (List Int) × (List Int) × Int × Int)) :=
  (cond (decide (x.2.2.1 < x.2.2.2.2.1))
  (let v3 : Int := (wrapF .i64 ((wrapF .i64 (x.1 * x.2.2.2.2.2.2.2.1)) + x.2.1))
  (let v5 : Int := (wrapF .i64 ((wrapF .i64 (x.1 * x.2.2.2.2.2.2.2.1)) + x.2.1))
  (cond ((decide ((0 : Int) ≤ v5)) && (decide (v5 < (((List.length x.2.2.2.2.2.2.2.2.2.1) : Nat) : Int))))
  ((let v6 : Nat := (Int.toNat v5)
  (cond (decide (v6 < (List.length x.2.2.2.2.2.2.2.2.2.1)))
  ((Option.bind (f2 (x.2.2.2.1, x.2.2.2.2.1, x.2.2.2.2.2.1, x.1, x.2.2.1)) fun r8 =>
  (Option.bind (f2 (x.2.2.2.2.2.2.1, x.2.2.2.2.2.2.2.1, x.2.2.2.2.2.2.2.2.1, x.2.2.1, x.2.1)) fun r9 =>
  (Option.bind (f3 (r8, r9)) fun r10 =>
  (cond ((decide ((0 : Int) ≤ v3)) && (decide (v3 < (((List.length x.2.2.2.2.2.2.2.2.2.1) : Nat) : Int))))
  ((let v12 : Nat := (Int.toNat v3)
  (cond (decide (v12 < (List.length x.2.2.2.2.2.2.2.2.2.1)))
  ((next (x.1, x.2.1, (wrapF .i64 (x.2.2.1 + (1 : Int))), x.2.2.2.1, x.2.2.2.2.1, x.2.2.2.2.2.1, x.2.2.2.2.2.2.1, x.2.2.2.2.2.2.2.1, x.2.2.2.2.2.2.2.2.1, (List.set x.2.2.2.2.2.2.2.2.2.1 v12 (xorF .u8 (List.getD x.2.2.2.2.2.2.2.2.2.1 v6 (EK.dflt (.int .u8))) r10)), x.2.2.2.2.2.2.2.2.2.2.1, x.2.2.2.2.2.2.2.2.2.2.2)))
  none)))
  none)))))
  none)))
  none)))
  (some (x.2.2.2.1, x.2.2.2.2.1, x.2.2.2.2.2.1, x.2.2.2.2.2.2.1, x.2.2.2.2.2.2.2.1, x.2.2.2.2.2.2.2.2.1, x.2.2.2.2.2.2.2.2.2.1, x.2.2.2.2.2.2.2.2.2.2.1, x.2.2.2.2.2.2.2.2.2.2.2)))
theorem granaryref02_Product_f4 (N : Nat) (f0 : Int × Int × (List Int) × Int × Int × (List Int) → Option (Int)) (f1 : Int × Int → Option (Int × Int × (List Int))) (f2 : Int × Int × (List Int) × Int × Int → Option (Int)) (f3 : Int × Int → Option (Int)) (next) (x) : granaryref02_Product_a4 N f0 f1 f2 f3 next x = loopStep Γ (granaryref02_Product_CA N f0 f1 f2 f3) (granaryref02_Product_J N) 0 77 granaryref02_Product_d4 granaryref02_Product_c4 next x := by kernel_rfl
theorem granaryref02_Product_e4 (N : Nat) (next) (x) : granaryref02_Product_b4 N next x = loopStep Γ (granaryref02_Product_C N) (granaryref02_Product_J N) 0 77 granaryref02_Product_d4 granaryref02_Product_c4 next x := by
  rw [← granaryref02_Product_CE N]
  exact Eq.trans (by kernel_rfl) (granaryref02_Product_f4 N (granaryref02_both) (granaryref02_New) (granaryref02_At) (granaryref02_Mul N) next x)
theorem granaryref02_Product_k4 (N : Nat) : LoopOK Try.prog 77 granaryref02_Product_c4 ⟨granaryref02_Product_d4, loopF (granaryref02_Product_b4 N) N⟩ := loop_ok tabOK (granaryref02_Product_t N) mixedOK (J := granaryref02_Product_J N) (cx := 0) (body := granaryref02_Product_c4) (nt := 77) (l := granaryref02_Product_d4) (b := granaryref02_Product_b4 N) (jok_from granaryref02_Product_i4 ⟨trivial, trivial⟩) (granaryref02_Product_e4 N) N
theorem granaryref02_Product_i2 : loopsOf granaryref02_Product_c2 = [(4, granaryref02_Product_c4)] := by kernel_rfl
noncomputable def granaryref02_Product_a2 (N : Nat) (f0 : Int × Int × (List Int) × Int × Int × (List Int) → Option (Int)) (f1 : Int × Int → Option (Int × Int × (List Int))) (f2 : Int × Int × (List Int) × Int × Int → Option (Int)) (f3 : Int × Int → Option (Int)) (next : Int × Int × Int × Int × (List Int) × Int × Int × (List Int) × (List Int) × Int × Int → Option ((Int × Int × (List Int) × Int × Int × (List Int) × (List Int) × Int × Int))) (x : Int × Int × Int × Int × (List Int) × Int × Int × (List Int) × (List Int) × Int × Int) : Option ((Int × Int × (List Int) × Int × Int × (List Int) × (List Int) × Int × Int)) :=
  (cond (decide (x.2.1 < x.2.2.2.2.2.2.1))
  (Option.bind (granaryref02_Product_l4 N (x.1, x.2.1, (0 : Int), x.2.2.1, x.2.2.2.1, x.2.2.2.2.1, x.2.2.2.2.2.1, x.2.2.2.2.2.2.1, x.2.2.2.2.2.2.2.1, x.2.2.2.2.2.2.2.2.1, x.2.2.2.2.2.2.2.2.2.1, x.2.2.2.2.2.2.2.2.2.2)) fun r2 =>
  (next (x.1, (wrapF .i64 (x.2.1 + (1 : Int))), r2.1, r2.2.1, r2.2.2.1, r2.2.2.2.1, r2.2.2.2.2.1, r2.2.2.2.2.2.1, r2.2.2.2.2.2.2.1, r2.2.2.2.2.2.2.2.1, r2.2.2.2.2.2.2.2.2)))
  (some (x.2.2.1, x.2.2.2.1, x.2.2.2.2.1, x.2.2.2.2.2.1, x.2.2.2.2.2.2.1, x.2.2.2.2.2.2.2.1, x.2.2.2.2.2.2.2.2.1, x.2.2.2.2.2.2.2.2.2.1, x.2.2.2.2.2.2.2.2.2.2)))
theorem granaryref02_Product_f2 (N : Nat) (f0 : Int × Int × (List Int) × Int × Int × (List Int) → Option (Int)) (f1 : Int × Int → Option (Int × Int × (List Int))) (f2 : Int × Int × (List Int) × Int × Int → Option (Int)) (f3 : Int × Int → Option (Int)) (next) (x) : granaryref02_Product_a2 N f0 f1 f2 f3 next x = loopStep Γ (granaryref02_Product_CA N f0 f1 f2 f3) (granaryref02_Product_J N) 0 77 granaryref02_Product_d2 granaryref02_Product_c2 next x := by kernel_rfl
theorem granaryref02_Product_e2 (N : Nat) (next) (x) : granaryref02_Product_b2 N next x = loopStep Γ (granaryref02_Product_C N) (granaryref02_Product_J N) 0 77 granaryref02_Product_d2 granaryref02_Product_c2 next x := by
  rw [← granaryref02_Product_CE N]
  exact Eq.trans (by kernel_rfl) (granaryref02_Product_f2 N (granaryref02_both) (granaryref02_New) (granaryref02_At) (granaryref02_Mul N) next x)
theorem granaryref02_Product_k2 (N : Nat) : LoopOK Try.prog 77 granaryref02_Product_c2 ⟨granaryref02_Product_d2, loopF (granaryref02_Product_b2 N) N⟩ := loop_ok tabOK (granaryref02_Product_t N) mixedOK (J := granaryref02_Product_J N) (cx := 0) (body := granaryref02_Product_c2) (nt := 77) (l := granaryref02_Product_d2) (b := granaryref02_Product_b2 N) (jok_from granaryref02_Product_i2 ⟨⟨.inr ⟨_, rfl, granaryref02_Product_k4 N⟩, trivial⟩, trivial⟩) (granaryref02_Product_e2 N) N
theorem granaryref02_Product_i0 : loopsOf granaryref02_Product_c0 = [(2, granaryref02_Product_c2), (4, granaryref02_Product_c4)] := by kernel_rfl
noncomputable def granaryref02_Product_a0 (N : Nat) (f0 : Int × Int × (List Int) × Int × Int × (List Int) → Option (Int)) (f1 : Int × Int → Option (Int × Int × (List Int))) (f2 : Int × Int × (List Int) × Int × Int → Option (Int)) (f3 : Int × Int → Option (Int)) (next : Int × Int × Int × (List Int) × Int × Int × (List Int) × (List Int) × Int × Int → Option ((Int × Int × (List Int) × Int × Int × (List Int) × (List Int) × Int × Int))) (x : Int × Int × Int × (List Int) × Int × Int × (List Int) × (List Int) × Int × Int) : Option ((Int × Int × (List Int) × Int × Int × (List Int) × (List Int) × Int × Int)) :=
  (cond (decide (x.1 < x.2.1))
  (Option.bind (granaryref02_Product_l2 N (x.1, (0 : Int), x.2.1, x.2.2.1, x.2.2.2.1, x.2.2.2.2.1, x.2.2.2.2.2.1, x.2.2.2.2.2.2.1, x.2.2.2.2.2.2.2.1, x.2.2.2.2.2.2.2.2.1, x.2.2.2.2.2.2.2.2.2)) fun r2 =>
  (next ((wrapF .i64 (x.1 + (1 : Int))), r2.1, r2.2.1, r2.2.2.1, r2.2.2.2.1, r2.2.2.2.2.1, r2.2.2.2.2.2.1, r2.2.2.2.2.2.2.1, r2.2.2.2.2.2.2.2.1, r2.2.2.2.2.2.2.2.2)))
  (some (x.2.1, x.2.2.1, x.2.2.2.1, x.2.2.2.2.1, x.2.2.2.2.2.1, x.2.2.2.2.2.2.1, x.2.2.2.2.2.2.2.1, x.2.2.2.2.2.2.2.2.1, x.2.2.2.2.2.2.2.2.2)))
theorem granaryref02_Product_f0 (N : Nat) (f0 : Int × Int × (List Int) × Int × Int × (List Int) → Option (Int)) (f1 : Int × Int → Option (Int × Int × (List Int))) (f2 : Int × Int × (List Int) × Int × Int → Option (Int)) (f3 : Int × Int → Option (Int)) (next) (x) : granaryref02_Product_a0 N f0 f1 f2 f3 next x = loopStep Γ (granaryref02_Product_CA N f0 f1 f2 f3) (granaryref02_Product_J N) 0 77 granaryref02_Product_d0 granaryref02_Product_c0 next x := by kernel_rfl
theorem granaryref02_Product_e0 (N : Nat) (next) (x) : granaryref02_Product_b0 N next x = loopStep Γ (granaryref02_Product_C N) (granaryref02_Product_J N) 0 77 granaryref02_Product_d0 granaryref02_Product_c0 next x := by
  rw [← granaryref02_Product_CE N]
  exact Eq.trans (by kernel_rfl) (granaryref02_Product_f0 N (granaryref02_both) (granaryref02_New) (granaryref02_At) (granaryref02_Mul N) next x)
theorem granaryref02_Product_k0 (N : Nat) : LoopOK Try.prog 77 granaryref02_Product_c0 ⟨granaryref02_Product_d0, loopF (granaryref02_Product_b0 N) N⟩ := loop_ok tabOK (granaryref02_Product_t N) mixedOK (J := granaryref02_Product_J N) (cx := 0) (body := granaryref02_Product_c0) (nt := 77) (l := granaryref02_Product_d0) (b := granaryref02_Product_b0 N) (jok_from granaryref02_Product_i0 ⟨⟨.inr ⟨_, rfl, granaryref02_Product_k2 N⟩, .inr ⟨_, rfl, granaryref02_Product_k4 N⟩, trivial⟩, trivial⟩) (granaryref02_Product_e0 N) N
theorem granaryref02_Product_i : loopsOf granaryref02_Product_c = [(0, granaryref02_Product_c0), (2, granaryref02_Product_c2), (4, granaryref02_Product_c4)] := by kernel_rfl
noncomputable def granaryref02_Product_a (N : Nat) (f0 : Int × Int × (List Int) × Int × Int × (List Int) → Option (Int)) (f1 : Int × Int → Option (Int × Int × (List Int))) (f2 : Int × Int × (List Int) × Int × Int → Option (Int)) (f3 : Int × Int → Option (Int)) (x : Int × Int × (List Int) × Int × Int × (List Int)) : Option (Int × Int × Int × (List Int)) :=
  (Option.bind (f0 (x.1, x.2.1, x.2.2.1, x.2.2.2.1, x.2.2.2.2.1, x.2.2.2.2.2)) fun r1 =>
  (cond (!(decide (r1 = (0 : Int))))
  (some ((0 : Int), (0 : Int), r1, ([] : List Int)))
  (cond (!(decide (x.2.1 = x.2.2.2.1)))
  (some ((0 : Int), (0 : Int), (23 : Int), ([] : List Int)))
  (Option.bind (f1 (x.1, x.2.2.2.2.1)) fun r4 =>
  (Option.bind (granaryref02_Product_l0 N ((0 : Int), x.1, x.2.1, x.2.2.1, x.2.2.2.1, x.2.2.2.2.1, x.2.2.2.2.2, r4.2.2, r4.1, r4.2.1)) fun r5 =>
  (some (r5.2.2.2.2.2.2.2.1, r5.2.2.2.2.2.2.2.2, (0 : Int), r5.2.2.2.2.2.2.1)))))))
theorem granaryref02_Product_f (N : Nat) (f0 : Int × Int × (List Int) × Int × Int × (List Int) → Option (Int)) (f1 : Int × Int → Option (Int × Int × (List Int))) (f2 : Int × Int × (List Int) × Int × Int → Option (Int)) (f3 : Int × Int → Option (Int)) (x) : granaryref02_Product_a N f0 f1 f2 f3 x = fnStep Γ (granaryref02_Product_CA N f0 f1 f2 f3) (granaryref02_Product_J N) 77 Try.f48.results.toList (granaryref02_Product_g N) granaryref02_Product_o granaryref02_Product_c x := by kernel_rfl
theorem granaryref02_Product_e (N : Nat) (x) : (granaryref02_Product_g N).F x = fnStep Γ (granaryref02_Product_C N) (granaryref02_Product_J N) 77 Try.f48.results.toList (granaryref02_Product_g N) granaryref02_Product_o granaryref02_Product_c x := by
  rw [← granaryref02_Product_CE N]
  exact Eq.trans (by kernel_rfl) (granaryref02_Product_f N (granaryref02_both) (granaryref02_New) (granaryref02_At) (granaryref02_Mul N) x)
theorem granaryref02_Product_y : Try.f48.body = some granaryref02_Product_c := by kernel_rfl
theorem granaryref02_Product_n : (Try.f48.name == "runtime.NumGoroutine") = false := by kernel_rfl
theorem granaryref02_Product_ok (N : Nat) : FnDoes Try.prog 48 (granaryref02_Product_g N) := fn_ok tabOK (granaryref02_Product_t N) mixedOK (J := granaryref02_Product_J N) (body := granaryref02_Product_c) Try.func48 granaryref02_Product_y granaryref02_Product_n Try.ntmps48 (jok_from granaryref02_Product_i ⟨⟨.inr ⟨_, rfl, granaryref02_Product_k0 N⟩, .inr ⟨_, rfl, granaryref02_Product_k2 N⟩, .inr ⟨_, rfl, granaryref02_Product_k4 N⟩, trivial⟩, trivial⟩) rfl rfl (le_of_ble rfl) (granaryref02_Product_e N)
noncomputable def granaryref02_At_v1_c : Code := codeOf Try.f70.body
noncomputable def granaryref02_At_v1_J (N : Nat) : Nat → Hint := fun cx => hintOf cx []
noncomputable def granaryref02_At_v1_C (N : Nat) : Nat → List GS := fun k => tabOf k []
def granaryref02_At_v1_o : List (Shp × List Nat) := [(⟨[(0, (.av (.one (.int .u8))))], []⟩, [])]
noncomputable def granaryref02_At_v1_g (N : Nat) : GS := { ins := ⟨[(0, (.av (.agg [(.one (.int .i64)), (.one (.int .i64)), (.one (.rsl (.int .u8)))]))), (1, (.av (.one (.int .i64)))), (2, (.av (.one (.int .i64))))], []⟩, lend := [.agg [none, none, some (.int .u8)], .keep, .keep], outs := granaryref02_At_v1_o.map fun s => ssOf s.1, its := [.int, .int, .lst (.int .u8), .int, .int], ots := [[.int]], F := granaryref02_At_v1 }
theorem granaryref02_At_v1_t (N : Nat) : TabC Try.prog (granaryref02_At_v1_C N) := tab_ok trivial
theorem granaryref02_At_v1_i : loopsOf granaryref02_At_v1_c = [] := by kernel_rfl
theorem granaryref02_At_v1_e (N : Nat) (x) : (granaryref02_At_v1_g N).F x = fnStep Γ (granaryref02_At_v1_C N) (granaryref02_At_v1_J N) 17 Try.f70.results.toList (granaryref02_At_v1_g N) granaryref02_At_v1_o granaryref02_At_v1_c x := by kernel_rfl
theorem granaryref02_At_v1_y : Try.f70.body = some granaryref02_At_v1_c := by kernel_rfl
theorem granaryref02_At_v1_n : (Try.f70.name == "runtime.NumGoroutine") = false := by kernel_rfl
theorem granaryref02_At_v1_ok (N : Nat) : FnDoes Try.prog 70 (granaryref02_At_v1_g N) := fn_ok tabOK (granaryref02_At_v1_t N) mixedOK (J := granaryref02_At_v1_J N) (body := granaryref02_At_v1_c) Try.func70 granaryref02_At_v1_y granaryref02_At_v1_n Try.ntmps70 (jok_from granaryref02_At_v1_i trivial) rfl rfl (le_of_ble rfl) (granaryref02_At_v1_e N)
noncomputable def granaryref02_cleared_c : Code := codeOf Try.f71.body
noncomputable def granaryref02_cleared_c0 : Code := codeOf (getLoop 0 granaryref02_cleared_c)
noncomputable def granaryref02_cleared_c2 : Code := codeOf (getLoop 2 granaryref02_cleared_c)
noncomputable def granaryref02_cleared_c4 : Code := codeOf (getLoop 4 granaryref02_cleared_c)
noncomputable def granaryref02_cleared_c6 : Code := codeOf (getLoop 6 granaryref02_cleared_c)
noncomputable def granaryref02_cleared_c8 : Code := codeOf (getLoop 8 granaryref02_cleared_c)
noncomputable def granaryref02_cleared_c10 : Code := codeOf (getLoop 10 granaryref02_cleared_c)
def granaryref02_cleared_d2 : LD := { ins := ⟨[(1, (.av (.one (.int .i64)))), (4, (.av (.one (.const (.ptr ⟨3, 0, 0, 0⟩))))), (6, (.av (.one (.const (.ptr ⟨8, 0, 0, 0⟩))))), (7, (.av (.one (.int .i64)))), (8, (.av (.one (.int .i64)))), (9, (.av (.one (.int .i64))))], [(.keep, false), (.keep, false), (.keep, false), (.keep, false), (.keep, false), (.keep, false), (.keep, false), (.sh (.arr (.int .u8) none), false), (.sh (.one (.int .i64)), true), (.sh (.one (.int .i64)), true), (.sh (.one (.const (.slw 7 1))), false)]⟩, mov := [], wr := [7, 8, 9, 10], outs := [(.exit 2, ⟨[(9, (.av (.one (.int .i64))))], [(.keep, false), (.keep, false), (.keep, false), (.keep, false), (.keep, false), (.keep, false), (.keep, false), (.sh (.arr (.int .u8) none), false), (.sh (.one (.int .i64)), true), (.sh (.one (.int .i64)), true), (.sh (.one (.const (.slw 7 1))), false)]⟩)], its := [.int, .int, .int, .int, .lst (.int .u8), .int, .int], ots := [[.int, .lst (.int .u8), .int, .int]] }
def granaryref02_cleared_d4 : LD := { ins := ⟨[(1, (.av (.one (.int .i64)))), (4, (.av (.one (.const (.ptr ⟨3, 0, 0, 0⟩))))), (6, (.av (.one (.const (.ptr ⟨8, 0, 0, 0⟩))))), (7, (.av (.one (.int .i64)))), (8, (.av (.one (.int .i64)))), (9, (.av (.one (.int .i64)))), (10, (.av (.one (.int .i64))))], [(.keep, false), (.keep, false), (.keep, false), (.keep, false), (.keep, false), (.keep, false), (.keep, false), (.sh (.arr (.int .u8) none), false), (.sh (.one (.int .i64)), true), (.sh (.one (.int .i64)), true), (.sh (.one (.const (.slw 7 1))), false)]⟩, mov := [], wr := [7, 8, 9, 10], outs := [(.exit 4, ⟨[], [(.keep, false), (.keep, false), (.keep, false), (.keep, false), (.keep, false), (.keep, false), (.keep, false), (.sh (.arr (.int .u8) none), false), (.sh (.one (.int .i64)), true), (.sh (.one (.int .i64)), true), (.sh (.one (.const (.slw 7 1))), false)]⟩)], its := [.int, .int, .int, .int, .int, .lst (.int .u8), .int, .int], ots := [[.lst (.int .u8), .int, .int]] }
def granaryref02_cleared_d6 : LD := { ins := ⟨[(1, (.av (.one (.int .i64)))), (4, (.av (.one (.const (.ptr ⟨3, 0, 0, 0⟩))))), (6, (.av (.one (.const (.ptr ⟨8, 0, 0, 0⟩))))), (7, (.av (.one (.int .i64)))), (8, (.av (.one (.int .i64)))), (11, (.av (.one (.int .u8)))), (13, (.av (.one (.int .i64))))], [(.keep, false), (.keep, false), (.keep, false), (.keep, false), (.keep, false), (.keep, false), (.keep, false), (.sh (.arr (.int .u8) none), false), (.sh (.one (.int .i64)), true), (.sh (.one (.int .i64)), true), (.sh (.one (.const (.slw 7 1))), false)]⟩, mov := [], wr := [7, 8, 9, 10], outs := [(.exit 6, ⟨[], [(.keep, false), (.keep, false), (.keep, false), (.keep, false), (.keep, false), (.keep, false), (.keep, false), (.sh (.arr (.int .u8) none), false), (.sh (.one (.int .i64)), true), (.sh (.one (.int .i64)), true), (.sh (.one (.const (.slw 7 1))), false)]⟩)], its := [.int, .int, .int, .int, .int, .lst (.int .u8), .int, .int], ots := [[.lst (.int .u8), .int, .int]] }
def granaryref02_cleared_d10 : LD := { ins := ⟨[(1, (.av (.one (.int .i64)))), (4, (.av (.one (.const (.ptr ⟨3, 0, 0, 0⟩))))), (6, (.av (.one (.const (.ptr ⟨8, 0, 0, 0⟩))))), (7, (.av (.one (.int .i64)))), (8, (.av (.one (.int .i64)))), (14, (.av (.one (.int .i64)))), (15, (.av (.one (.int .u8)))), (16, (.av (.one (.int .i64))))], [(.keep, false), (.keep, false), (.keep, false), (.keep, false), (.keep, false), (.keep, false), (.keep, false), (.sh (.arr (.int .u8) none), false), (.sh (.one (.int .i64)), true), (.sh (.one (.int .i64)), true), (.sh (.one (.const (.slw 7 1))), false)]⟩, mov := [], wr := [7, 8, 9, 10], outs := [(.exit 10, ⟨[], [(.keep, false), (.keep, false), (.keep, false), (.keep, false), (.keep, false), (.keep, false), (.keep, false), (.sh (.arr (.int .u8) none), false), (.sh (.one (.int .i64)), true), (.sh (.one (.int .i64)), true), (.sh (.one (.const (.slw 7 1))), false)]⟩)], its := [.int, .int, .int, .int, .int, .int, .lst (.int .u8), .int, .int], ots := [[.lst (.int .u8), .int, .int]] }
def granaryref02_cleared_d8 : LD := { ins := ⟨[(1, (.av (.one (.int .i64)))), (4, (.av (.one (.const (.ptr ⟨3, 0, 0, 0⟩))))), (6, (.av (.one (.const (.ptr ⟨8, 0, 0, 0⟩))))), (7, (.av (.one (.int .i64)))), (8, (.av (.one (.int .i64)))), (14, (.av (.one (.int .i64))))], [(.keep, false), (.keep, false), (.keep, false), (.keep, false), (.keep, false), (.keep, false), (.keep, false), (.sh (.arr (.int .u8) none), false), (.sh (.one (.int .i64)), true), (.sh (.one (.int .i64)), true), (.sh (.one (.const (.slw 7 1))), false)]⟩, mov := [], wr := [7, 8, 9, 10], outs := [(.exit 8, ⟨[], [(.keep, false), (.keep, false), (.keep, false), (.keep, false), (.keep, false), (.keep, false), (.keep, false), (.sh (.arr (.int .u8) none), false), (.sh (.one (.int .i64)), true), (.sh (.one (.int .i64)), true), (.sh (.one (.const (.slw 7 1))), false)]⟩)], its := [.int, .int, .int, .int, .lst (.int .u8), .int, .int], ots := [[.lst (.int .u8), .int, .int]] }
def granaryref02_cleared_d0 : LD := { ins := ⟨[(1, (.av (.one (.int .i64)))), (4, (.av (.one (.const (.ptr ⟨3, 0, 0, 0⟩))))), (6, (.av (.one (.const (.ptr ⟨8, 0, 0, 0⟩))))), (7, (.av (.one (.int .i64)))), (8, (.av (.one (.int .i64))))], [(.keep, false), (.keep, false), (.keep, false), (.keep, false), (.keep, false), (.keep, false), (.keep, false), (.sh (.arr (.int .u8) none), false), (.sh (.one (.int .i64)), true), (.sh (.one (.int .i64)), true), (.sh (.one (.const (.slw 7 1))), false)]⟩, mov := [], wr := [7, 8, 9, 10], outs := [(.exit 0, ⟨[(7, (.av (.one (.int .i64))))], [(.keep, false), (.keep, false), (.keep, false), (.keep, false), (.keep, false), (.keep, false), (.keep, false), (.sh (.arr (.int .u8) none), false), (.sh (.one (.int .i64)), true), (.sh (.one (.int .i64)), true), (.sh (.one (.const (.slw 7 1))), false)]⟩)], its := [.int, .int, .int, .lst (.int .u8), .int, .int], ots := [[.int, .lst (.int .u8), .int, .int]] }
noncomputable def granaryref02_cleared_J (N : Nat) : Nat → Hint := fun cx => hintOf cx [(0, { reg := fun k => assoc0 k [(4, ⟨⟨[(34, (.av (.one .bool)))], [(.dead, false), (.dead, false), (.dead, false), (.dead, false), (.dead, false), (.dead, false), (.dead, false), (.keep, false), (.keep, true), (.keep, true), (.keep, false)]⟩, [], [], [.bool]⟩), (7, ⟨⟨[(48, (.av (.one .bool)))], [(.dead, false), (.dead, false), (.dead, false), (.dead, false), (.dead, false), (.dead, false), (.dead, false), (.keep, false), (.keep, true), (.keep, true), (.keep, false)]⟩, [], [], [.bool]⟩), (24, ⟨⟨[(150, (.av (.one .bool)))], [(.dead, false), (.dead, false), (.dead, false), (.dead, false), (.dead, false), (.dead, false), (.dead, false), (.keep, false), (.keep, true), (.keep, true), (.keep, false)]⟩, [], [], [.bool]⟩)], cnd := fun k => assoc0 k [], loop := fun k => assoc0 k [(2, ⟨granaryref02_cleared_d2, loopF (granaryref02_cleared_b2 N) N⟩), (4, ⟨granaryref02_cleared_d4, loopF (granaryref02_cleared_b4 N) N⟩), (6, ⟨granaryref02_cleared_d6, loopF (granaryref02_cleared_b6 N) N⟩), (10, ⟨granaryref02_cleared_d10, loopF (granaryref02_cleared_b10 N) N⟩), (8, ⟨granaryref02_cleared_d8, loopF (granaryref02_cleared_b8 N) N⟩), (0, ⟨granaryref02_cleared_d0, loopF (granaryref02_cleared_b0 N) N⟩)], nil := fun k => assoc0 k [], unr := fun k => assocN k [], blk := fun k => assoc0 k [(1, ⟨[], [7, 8, 9, 10], [(.normal, ⟨[(7, (.av (.one (.int .i64))))], [(.dead, false), (.dead, false), (.dead, false), (.dead, false), (.dead, false), (.dead, false), (.dead, false), (.sh (.arr (.int .u8) none), false), (.sh (.one (.int .i64)), true), (.sh (.one (.int .i64)), true), (.sh (.one (.const (.slw 7 1))), false)]⟩)], [[.int, .lst (.int .u8), .int, .int]]⟩)] })]
noncomputable def granaryref02_cleared_C (N : Nat) : Nat → List GS := fun k => tabOf k [(70, [granaryref02_At_v1_g N]), (24, [granaryref02_Inv_g N]), (27, [granaryref02_Mul_g N])]
def granaryref02_cleared_o : List (Shp × List Nat) := [(⟨[(0, (.tup [(.agg [(.one (.int .i64)), (.one (.int .i64)), (.one (.const (.slw 0 1)))]), (.one (.int .i64))]))], [(.sh (.arr (.int .u8) none), false)]⟩, [])]
noncomputable def granaryref02_cleared_g (N : Nat) : GS := { ins := ⟨[(0, (.av (.agg [(.one (.int .i64)), (.one (.int .i64)), (.one (.rsl (.int .u8)))]))), (1, (.av (.one (.int .i64))))], []⟩, lend := [.agg [none, none, some (.int .u8)], .keep], outs := granaryref02_cleared_o.map fun s => ssOf s.1, its := [.int, .int, .lst (.int .u8), .int], ots := [[.int, .int, .int, .lst (.int .u8)]], F := granaryref02_cleared N }
noncomputable def granaryref02_cleared_CA (N : Nat) (f0 : Int × Int × (List Int) × Int × Int → Option (Int)) (f1 : Int → Option (Int × Int)) (f2 : Int × Int → Option (Int)) : Nat → List GS := fun k => tabOf k [(70, [{ granaryref02_At_v1_g N with F := f0 }]), (24, [{ granaryref02_Inv_g N with F := f1 }]), (27, [{ granaryref02_Mul_g N with F := f2 }])]
theorem granaryref02_cleared_CE (N : Nat) : granaryref02_cleared_CA N (granaryref02_At_v1) (granaryref02_Inv N) (granaryref02_Mul N) = granaryref02_cleared_C N := by kernel_rfl
theorem granaryref02_cleared_t (N : Nat) : TabC Try.prog (granaryref02_cleared_C N) := tab_ok ⟨⟨granaryref02_At_v1_ok N, trivial⟩, ⟨granaryref02_Inv_ok N, trivial⟩, ⟨granaryref02_Mul_ok N, trivial⟩, trivial⟩
theorem granaryref02_cleared_i10 : loopsOf granaryref02_cleared_c10 = [] := by kernel_rfl
noncomputable def granaryref02_cleared_a10 (N : Nat) (f0 : Int × Int × (List Int) × Int × Int → Option (Int)) (f1 : Int → Option (Int × Int)) (f2 : Int × Int → Option (Int)) (next : Int × Int × Int × Int × Int × Int × (List Int) × Int × Int → Option (((List Int) × Int × Int))) (x : Int × Int × Int × Int × Int × Int × (List Int) × Int × Int) : Option (((List Int) × Int × Int)) :=
  (Option.bind
  (cond (decide (x.2.2.2.2.2.1 < x.2.2.2.2.2.2.2.2))
  (cond (!(decide (x.2.2.2.1 = x.2.1)))
  (some (!(decide (x.2.2.2.2.1 = (0 : Int)))))
  (some false))
  (some false))
  fun r4 =>
  (cond r4
  (let v6 : Int := (wrapF .i64 ((wrapF .i64 (x.2.2.2.1 * x.2.2.2.2.2.2.2.2)) + x.2.2.2.2.2.1))
  (Option.bind (f0 (x.2.2.2.2.2.2.2.1, x.2.2.2.2.2.2.2.2, x.2.2.2.2.2.2.1, x.2.2.2.1, x.2.2.2.2.2.1)) fun r7 =>
  (Option.bind (f0 (x.2.2.2.2.2.2.2.1, x.2.2.2.2.2.2.2.2, x.2.2.2.2.2.2.1, x.2.1, x.2.2.2.2.2.1)) fun r8 =>
  (Option.bind (f2 (x.2.2.2.2.1, r8)) fun r9 =>
  (cond ((decide ((0 : Int) ≤ v6)) && (decide (v6 < (((List.length x.2.2.2.2.2.2.1) : Nat) : Int))))
  ((let v11 : Nat := (Int.toNat v6)
  (cond (decide (v11 < (List.length x.2.2.2.2.2.2.1)))
  ((next (x.1, x.2.1, x.2.2.1, x.2.2.2.1, x.2.2.2.2.1, (wrapF .i64 (x.2.2.2.2.2.1 + (1 : Int))), (List.set x.2.2.2.2.2.2.1 v11 (xorF .u8 r7 r9)), x.2.2.2.2.2.2.2.1, x.2.2.2.2.2.2.2.2)))
  none)))
  none)))))
  (some (x.2.2.2.2.2.2.1, x.2.2.2.2.2.2.2.1, x.2.2.2.2.2.2.2.2))))
theorem granaryref02_cleared_f10 (N : Nat) (f0 : Int × Int × (List Int) × Int × Int → Option (Int)) (f1 : Int → Option (Int × Int)) (f2 : Int × Int → Option (Int)) (next) (x) : granaryref02_cleared_a10 N f0 f1 f2 next x = loopStep Γ (granaryref02_cleared_CA N f0 f1 f2) (granaryref02_cleared_J N) 0 177 granaryref02_cleared_d10 granaryref02_cleared_c10 next x := by kernel_rfl
theorem granaryref02_cleared_e10 (N : Nat) (next) (x) : granaryref02_cleared_b10 N next x = loopStep Γ (granaryref02_cleared_C N) (granaryref02_cleared_J N) 0 177 granaryref02_cleared_d10 granaryref02_cleared_c10 next x := by
  rw [← granaryref02_cleared_CE N]
  exact Eq.trans (by kernel_rfl) (granaryref02_cleared_f10 N (granaryref02_At_v1) (granaryref02_Inv N) (granaryref02_Mul N) next x)
theorem granaryref02_cleared_k10 (N : Nat) : LoopOK Try.prog 177 granaryref02_cleared_c10 ⟨granaryref02_cleared_d10, loopF (granaryref02_cleared_b10 N) N⟩ := loop_ok tabOK (granaryref02_cleared_t N) mixedOK (J := granaryref02_cleared_J N) (cx := 0) (body := granaryref02_cleared_c10) (nt := 177) (l := granaryref02_cleared_d10) (b := granaryref02_cleared_b10 N) (jok_from granaryref02_cleared_i10 ⟨trivial, trivial⟩) (granaryref02_cleared_e10 N) N
theorem granaryref02_cleared_i2 : loopsOf granaryref02_cleared_c2 = [] := by kernel_rfl
noncomputable def granaryref02_cleared_a2 (N : Nat) (f0 : Int × Int × (List Int) × Int × Int → Option (Int)) (f1 : Int → Option (Int × Int)) (f2 : Int × Int → Option (Int)) (next : Int × Int × Int × Int × (List Int) × Int × Int → Option ((Int × (List Int) × Int × Int))) (x : Int × Int × Int × Int × (List Int) × Int × Int) : Option ((Int × (List Int) × Int × Int)) :=
  (Option.bind
  (cond (decide (x.2.2.2.1 < x.2.2.2.2.2.1))
  (Option.bind (f0 (x.2.2.2.2.2.1, x.2.2.2.2.2.2, x.2.2.2.2.1, x.2.2.2.1, x.2.2.1)) fun r2 =>
  (some (decide (r2 = (0 : Int)))))
  (some false))
  fun r4 =>
  (cond r4
  (next (x.1, x.2.1, x.2.2.1, (wrapF .i64 (x.2.2.2.1 + (1 : Int))), x.2.2.2.2.1, x.2.2.2.2.2.1, x.2.2.2.2.2.2))
  (some (x.2.2.2.1, x.2.2.2.2.1, x.2.2.2.2.2.1, x.2.2.2.2.2.2))))
theorem granaryref02_cleared_f2 (N : Nat) (f0 : Int × Int × (List Int) × Int × Int → Option (Int)) (f1 : Int → Option (Int × Int)) (f2 : Int × Int → Option (Int)) (next) (x) : granaryref02_cleared_a2 N f0 f1 f2 next x = loopStep Γ (granaryref02_cleared_CA N f0 f1 f2) (granaryref02_cleared_J N) 0 177 granaryref02_cleared_d2 granaryref02_cleared_c2 next x := by kernel_rfl
theorem granaryref02_cleared_e2 (N : Nat) (next) (x) : granaryref02_cleared_b2 N next x = loopStep Γ (granaryref02_cleared_C N) (granaryref02_cleared_J N) 0 177 granaryref02_cleared_d2 granaryref02_cleared_c2 next x := by
  rw [← granaryref02_cleared_CE N]
  exact Eq.trans (by kernel_rfl) (granaryref02_cleared_f2 N (granaryref02_At_v1) (granaryref02_Inv N) (granaryref02_Mul N) next x)
theorem granaryref02_cleared_k2 (N : Nat) : LoopOK Try.prog 177 granaryref02_cleared_c2 ⟨granaryref02_cleared_d2, loopF (granaryref02_cleared_b2 N) N⟩ := loop_ok tabOK (granaryref02_cleared_t N) mixedOK (J := granaryref02_cleared_J N) (cx := 0) (body := granaryref02_cleared_c2) (nt := 177) (l := granaryref02_cleared_d2) (b := granaryref02_cleared_b2 N) (jok_from granaryref02_cleared_i2 ⟨trivial, trivial⟩) (granaryref02_cleared_e2 N) N
theorem granaryref02_cleared_i4 : loopsOf granaryref02_cleared_c4 = [] := by kernel_rfl
noncomputable def granaryref02_cleared_a4 (N : Nat) (f0 : Int × Int × (List Int) × Int × Int → Option (Int)) (f1 : Int → Option (Int × Int)) (f2 : Int × Int → Option (Int)) (next : Int × Int × Int × Int × Int × (List Int) × Int × Int → Option (((List Int) × Int × Int))) (x : Int × Int × Int × Int × Int × (List Int) × Int × Int) : Option (((List Int) × Int × Int)) :=
  (cond (decide (x.2.2.2.2.1 < x.2.2.2.2.2.2.2))
  (let v3 : Int := (wrapF .i64 ((wrapF .i64 (x.2.1 * x.2.2.2.2.2.2.2)) + x.2.2.2.2.1))
  (let v5 : Int := (wrapF .i64 ((wrapF .i64 (x.2.2.2.1 * x.2.2.2.2.2.2.2)) + x.2.2.2.2.1))
  (let v7 : Int := (wrapF .i64 ((wrapF .i64 (x.2.2.2.1 * x.2.2.2.2.2.2.2)) + x.2.2.2.2.1))
  (cond ((decide ((0 : Int) ≤ v7)) && (decide (v7 < (((List.length x.2.2.2.2.2.1) : Nat) : Int))))
  ((let v8 : Nat := (Int.toNat v7)
  (cond (decide (v8 < (List.length x.2.2.2.2.2.1)))
  ((let v11 : Int := (wrapF .i64 ((wrapF .i64 (x.2.1 * x.2.2.2.2.2.2.2)) + x.2.2.2.2.1))
  (cond ((decide ((0 : Int) ≤ v11)) && (decide (v11 < (((List.length x.2.2.2.2.2.1) : Nat) : Int))))
  ((let v12 : Nat := (Int.toNat v11)
  (cond (decide (v12 < (List.length x.2.2.2.2.2.1)))
  ((cond ((decide ((0 : Int) ≤ v3)) && (decide (v3 < (((List.length x.2.2.2.2.2.1) : Nat) : Int))))
  ((let v14 : Nat := (Int.toNat v3)
  (cond (decide (v14 < (List.length x.2.2.2.2.2.1)))
  ((let v15 : List Int := (List.set x.2.2.2.2.2.1 v14 (List.getD x.2.2.2.2.2.1 v8 (EK.dflt (.int .u8))))
  (cond ((decide ((0 : Int) ≤ v5)) && (decide (v5 < (((List.length v15) : Nat) : Int))))
  ((let v16 : Nat := (Int.toNat v5)
  (cond (decide (v16 < (List.length v15)))
  ((next (x.1, x.2.1, x.2.2.1, x.2.2.2.1, (wrapF .i64 (x.2.2.2.2.1 + (1 : Int))), (List.set v15 v16 (List.getD x.2.2.2.2.2.1 v12 (EK.dflt (.int .u8)))), x.2.2.2.2.2.2.1, x.2.2.2.2.2.2.2)))
  none)))
  none)))
  none)))
  none))
  none)))
  none)))
  none)))
  none))))
  (some (x.2.2.2.2.2.1, x.2.2.2.2.2.2.1, x.2.2.2.2.2.2.2)))
theorem granaryref02_cleared_f4 (N : Nat) (f0 : Int × Int × (List Int) × Int × Int → Option (Int)) (f1 : Int → Option (Int × Int)) (f2 : Int × Int → Option (Int)) (next) (x) : granaryref02_cleared_a4 N f0 f1 f2 next x = loopStep Γ (granaryref02_cleared_CA N f0 f1 f2) (granaryref02_cleared_J N) 0 177 granaryref02_cleared_d4 granaryref02_cleared_c4 next x := by kernel_rfl
theorem granaryref02_cleared_e4 (N : Nat) (next) (x) : granaryref02_cleared_b4 N next x = loopStep Γ (granaryref02_cleared_C N) (granaryref02_cleared_J N) 0 177 granaryref02_cleared_d4 granaryref02_cleared_c4 next x := by
  rw [← granaryref02_cleared_CE N]
  exact Eq.trans (by kernel_rfl) (granaryref02_cleared_f4 N (granaryref02_At_v1) (granaryref02_Inv N) (granaryref02_Mul N) next x)
theorem granaryref02_cleared_k4 (N : Nat) : LoopOK Try.prog 177 granaryref02_cleared_c4 ⟨granaryref02_cleared_d4, loopF (granaryref02_cleared_b4 N) N⟩ := loop_ok tabOK (granaryref02_cleared_t N) mixedOK (J := granaryref02_cleared_J N) (cx := 0) (body := granaryref02_cleared_c4) (nt := 177) (l := granaryref02_cleared_d4) (b := granaryref02_cleared_b4 N) (jok_from granaryref02_cleared_i4 ⟨trivial, trivial⟩) (granaryref02_cleared_e4 N) N
theorem granaryref02_cleared_i6 : loopsOf granaryref02_cleared_c6 = [] := by kernel_rfl
noncomputable def granaryref02_cleared_a6 (N : Nat) (f0 : Int × Int × (List Int) × Int × Int → Option (Int)) (f1 : Int → Option (Int × Int)) (f2 : Int × Int → Option (Int)) (next : Int × Int × Int × Int × Int × (List Int) × Int × Int → Option (((List Int) × Int × Int))) (x : Int × Int × Int × Int × Int × (List Int) × Int × Int) : Option (((List Int) × Int × Int)) :=
  (cond (decide (x.2.2.2.2.1 < x.2.2.2.2.2.2.2))
  (let v3 : Int := (wrapF .i64 ((wrapF .i64 (x.2.1 * x.2.2.2.2.2.2.2)) + x.2.2.2.2.1))
  (Option.bind (f0 (x.2.2.2.2.2.2.1, x.2.2.2.2.2.2.2, x.2.2.2.2.2.1, x.2.1, x.2.2.2.2.1)) fun r4 =>
  (Option.bind (f2 (x.2.2.2.1, r4)) fun r5 =>
  (cond ((decide ((0 : Int) ≤ v3)) && (decide (v3 < (((List.length x.2.2.2.2.2.1) : Nat) : Int))))
  ((let v6 : Nat := (Int.toNat v3)
  (cond (decide (v6 < (List.length x.2.2.2.2.2.1)))
  ((next (x.1, x.2.1, x.2.2.1, x.2.2.2.1, (wrapF .i64 (x.2.2.2.2.1 + (1 : Int))), (List.set x.2.2.2.2.2.1 v6 r5), x.2.2.2.2.2.2.1, x.2.2.2.2.2.2.2)))
  none)))
  none))))
  (some (x.2.2.2.2.2.1, x.2.2.2.2.2.2.1, x.2.2.2.2.2.2.2)))
theorem granaryref02_cleared_f6 (N : Nat) (f0 : Int × Int × (List Int) × Int × Int → Option (Int)) (f1 : Int → Option (Int × Int)) (f2 : Int × Int → Option (Int)) (next) (x) : granaryref02_cleared_a6 N f0 f1 f2 next x = loopStep Γ (granaryref02_cleared_CA N f0 f1 f2) (granaryref02_cleared_J N) 0 177 granaryref02_cleared_d6 granaryref02_cleared_c6 next x := by kernel_rfl
theorem granaryref02_cleared_e6 (N : Nat) (next) (x) : granaryref02_cleared_b6 N next x = loopStep Γ (granaryref02_cleared_C N) (granaryref02_cleared_J N) 0 177 granaryref02_cleared_d6 granaryref02_cleared_c6 next x := by
  rw [← granaryref02_cleared_CE N]
  exact Eq.trans (by kernel_rfl) (granaryref02_cleared_f6 N (granaryref02_At_v1) (granaryref02_Inv N) (granaryref02_Mul N) next x)
theorem granaryref02_cleared_k6 (N : Nat) : LoopOK Try.prog 177 granaryref02_cleared_c6 ⟨granaryref02_cleared_d6, loopF (granaryref02_cleared_b6 N) N⟩ := loop_ok tabOK (granaryref02_cleared_t N) mixedOK (J := granaryref02_cleared_J N) (cx := 0) (body := granaryref02_cleared_c6) (nt := 177) (l := granaryref02_cleared_d6) (b := granaryref02_cleared_b6 N) (jok_from granaryref02_cleared_i6 ⟨trivial, trivial⟩) (granaryref02_cleared_e6 N) N
theorem granaryref02_cleared_i8 : loopsOf granaryref02_cleared_c8 = [(10, granaryref02_cleared_c10)] := by kernel_rfl
noncomputable def granaryref02_cleared_a8 (N : Nat) (f0 : Int × Int × (List Int) × Int × Int → Option (Int)) (f1 : Int → Option (Int × Int)) (f2 : Int × Int → Option (Int)) (next : Int × Int × Int × Int × (List Int) × Int × Int → Option (((List Int) × Int × Int))) (x : Int × Int × Int × Int × (List Int) × Int × Int) : Option (((List Int) × Int × Int)) :=
  (cond (decide (x.2.2.2.1 < x.2.2.2.2.2.1))
  (Option.bind (f0 (x.2.2.2.2.2.1, x.2.2.2.2.2.2, x.2.2.2.2.1, x.2.2.2.1, x.2.2.1)) fun r2 =>
  (Option.bind (granaryref02_cleared_l10 N (x.1, x.2.1, x.2.2.1, x.2.2.2.1, r2, (0 : Int), x.2.2.2.2.1, x.2.2.2.2.2.1, x.2.2.2.2.2.2)) fun r3 =>
  (next (x.1, x.2.1, x.2.2.1, (wrapF .i64 (x.2.2.2.1 + (1 : Int))), r3.1, r3.2.1, r3.2.2))))
  (some (x.2.2.2.2.1, x.2.2.2.2.2.1, x.2.2.2.2.2.2)))
theorem granaryref02_cleared_f8 (N : Nat) (f0 : Int × Int × (List Int) × Int × Int → Option (Int)) (f1 : Int → Option (Int × Int)) (f2 : Int × Int → Option (Int)) (next) (x) : granaryref02_cleared_a8 N f0 f1 f2 next x = loopStep Γ (granaryref02_cleared_CA N f0 f1 f2) (granaryref02_cleared_J N) 0 177 granaryref02_cleared_d8 granaryref02_cleared_c8 next x := by kernel_rfl
theorem granaryref02_cleared_e8 (N : Nat) (next) (x) : granaryref02_cleared_b8 N next x = loopStep Γ (granaryref02_cleared_C N) (granaryref02_cleared_J N) 0 177 granaryref02_cleared_d8 granaryref02_cleared_c8 next x := by
  rw [← granaryref02_cleared_CE N]
  exact Eq.trans (by kernel_rfl) (granaryref02_cleared_f8 N (granaryref02_At_v1) (granaryref02_Inv N) (granaryref02_Mul N) next x)
theorem granaryref02_cleared_k8 (N : Nat) : LoopOK Try.prog 177 granaryref02_cleared_c8 ⟨granaryref02_cleared_d8, loopF (granaryref02_cleared_b8 N) N⟩ := loop_ok tabOK (granaryref02_cleared_t N) mixedOK (J := granaryref02_cleared_J N) (cx := 0) (body := granaryref02_cleared_c8) (nt := 177) (l := granaryref02_cleared_d8) (b := granaryref02_cleared_b8 N) (jok_from granaryref02_cleared_i8 ⟨⟨.inr ⟨_, rfl, granaryref02_cleared_k10 N⟩, trivial⟩, trivial⟩) (granaryref02_cleared_e8 N) N
theorem granaryref02_cleared_i0 : loopsOf granaryref02_cleared_c0 = [(2, granaryref02_cleared_c2), (4, granaryref02_cleared_c4), (6, granaryref02_cleared_c6), (8, granaryref02_cleared_c8), (10, granaryref02_cleared_c10)] := by kernel_rfl
noncomputable def granaryref02_cleared_a0 (N : Nat) (f0 : Int × Int × (List Int) × Int × Int → Option (Int)) (f1 : Int → Option (Int × Int)) (f2 : Int × Int → Option (Int)) (next : Int × Int × Int × (List Int) × Int × Int → Option ((Int × (List Int) × Int × Int))) (x : Int × Int × Int × (List Int) × Int × Int) : Option ((Int × (List Int) × Int × Int)) :=
  (Option.bind
  (cond (decide (x.2.2.1 < x.1))
  (some (decide (x.2.1 < x.2.2.2.2.1)))
  (some false))
  fun r3 =>
  (cond r3
  (Option.bind
  (Option.bind (granaryref02_cleared_l2 N (x.1, x.2.1, x.2.2.1, x.2.1, x.2.2.2.1, x.2.2.2.2.1, x.2.2.2.2.2)) fun r4 =>
  (cond (decide (r4.1 = r4.2.2.1))
  (some (x.2.1, r4.2.1, r4.2.2.1, r4.2.2.2))
  (Option.bind (granaryref02_cleared_l4 N (x.1, x.2.1, x.2.2.1, r4.1, (0 : Int), r4.2.1, r4.2.2.1, r4.2.2.2)) fun r6 =>
  (Option.bind (f0 (r6.2.1, r6.2.2, r6.1, x.2.1, x.2.2.1)) fun r7 =>
  (Option.bind (f1 r7) fun r8 =>
  (Option.bind (granaryref02_cleared_l6 N (x.1, x.2.1, x.2.2.1, r8.1, (0 : Int), r6.1, r6.2.1, r6.2.2)) fun r9 =>
  (Option.bind (granaryref02_cleared_l8 N (x.1, x.2.1, x.2.2.1, (0 : Int), r9.1, r9.2.1, r9.2.2)) fun r10 =>
  (some ((wrapF .i64 (x.2.1 + (1 : Int))), r10.1, r10.2.1, r10.2.2)))))))))
  fun r12 =>
  (next (x.1, r12.1, (wrapF .i64 (x.2.2.1 + (1 : Int))), r12.2.1, r12.2.2.1, r12.2.2.2)))
  (some (x.2.1, x.2.2.2.1, x.2.2.2.2.1, x.2.2.2.2.2))))
theorem granaryref02_cleared_f0 (N : Nat) (f0 : Int × Int × (List Int) × Int × Int → Option (Int)) (f1 : Int → Option (Int × Int)) (f2 : Int × Int → Option (Int)) (next) (x) : granaryref02_cleared_a0 N f0 f1 f2 next x = loopStep Γ (granaryref02_cleared_CA N f0 f1 f2) (granaryref02_cleared_J N) 0 177 granaryref02_cleared_d0 granaryref02_cleared_c0 next x := by kernel_rfl
theorem granaryref02_cleared_e0 (N : Nat) (next) (x) : granaryref02_cleared_b0 N next x = loopStep Γ (granaryref02_cleared_C N) (granaryref02_cleared_J N) 0 177 granaryref02_cleared_d0 granaryref02_cleared_c0 next x := by
  rw [← granaryref02_cleared_CE N]
  exact Eq.trans (by kernel_rfl) (granaryref02_cleared_f0 N (granaryref02_At_v1) (granaryref02_Inv N) (granaryref02_Mul N) next x)
theorem granaryref02_cleared_k0 (N : Nat) : LoopOK Try.prog 177 granaryref02_cleared_c0 ⟨granaryref02_cleared_d0, loopF (granaryref02_cleared_b0 N) N⟩ := loop_ok tabOK (granaryref02_cleared_t N) mixedOK (J := granaryref02_cleared_J N) (cx := 0) (body := granaryref02_cleared_c0) (nt := 177) (l := granaryref02_cleared_d0) (b := granaryref02_cleared_b0 N) (jok_from granaryref02_cleared_i0 ⟨⟨.inr ⟨_, rfl, granaryref02_cleared_k2 N⟩, .inr ⟨_, rfl, granaryref02_cleared_k4 N⟩, .inr ⟨_, rfl, granaryref02_cleared_k6 N⟩, .inr ⟨_, rfl, granaryref02_cleared_k8 N⟩, .inr ⟨_, rfl, granaryref02_cleared_k10 N⟩, trivial⟩, trivial⟩) (granaryref02_cleared_e0 N) N
theorem granaryref02_cleared_i : loopsOf granaryref02_cleared_c = [(0, granaryref02_cleared_c0), (2, granaryref02_cleared_c2), (4, granaryref02_cleared_c4), (6, granaryref02_cleared_c6), (8, granaryref02_cleared_c8), (10, granaryref02_cleared_c10)] := by kernel_rfl
noncomputable def granaryref02_cleared_a (N : Nat) (f0 : Int × Int × (List Int) × Int × Int → Option (Int)) (f1 : Int → Option (Int × Int)) (f2 : Int × Int → Option (Int)) (x : Int × Int × (List Int) × Int) : Option (Int × Int × Int × (List Int)) :=
  (cond (fits 1 (List.length x.2.2.1))
  ((Option.bind (granaryref02_cleared_l0 N (x.2.2.2, (0 : Int), (0 : Int), x.2.2.1, x.1, x.2.1)) fun r2 =>
  (some (r2.2.2.1, r2.2.2.2, r2.1, r2.2.1))))
  none)
theorem granaryref02_cleared_f (N : Nat) (f0 : Int × Int × (List Int) × Int × Int → Option (Int)) (f1 : Int → Option (Int × Int)) (f2 : Int × Int → Option (Int)) (x) : granaryref02_cleared_a N f0 f1 f2 x = fnStep Γ (granaryref02_cleared_CA N f0 f1 f2) (granaryref02_cleared_J N) 177 Try.f71.results.toList (granaryref02_cleared_g N) granaryref02_cleared_o granaryref02_cleared_c x := by kernel_rfl
theorem granaryref02_cleared_e (N : Nat) (x) : (granaryref02_cleared_g N).F x = fnStep Γ (granaryref02_cleared_C N) (granaryref02_cleared_J N) 177 Try.f71.results.toList (granaryref02_cleared_g N) granaryref02_cleared_o granaryref02_cleared_c x := by
  rw [← granaryref02_cleared_CE N]
  exact Eq.trans (by kernel_rfl) (granaryref02_cleared_f N (granaryref02_At_v1) (granaryref02_Inv N) (granaryref02_Mul N) x)
theorem granaryref02_cleared_y : Try.f71.body = some granaryref02_cleared_c := by kernel_rfl
theorem granaryref02_cleared_n : (Try.f71.name == "runtime.NumGoroutine") = false := by kernel_rfl
theorem granaryref02_cleared_ok (N : Nat) : FnDoes Try.prog 71 (granaryref02_cleared_g N) := fn_ok tabOK (granaryref02_cleared_t N) mixedOK (J := granaryref02_cleared_J N) (body := granaryref02_cleared_c) Try.func71 granaryref02_cleared_y granaryref02_cleared_n Try.ntmps71 (jok_from granaryref02_cleared_i ⟨⟨.inr ⟨_, rfl, granaryref02_cleared_k0 N⟩, .inr ⟨_, rfl, granaryref02_cleared_k2 N⟩, .inr ⟨_, rfl, granaryref02_cleared_k4 N⟩, .inr ⟨_, rfl, granaryref02_cleared_k6 N⟩, .inr ⟨_, rfl, granaryref02_cleared_k8 N⟩, .inr ⟨_, rfl, granaryref02_cleared_k10 N⟩, trivial⟩, trivial⟩) rfl rfl (le_of_ble rfl) (granaryref02_cleared_e N)
noncomputable def granaryref02_Inverse_c : Code := codeOf Try.f49.body
noncomputable def granaryref02_Inverse_c0 : Code := codeOf (getLoop 0 granaryref02_Inverse_c)
noncomputable def granaryref02_Inverse_c2 : Code := codeOf (getLoop 2 granaryref02_Inverse_c)
noncomputable def granaryref02_Inverse_c4 : Code := codeOf (getLoop 4 granaryref02_Inverse_c)
noncomputable def granaryref02_Inverse_c6 : Code := codeOf (getLoop 6 granaryref02_Inverse_c)
def granaryref02_Inverse_d2 : LD := { ins := ⟨[(1, (.av (.one (.const (.ptr ⟨0, 0, 0, 0⟩))))), (2, (.av (.one (.const (.ptr ⟨3, 0, 0, 0⟩))))), (5, (.av (.one (.int .i64)))), (6, (.av (.one (.const (.ptr ⟨7, 0, 0, 0⟩))))), (7, (.av (.one (.int .i64)))), (8, (.av (.one (.int .i64))))], [(.sh (.one (.int .i64)), true), (.sh (.one (.int .i64)), true), (.sh (.one (.rsl (.int .u8))), false), (.keep, false), (.keep, false), (.keep, false), (.sh (.arr (.int .u8) none), false), (.sh (.one (.int .i64)), true), (.sh (.one (.int .i64)), true), (.sh (.one (.const (.slw 6 1))), false)]⟩, mov := [], wr := [0, 1, 2, 6, 7, 8, 9], outs := [(.exit 2, ⟨[], [(.sh (.one (.int .i64)), true), (.sh (.one (.int .i64)), true), (.sh (.one (.rsl (.int .u8))), false), (.keep, false), (.keep, false), (.keep, false), (.sh (.arr (.int .u8) none), false), (.sh (.one (.int .i64)), true), (.sh (.one (.int .i64)), true), (.sh (.one (.const (.slw 6 1))), false)]⟩)], its := [.int, .int, .int, .int, .int, .lst (.int .u8), .lst (.int .u8), .int, .int], ots := [[.int, .int, .lst (.int .u8), .lst (.int .u8), .int, .int]] }
def granaryref02_Inverse_d0 : LD := { ins := ⟨[(1, (.av (.one (.const (.ptr ⟨0, 0, 0, 0⟩))))), (2, (.av (.one (.const (.ptr ⟨3, 0, 0, 0⟩))))), (5, (.av (.one (.int .i64)))), (6, (.av (.one (.const (.ptr ⟨7, 0, 0, 0⟩))))), (7, (.av (.one (.int .i64))))], [(.sh (.one (.int .i64)), true), (.sh (.one (.int .i64)), true), (.sh (.one (.rsl (.int .u8))), false), (.keep, false), (.keep, false), (.keep, false), (.sh (.arr (.int .u8) none), false), (.sh (.one (.int .i64)), true), (.sh (.one (.int .i64)), true), (.sh (.one (.const (.slw 6 1))), false)]⟩, mov := [], wr := [0, 1, 2, 6, 7, 8, 9], outs := [(.exit 0, ⟨[], [(.sh (.one (.int .i64)), true), (.sh (.one (.int .i64)), true), (.sh (.one (.rsl (.int .u8))), false), (.keep, false), (.keep, false), (.keep, false), (.sh (.arr (.int .u8) none), false), (.sh (.one (.int .i64)), true), (.sh (.one (.int .i64)), true), (.sh (.one (.const (.slw 6 1))), false)]⟩)], its := [.int, .int, .int, .int, .lst (.int .u8), .lst (.int .u8), .int, .int], ots := [[.int, .int, .lst (.int .u8), .lst (.int .u8), .int, .int]] }
def granaryref02_Inverse_d6 : LD := { ins := ⟨[(2, (.av (.one (.const (.ptr ⟨3, 0, 0, 0⟩))))), (5, (.av (.one (.int .i64)))), (6, (.av (.one (.const (.ptr ⟨7, 0, 0, 0⟩))))), (10, (.av (.one (.const (.ptr ⟨12, 0, 0, 0⟩))))), (11, (.av (.one (.int .i64)))), (12, (.av (.one (.int .i64))))], [(.keep, false), (.keep, false), (.keep, false), (.keep, false), (.keep, false), (.keep, false), (.keep, false), (.sh (.one (.int .i64)), true), (.sh (.one (.int .i64)), true), (.sh (.one (.const (.slw 10 1))), false), (.sh (.arr (.int .u8) none), false), (.sh (.arr (.int .u8) none), false), (.sh (.one (.int .i64)), true), (.sh (.one (.int .i64)), true), (.sh (.one (.const (.slw 11 1))), false)]⟩, mov := [], wr := [7, 8, 9, 10, 11, 12, 13, 14], outs := [(.exit 6, ⟨[], [(.keep, false), (.keep, false), (.keep, false), (.keep, false), (.keep, false), (.keep, false), (.keep, false), (.sh (.one (.int .i64)), true), (.sh (.one (.int .i64)), true), (.sh (.one (.const (.slw 10 1))), false), (.sh (.arr (.int .u8) none), false), (.sh (.arr (.int .u8) none), false), (.sh (.one (.int .i64)), true), (.sh (.one (.int .i64)), true), (.sh (.one (.const (.slw 11 1))), false)]⟩)], its := [.int, .int, .int, .int, .int, .lst (.int .u8), .lst (.int .u8), .int, .int], ots := [[.int, .int, .lst (.int .u8), .lst (.int .u8), .int, .int]] }
def granaryref02_Inverse_d4 : LD := { ins := ⟨[(2, (.av (.one (.const (.ptr ⟨3, 0, 0, 0⟩))))), (5, (.av (.one (.int .i64)))), (6, (.av (.one (.const (.ptr ⟨7, 0, 0, 0⟩))))), (10, (.av (.one (.const (.ptr ⟨12, 0, 0, 0⟩))))), (11, (.av (.one (.int .i64))))], [(.keep, false), (.keep, false), (.keep, false), (.keep, false), (.keep, false), (.keep, false), (.keep, false), (.sh (.one (.int .i64)), true), (.sh (.one (.int .i64)), true), (.sh (.one (.const (.slw 10 1))), false), (.sh (.arr (.int .u8) none), false), (.sh (.arr (.int .u8) none), false), (.sh (.one (.int .i64)), true), (.sh (.one (.int .i64)), true), (.sh (.one (.const (.slw 11 1))), false)]⟩, mov := [], wr := [7, 8, 9, 10, 11, 12, 13, 14], outs := [(.exit 4, ⟨[], [(.keep, false), (.keep, false), (.keep, false), (.keep, false), (.keep, false), (.keep, false), (.keep, false), (.sh (.one (.int .i64)), true), (.sh (.one (.int .i64)), true), (.sh (.one (.const (.slw 10 1))), false), (.sh (.arr (.int .u8) none), false), (.sh (.arr (.int .u8) none), false), (.sh (.one (.int .i64)), true), (.sh (.one (.int .i64)), true), (.sh (.one (.const (.slw 11 1))), false)]⟩)], its := [.int, .int, .int, .int, .lst (.int .u8), .lst (.int .u8), .int, .int], ots := [[.int, .int, .lst (.int .u8), .lst (.int .u8), .int, .int]] }
noncomputable def granaryref02_Inverse_J (N : Nat) : Nat → Hint := fun cx => hintOf cx [(0, { reg := fun k => assoc0 k [], cnd := fun k => assoc0 k [], loop := fun k => assoc0 k [(2, ⟨granaryref02_Inverse_d2, loopF (granaryref02_Inverse_b2 N) N⟩), (0, ⟨granaryref02_Inverse_d0, loopF (granaryref02_Inverse_b0 N) N⟩), (6, ⟨granaryref02_Inverse_d6, loopF (granaryref02_Inverse_b6 N) N⟩), (4, ⟨granaryref02_Inverse_d4, loopF (granaryref02_Inverse_b4 N) N⟩)], nil := fun k => assoc0 k [], unr := fun k => assocN k [], blk := fun k => assoc0 k [] })]
noncomputable def granaryref02_Inverse_C (N : Nat) : Nat → List GS := fun k => tabOf k [(32, [granaryref02_Check_g N]), (70, [granaryref02_At_g N, granaryref02_At_v1_g N]), (71, [granaryref02_cleared_g N]), (60, [granaryref02_New_g N])]
def granaryref02_Inverse_o : List (Shp × List Nat) := [(⟨[(0, (.tup [(.agg [(.one (.int .i64)), (.one (.int .i64)), (.one (.const (.slw 0 1)))]), (.one (.int .i64))]))], [(.sh (.arr (.int .u8) none), false)]⟩, [])]
noncomputable def granaryref02_Inverse_g (N : Nat) : GS := { ins := ⟨[(0, (.av (.agg [(.one (.int .i64)), (.one (.int .i64)), (.one (.rsl (.int .u8)))])))], []⟩, lend := [.keep], outs := granaryref02_Inverse_o.map fun s => ssOf s.1, its := [.int, .int, .lst (.int .u8)], ots := [[.int, .int, .int, .lst (.int .u8)]], F := granaryref02_Inverse N }
noncomputable def granaryref02_Inverse_CA (N : Nat) (f0 : Int × Int × (List Int) → Option (Int)) (f1 : Int × Int × (List Int) × Int × Int → Option (Int)) (f2 : Int × Int × (List Int) × Int × Int → Option (Int)) (f3 : Int × Int × (List Int) × Int → Option (Int × Int × Int × (List Int))) (f4 : Int × Int → Option (Int × Int × (List Int))) : Nat → List GS := fun k => tabOf k [(32, [{ granaryref02_Check_g N with F := f0 }]), (70, [{ granaryref02_At_g N with F := f1 }, { granaryref02_At_v1_g N with F := f2 }]), (71, [{ granaryref02_cleared_g N with F := f3 }]), (60, [{ granaryref02_New_g N with F := f4 }])]
theorem granaryref02_Inverse_CE (N : Nat) : granaryref02_Inverse_CA N (granaryref02_Check) (granaryref02_At) (granaryref02_At_v1) (granaryref02_cleared N) (granaryref02_New) = granaryref02_Inverse_C N := by kernel_rfl
theorem granaryref02_Inverse_t (N : Nat) : TabC Try.prog (granaryref02_Inverse_C N) := tab_ok ⟨⟨granaryref02_Check_ok N, trivial⟩, ⟨granaryref02_At_ok N, granaryref02_At_v1_ok N, trivial⟩, ⟨granaryref02_cleared_ok N, trivial⟩, ⟨granaryref02_New_ok N, trivial⟩, trivial⟩
theorem granaryref02_Inverse_i2 : loopsOf granaryref02_Inverse_c2 = [] := by kernel_rfl
noncomputable def granaryref02_Inverse_a2 (N : Nat) (f0 : Int × Int × (List Int) → Option (Int)) (f1 : Int × Int × (List Int) × Int × Int → Option (Int)) (f2 : Int × Int × (List Int) × Int × Int → Option (Int)) (f3 : Int × Int × (List Int) × Int → Option (Int × Int × Int × (List Int))) (f4 : Int × Int → Option (Int × Int × (List Int))) (next : Int × Int × Int × Int × Int × (List Int) × (List Int) × Int × Int → Option ((Int × Int × (List Int) × (List Int) × Int × Int))) (x : Int × Int × Int × Int × Int × (List Int) × (List Int) × Int × Int) : Option ((Int × Int × (List Int) × (List Int) × Int × Int)) :=
  (cond (decide (x.2.2.1 < x.1))
  (let v4 : Int := (wrapF .i64 ((wrapF .i64 ((wrapF .i64 ((2 : Int) * x.1)) * x.2.1)) + x.2.2.1))
  (Option.bind (f1 (x.2.2.2.1, x.2.2.2.2.1, x.2.2.2.2.2.1, x.2.1, x.2.2.1)) fun r5 =>
  (cond ((decide ((0 : Int) ≤ v4)) && (decide (v4 < (((List.length x.2.2.2.2.2.2.1) : Nat) : Int))))
  ((let v6 : Nat := (Int.toNat v4)
  (cond (decide (v6 < (List.length x.2.2.2.2.2.2.1)))
  ((next (x.1, x.2.1, (wrapF .i64 (x.2.2.1 + (1 : Int))), x.2.2.2.1, x.2.2.2.2.1, x.2.2.2.2.2.1, (List.set x.2.2.2.2.2.2.1 v6 r5), x.2.2.2.2.2.2.2.1, x.2.2.2.2.2.2.2.2)))
  none)))
  none)))
  (some (x.2.2.2.1, x.2.2.2.2.1, x.2.2.2.2.2.1, x.2.2.2.2.2.2.1, x.2.2.2.2.2.2.2.1, x.2.2.2.2.2.2.2.2)))
theorem granaryref02_Inverse_f2 (N : Nat) (f0 : Int × Int × (List Int) → Option (Int)) (f1 : Int × Int × (List Int) × Int × Int → Option (Int)) (f2 : Int × Int × (List Int) × Int × Int → Option (Int)) (f3 : Int × Int × (List Int) × Int → Option (Int × Int × Int × (List Int))) (f4 : Int × Int → Option (Int × Int × (List Int))) (next) (x) : granaryref02_Inverse_a2 N f0 f1 f2 f3 f4 next x = loopStep Γ (granaryref02_Inverse_CA N f0 f1 f2 f3 f4) (granaryref02_Inverse_J N) 0 108 granaryref02_Inverse_d2 granaryref02_Inverse_c2 next x := by kernel_rfl
theorem granaryref02_Inverse_e2 (N : Nat) (next) (x) : granaryref02_Inverse_b2 N next x = loopStep Γ (granaryref02_Inverse_C N) (granaryref02_Inverse_J N) 0 108 granaryref02_Inverse_d2 granaryref02_Inverse_c2 next x := by
  rw [← granaryref02_Inverse_CE N]
  exact Eq.trans (by kernel_rfl) (granaryref02_Inverse_f2 N (granaryref02_Check) (granaryref02_At) (granaryref02_At_v1) (granaryref02_cleared N) (granaryref02_New) next x)
theorem granaryref02_Inverse_k2 (N : Nat) : LoopOK Try.prog 108 granaryref02_Inverse_c2 ⟨granaryref02_Inverse_d2, loopF (granaryref02_Inverse_b2 N) N⟩ := loop_ok tabOK (granaryref02_Inverse_t N) mixedOK (J := granaryref02_Inverse_J N) (cx := 0) (body := granaryref02_Inverse_c2) (nt := 108) (l := granaryref02_Inverse_d2) (b := granaryref02_Inverse_b2 N) (jok_from granaryref02_Inverse_i2 ⟨trivial, trivial⟩) (granaryref02_Inverse_e2 N) N
theorem granaryref02_Inverse_i6 : loopsOf granaryref02_Inverse_c6 = [] := by kernel_rfl
noncomputable def granaryref02_Inverse_a6 (N : Nat) (f0 : Int × Int × (List Int) → Option (Int)) (f1 : Int × Int × (List Int) × Int × Int → Option (Int)) (f2 : Int × Int × (List Int) × Int × Int → Option (Int)) (f3 : Int × Int × (List Int) × Int → Option (Int × Int × Int × (List Int))) (f4 : Int × Int → Option (Int × Int × (List Int))) (next : Int × Int × Int × Int × Int × (List Int) × (List Int) × Int × Int → Option ((Int × Int × (List Int) × (List Int) × Int × Int))) (x : Int × Int × Int × Int × Int × (List Int) × (List Int) × Int × Int) : Option ((Int × Int × (List Int) × (List Int) × Int × Int)) :=
  (cond (decide (x.2.2.1 < x.1))
  (let v3 : Int := (wrapF .i64 ((wrapF .i64 (x.1 * x.2.1)) + x.2.2.1))
  (Option.bind (f2 (x.2.2.2.1, x.2.2.2.2.1, x.2.2.2.2.2.1, x.2.1, (wrapF .i64 (x.1 + x.2.2.1)))) fun r5 =>
  (cond ((decide ((0 : Int) ≤ v3)) && (decide (v3 < (((List.length x.2.2.2.2.2.2.1) : Nat) : Int))))
  ((let v6 : Nat := (Int.toNat v3)
  (cond (decide (v6 < (List.length x.2.2.2.2.2.2.1)))
  ((next (x.1, x.2.1, (wrapF .i64 (x.2.2.1 + (1 : Int))), x.2.2.2.1, x.2.2.2.2.1, x.2.2.2.2.2.1, (List.set x.2.2.2.2.2.2.1 v6 r5), x.2.2.2.2.2.2.2.1, x.2.2.2.2.2.2.2.2)))
  none)))
  none)))
  (some (x.2.2.2.1, x.2.2.2.2.1, x.2.2.2.2.2.1, x.2.2.2.2.2.2.1, x.2.2.2.2.2.2.2.1, x.2.2.2.2.2.2.2.2)))
theorem granaryref02_Inverse_f6 (N : Nat) (f0 : Int × Int × (List Int) → Option (Int)) (f1 : Int × Int × (List Int) × Int × Int → Option (Int)) (f2 : Int × Int × (List Int) × Int × Int → Option (Int)) (f3 : Int × Int × (List Int) × Int → Option (Int × Int × Int × (List Int))) (f4 : Int × Int → Option (Int × Int × (List Int))) (next) (x) : granaryref02_Inverse_a6 N f0 f1 f2 f3 f4 next x = loopStep Γ (granaryref02_Inverse_CA N f0 f1 f2 f3 f4) (granaryref02_Inverse_J N) 0 108 granaryref02_Inverse_d6 granaryref02_Inverse_c6 next x := by kernel_rfl
theorem granaryref02_Inverse_e6 (N : Nat) (next) (x) : granaryref02_Inverse_b6 N next x = loopStep Γ (granaryref02_Inverse_C N) (granaryref02_Inverse_J N) 0 108 granaryref02_Inverse_d6 granaryref02_Inverse_c6 next x := by
  rw [← granaryref02_Inverse_CE N]
  exact Eq.trans (by kernel_rfl) (granaryref02_Inverse_f6 N (granaryref02_Check) (granaryref02_At) (granaryref02_At_v1) (granaryref02_cleared N) (granaryref02_New) next x)
theorem granaryref02_Inverse_k6 (N : Nat) : LoopOK Try.prog 108 granaryref02_Inverse_c6 ⟨granaryref02_Inverse_d6, loopF (granaryref02_Inverse_b6 N) N⟩ := loop_ok tabOK (granaryref02_Inverse_t N) mixedOK (J := granaryref02_Inverse_J N) (cx := 0) (body := granaryref02_Inverse_c6) (nt := 108) (l := granaryref02_Inverse_d6) (b := granaryref02_Inverse_b6 N) (jok_from granaryref02_Inverse_i6 ⟨trivial, trivial⟩) (granaryref02_Inverse_e6 N) N
theorem granaryref02_Inverse_i0 : loopsOf granaryref02_Inverse_c0 = [(2, granaryref02_Inverse_c2)] := by kernel_rfl
noncomputable def granaryref02_Inverse_a0 (N : Nat) (f0 : Int × Int × (List Int) → Option (Int)) (f1 : Int × Int × (List Int) × Int × Int → Option (Int)) (f2 : Int × Int × (List Int) × Int × Int → Option (Int)) (f3 : Int × Int × (List Int) × Int → Option (Int × Int × Int × (List Int))) (f4 : Int × Int → Option (Int × Int × (List Int))) (next : Int × Int × Int × Int × (List Int) × (List Int) × Int × Int → Option ((Int × Int × (List Int) × (List Int) × Int × Int))) (x : Int × Int × Int × Int × (List Int) × (List Int) × Int × Int) : Option ((Int × Int × (List Int) × (List Int) × Int × Int)) :=
  (cond (decide (x.2.1 < x.1))
  (Option.bind (granaryref02_Inverse_l2 N (x.1, x.2.1, (0 : Int), x.2.2.1, x.2.2.2.1, x.2.2.2.2.1, x.2.2.2.2.2.1, x.2.2.2.2.2.2.1, x.2.2.2.2.2.2.2)) fun r2 =>
  (let v6 : Int := (wrapF .i64 ((wrapF .i64 ((wrapF .i64 ((wrapF .i64 ((2 : Int) * x.1)) * x.2.1)) + x.1)) + x.2.1))
  (cond ((decide ((0 : Int) ≤ v6)) && (decide (v6 < (((List.length r2.2.2.2.1) : Nat) : Int))))
  ((let v7 : Nat := (Int.toNat v6)
  (cond (decide (v7 < (List.length r2.2.2.2.1)))
  ((next (x.1, (wrapF .i64 (x.2.1 + (1 : Int))), r2.1, r2.2.1, r2.2.2.1, (List.set r2.2.2.2.1 v7 (1 : Int)), r2.2.2.2.2.1, r2.2.2.2.2.2)))
  none)))
  none)))
  (some (x.2.2.1, x.2.2.2.1, x.2.2.2.2.1, x.2.2.2.2.2.1, x.2.2.2.2.2.2.1, x.2.2.2.2.2.2.2)))
theorem granaryref02_Inverse_f0 (N : Nat) (f0 : Int × Int × (List Int) → Option (Int)) (f1 : Int × Int × (List Int) × Int × Int → Option (Int)) (f2 : Int × Int × (List Int) × Int × Int → Option (Int)) (f3 : Int × Int × (List Int) × Int → Option (Int × Int × Int × (List Int))) (f4 : Int × Int → Option (Int × Int × (List Int))) (next) (x) : granaryref02_Inverse_a0 N f0 f1 f2 f3 f4 next x = loopStep Γ (granaryref02_Inverse_CA N f0 f1 f2 f3 f4) (granaryref02_Inverse_J N) 0 108 granaryref02_Inverse_d0 granaryref02_Inverse_c0 next x := by kernel_rfl
theorem granaryref02_Inverse_e0 (N : Nat) (next) (x) : granaryref02_Inverse_b0 N next x = loopStep Γ (granaryref02_Inverse_C N) (granaryref02_Inverse_J N) 0 108 granaryref02_Inverse_d0 granaryref02_Inverse_c0 next x := by
  rw [← granaryref02_Inverse_CE N]
  exact Eq.trans (by kernel_rfl) (granaryref02_Inverse_f0 N (granaryref02_Check) (granaryref02_At) (granaryref02_At_v1) (granaryref02_cleared N) (granaryref02_New) next x)
theorem granaryref02_Inverse_k0 (N : Nat) : LoopOK Try.prog 108 granaryref02_Inverse_c0 ⟨granaryref02_Inverse_d0, loopF (granaryref02_Inverse_b0 N) N⟩ := loop_ok tabOK (granaryref02_Inverse_t N) mixedOK (J := granaryref02_Inverse_J N) (cx := 0) (body := granaryref02_Inverse_c0) (nt := 108) (l := granaryref02_Inverse_d0) (b := granaryref02_Inverse_b0 N) (jok_from granaryref02_Inverse_i0 ⟨⟨.inr ⟨_, rfl, granaryref02_Inverse_k2 N⟩, trivial⟩, trivial⟩) (granaryref02_Inverse_e0 N) N
theorem granaryref02_Inverse_i4 : loopsOf granaryref02_Inverse_c4 = [(6, granaryref02_Inverse_c6)] := by kernel_rfl
noncomputable def granaryref02_Inverse_a4 (N : Nat) (f0 : Int × Int × (List Int) → Option (Int)) (f1 : Int × Int × (List Int) × Int × Int → Option (Int)) (f2 : Int × Int × (List Int) × Int × Int → Option (Int)) (f3 : Int × Int × (List Int) × Int → Option (Int × Int × Int × (List Int))) (f4 : Int × Int → Option (Int × Int × (List Int))) (next : Int × Int × Int × Int × (List Int) × (List Int) × Int × Int → Option ((Int × Int × (List Int) × (List Int) × Int × Int))) (x : Int × Int × Int × Int × (List Int) × (List Int) × Int × Int) : Option ((Int × Int × (List Int) × (List Int) × Int × Int)) :=
  (cond (decide (x.2.1 < x.1))
  (Option.bind (granaryref02_Inverse_l6 N (x.1, x.2.1, (0 : Int), x.2.2.1, x.2.2.2.1, x.2.2.2.2.1, x.2.2.2.2.2.1, x.2.2.2.2.2.2.1, x.2.2.2.2.2.2.2)) fun r2 =>
  (next (x.1, (wrapF .i64 (x.2.1 + (1 : Int))), r2.1, r2.2.1, r2.2.2.1, r2.2.2.2.1, r2.2.2.2.2.1, r2.2.2.2.2.2)))
  (some (x.2.2.1, x.2.2.2.1, x.2.2.2.2.1, x.2.2.2.2.2.1, x.2.2.2.2.2.2.1, x.2.2.2.2.2.2.2)))
theorem granaryref02_Inverse_f4 (N : Nat) (f0 : Int × Int × (List Int) → Option (Int)) (f1 : Int × Int × (List Int) × Int × Int → Option (Int)) (f2 : Int × Int × (List Int) × Int × Int → Option (Int)) (f3 : Int × Int × (List Int) × Int → Option (Int × Int × Int × (List Int))) (f4 : Int × Int → Option (Int × Int × (List Int))) (next) (x) : granaryref02_Inverse_a4 N f0 f1 f2 f3 f4 next x = loopStep Γ (granaryref02_Inverse_CA N f0 f1 f2 f3 f4) (granaryref02_Inverse_J N) 0 108 granaryref02_Inverse_d4 granaryref02_Inverse_c4 next x := by kernel_rfl
theorem granaryref02_Inverse_e4 (N : Nat) (next) (x) : granaryref02_Inverse_b4 N next x = loopStep Γ (granaryref02_Inverse_C N) (granaryref02_Inverse_J N) 0 108 granaryref02_Inverse_d4 granaryref02_Inverse_c4 next x := by
  rw [← granaryref02_Inverse_CE N]
  exact Eq.trans (by kernel_rfl) (granaryref02_Inverse_f4 N (granaryref02_Check) (granaryref02_At) (granaryref02_At_v1) (granaryref02_cleared N) (granaryref02_New) next x)
theorem granaryref02_Inverse_k4 (N : Nat) : LoopOK Try.prog 108 granaryref02_Inverse_c4 ⟨granaryref02_Inverse_d4, loopF (granaryref02_Inverse_b4 N) N⟩ := loop_ok tabOK (granaryref02_Inverse_t N) mixedOK (J := granaryref02_Inverse_J N) (cx := 0) (body := granaryref02_Inverse_c4) (nt := 108) (l := granaryref02_Inverse_d4) (b := granaryref02_Inverse_b4 N) (jok_from granaryref02_Inverse_i4 ⟨⟨.inr ⟨_, rfl, granaryref02_Inverse_k6 N⟩, trivial⟩, trivial⟩) (granaryref02_Inverse_e4 N) N
theorem granaryref02_Inverse_i : loopsOf granaryref02_Inverse_c = [(0, granaryref02_Inverse_c0), (2, granaryref02_Inverse_c2), (4, granaryref02_Inverse_c4), (6, granaryref02_Inverse_c6)] := by kernel_rfl
noncomputable def granaryref02_Inverse_a (N : Nat) (f0 : Int × Int × (List Int) → Option (Int)) (f1 : Int × Int × (List Int) × Int × Int → Option (Int)) (f2 : Int × Int × (List Int) × Int × Int → Option (Int)) (f3 : Int × Int × (List Int) × Int → Option (Int × Int × Int × (List Int))) (f4 : Int × Int → Option (Int × Int × (List Int))) (x : Int × Int × (List Int)) : Option (Int × Int × Int × (List Int)) :=
  (Option.bind (f0 (x.1, x.2.1, x.2.2)) fun r1 =>
  (cond (!(decide (r1 = (0 : Int))))
  (some ((0 : Int), (0 : Int), r1, ([] : List Int)))
  (cond (!(decide (x.1 = x.2.1)))
  (some ((0 : Int), (0 : Int), (23 : Int), ([] : List Int)))
  (let v6 : Int := (wrapF .i64 ((wrapF .i64 ((2 : Int) * x.1)) * x.1))
  (cond ((decide ((0 : Int) ≤ v6)) && (fits 1 (Int.toNat v6)))
  ((Option.bind (granaryref02_Inverse_l0 N (x.1, (0 : Int), x.1, x.2.1, x.2.2, (List.replicate (Int.toNat v6) (EK.dflt (.int .u8))), x.1, (wrapF .i64 ((2 : Int) * x.1)))) fun r8 =>
  (Option.bind (f3 (r8.2.2.2.2.1, r8.2.2.2.2.2, r8.2.2.2.1, x.1)) fun r9 =>
  (cond (decide (r9.2.2.1 < x.1))
  (some ((0 : Int), (0 : Int), (22 : Int), ([] : List Int)))
  (Option.bind (f4 (x.1, x.1)) fun r11 =>
  (Option.bind (granaryref02_Inverse_l4 N (x.1, (0 : Int), r9.1, r9.2.1, r9.2.2.2, r11.2.2, r11.1, r11.2.1)) fun r12 =>
  (some (r12.2.2.2.2.1, r12.2.2.2.2.2, (0 : Int), r12.2.2.2.1))))))))
  none)))))
theorem granaryref02_Inverse_f (N : Nat) (f0 : Int × Int × (List Int) → Option (Int)) (f1 : Int × Int × (List Int) × Int × Int → Option (Int)) (f2 : Int × Int × (List Int) × Int × Int → Option (Int)) (f3 : Int × Int × (List Int) × Int → Option (Int × Int × Int × (List Int))) (f4 : Int × Int → Option (Int × Int × (List Int))) (x) : granaryref02_Inverse_a N f0 f1 f2 f3 f4 x = fnStep Γ (granaryref02_Inverse_CA N f0 f1 f2 f3 f4) (granaryref02_Inverse_J N) 108 Try.f49.results.toList (granaryref02_Inverse_g N) granaryref02_Inverse_o granaryref02_Inverse_c x := by kernel_rfl
theorem granaryref02_Inverse_e (N : Nat) (x) : (granaryref02_Inverse_g N).F x = fnStep Γ (granaryref02_Inverse_C N) (granaryref02_Inverse_J N) 108 Try.f49.results.toList (granaryref02_Inverse_g N) granaryref02_Inverse_o granaryref02_Inverse_c x := by
  rw [← granaryref02_Inverse_CE N]
  exact Eq.trans (by kernel_rfl) (granaryref02_Inverse_f N (granaryref02_Check) (granaryref02_At) (granaryref02_At_v1) (granaryref02_cleared N) (granaryref02_New) x)
theorem granaryref02_Inverse_y : Try.f49.body = some granaryref02_Inverse_c := by kernel_rfl
theorem granaryref02_Inverse_n : (Try.f49.name == "runtime.NumGoroutine") = false := by kernel_rfl
theorem granaryref02_Inverse_ok (N : Nat) : FnDoes Try.prog 49 (granaryref02_Inverse_g N) := fn_ok tabOK (granaryref02_Inverse_t N) mixedOK (J := granaryref02_Inverse_J N) (body := granaryref02_Inverse_c) Try.func49 granaryref02_Inverse_y granaryref02_Inverse_n Try.ntmps49 (jok_from granaryref02_Inverse_i ⟨⟨.inr ⟨_, rfl, granaryref02_Inverse_k0 N⟩, .inr ⟨_, rfl, granaryref02_Inverse_k2 N⟩, .inr ⟨_, rfl, granaryref02_Inverse_k4 N⟩, .inr ⟨_, rfl, granaryref02_Inverse_k6 N⟩, trivial⟩, trivial⟩) rfl rfl (le_of_ble rfl) (granaryref02_Inverse_e N)
noncomputable def gf_Check_v1_c : Code := codeOf Try.f50.body
noncomputable def gf_Check_v1_J (N : Nat) : Nat → Hint := fun cx => hintOf cx [(0, { reg := fun k => assoc0 k [(1, ⟨⟨[(3, (.av (.one .bool)))], [(.keep, true), (.keep, true), (.keep, false)]⟩, [], [], [.bool]⟩)], cnd := fun k => assoc0 k [], loop := fun k => assoc0 k [], nil := fun k => assoc0 k [], unr := fun k => assocN k [], blk := fun k => assoc0 k [] })]
noncomputable def gf_Check_v1_C (N : Nat) : Nat → List GS := fun k => tabOf k [(57, [gf_side_g N])]
def gf_Check_v1_o : List (Shp × List Nat) := [(⟨[(0, (.av (.one (.int .i64))))], []⟩, [])]
noncomputable def gf_Check_v1_g (N : Nat) : GS := { ins := ⟨[(0, (.av (.agg [(.one (.int .i64)), (.one (.int .i64)), (.one (.rsl (.int .u8)))])))], []⟩, lend := [.agg [none, none, some (.int .u8)]], outs := gf_Check_v1_o.map fun s => ssOf s.1, its := [.int, .int, .lst (.int .u8)], ots := [[.int]], F := gf_Check_v1 }
noncomputable def gf_Check_v1_CA (N : Nat) (f0 : Int → Option (Bool)) : Nat → List GS := fun k => tabOf k [(57, [{ gf_side_g N with F := f0 }])]
theorem gf_Check_v1_CE (N : Nat) : gf_Check_v1_CA N (gf_side) = gf_Check_v1_C N := by kernel_rfl
theorem gf_Check_v1_t (N : Nat) : TabC Try.prog (gf_Check_v1_C N) := tab_ok ⟨⟨gf_side_ok N, trivial⟩, trivial⟩
theorem gf_Check_v1_i : loopsOf gf_Check_v1_c = [] := by kernel_rfl
noncomputable def gf_Check_v1_a (N : Nat) (f0 : Int → Option (Bool)) (x : Int × Int × (List Int)) : Option (Int) :=
  (Option.bind
  (Option.bind (f0 x.1) fun r1 =>
  (cond (!r1)
  (some true)
  (Option.bind (f0 x.2.1) fun r3 =>
  (some (!r3)))))
  fun r5 =>
  (cond r5
  (some (2 : Int))
  (cond (!(decide ((((List.length x.2.2) : Nat) : Int) = (wrapF .i64 (x.1 * x.2.1)))))
  (some (23 : Int))
  (some (0 : Int)))))
theorem gf_Check_v1_f (N : Nat) (f0 : Int → Option (Bool)) (x) : gf_Check_v1_a N f0 x = fnStep Γ (gf_Check_v1_CA N f0) (gf_Check_v1_J N) 24 Try.f50.results.toList (gf_Check_v1_g N) gf_Check_v1_o gf_Check_v1_c x := by kernel_rfl
theorem gf_Check_v1_e (N : Nat) (x) : (gf_Check_v1_g N).F x = fnStep Γ (gf_Check_v1_C N) (gf_Check_v1_J N) 24 Try.f50.results.toList (gf_Check_v1_g N) gf_Check_v1_o gf_Check_v1_c x := by
  rw [← gf_Check_v1_CE N]
  exact Eq.trans (by kernel_rfl) (gf_Check_v1_f N (gf_side) x)
theorem gf_Check_v1_y : Try.f50.body = some gf_Check_v1_c := by kernel_rfl
theorem gf_Check_v1_n : (Try.f50.name == "runtime.NumGoroutine") = false := by kernel_rfl
theorem gf_Check_v1_ok (N : Nat) : FnDoes Try.prog 50 (gf_Check_v1_g N) := fn_ok tabOK (gf_Check_v1_t N) mixedOK (J := gf_Check_v1_J N) (body := gf_Check_v1_c) Try.func50 gf_Check_v1_y gf_Check_v1_n Try.ntmps50 (jok_from gf_Check_v1_i ⟨trivial, trivial⟩) rfl rfl (le_of_ble rfl) (gf_Check_v1_e N)
end Go.Rf.W
