/-
  The printed functions are what the program does.
-/
import Derived.Test.YtmkpcnmjhmdndaaGfK1
set_option linter.unusedVariables false
set_option maxRecDepth 100000
namespace Go.Rf.W
open Go Go.Rf Go.Proofs
noncomputable def granaryref02_Rows_c : Code := codeOf Try.f51.body
noncomputable def granaryref02_Rows_c0 : Code := codeOf (getLoop 0 granaryref02_Rows_c)
noncomputable def granaryref02_Rows_c2 : Code := codeOf (getLoop 2 granaryref02_Rows_c)
def granaryref02_Rows_d2 : LD := { ins := ⟨[(1, (.av (.one (.rsl (.int .i64))))), (2, (.av (.one (.const (.ptr ⟨0, 0, 0, 0⟩))))), (4, (.av (.one (.const (.ptr ⟨3, 0, 0, 0⟩))))), (7, (.av (.one (.const (.ptr ⟨7, 0, 0, 0⟩))))), (8, (.av (.one (.int .i64)))), (9, (.av (.one (.int .i64))))], [(.sh (.one (.int .i64)), true), (.sh (.one (.int .i64)), true), (.sh (.one (.rsl (.int .u8))), false), (.keep, false), (.keep, false), (.keep, false), (.sh (.arr (.int .u8) none), false), (.sh (.one (.int .i64)), true), (.sh (.one (.int .i64)), true), (.sh (.one (.const (.slw 6 1))), false)]⟩, mov := [], wr := [0, 1, 2, 6, 7, 8, 9], outs := [(.exit 2, ⟨[], [(.sh (.one (.int .i64)), true), (.sh (.one (.int .i64)), true), (.sh (.one (.rsl (.int .u8))), false), (.keep, false), (.keep, false), (.keep, false), (.sh (.arr (.int .u8) none), false), (.sh (.one (.int .i64)), true), (.sh (.one (.int .i64)), true), (.sh (.one (.const (.slw 6 1))), false)]⟩)], its := [.lst (.int .i64), .int, .int, .int, .int, .lst (.int .u8), .lst (.int .u8), .int, .int], ots := [[.int, .int, .lst (.int .u8), .lst (.int .u8), .int, .int]] }
def granaryref02_Rows_d0 : LD := { ins := ⟨[(1, (.av (.one (.rsl (.int .i64))))), (2, (.av (.one (.const (.ptr ⟨0, 0, 0, 0⟩))))), (4, (.av (.one (.const (.ptr ⟨3, 0, 0, 0⟩))))), (7, (.av (.one (.const (.ptr ⟨7, 0, 0, 0⟩))))), (8, (.av (.one (.int .i64))))], [(.sh (.one (.int .i64)), true), (.sh (.one (.int .i64)), true), (.sh (.one (.rsl (.int .u8))), false), (.sh (.one (.const (.int .i64 (0 : Int)))), true), (.sh (.one (.const (.int .i64 (0 : Int)))), true), (.sh (.one (.const .nils)), false), (.sh (.arr (.int .u8) none), false), (.sh (.one (.int .i64)), true), (.sh (.one (.int .i64)), true), (.sh (.one (.const (.slw 6 1))), false)]⟩, mov := [], wr := [0, 1, 2, 3, 4, 5, 6, 7, 8, 9], outs := [(.ret, ⟨[(5, (.av (.one (.const (.int .i64 (2 : Int))))))], [(.sh (.one (.int .i64)), true), (.sh (.one (.int .i64)), true), (.sh (.one (.rsl (.int .u8))), false), (.sh (.one (.const (.int .i64 (0 : Int)))), true), (.sh (.one (.const (.int .i64 (0 : Int)))), true), (.sh (.one (.const .nils)), false), (.sh (.arr (.int .u8) none), false), (.sh (.one (.int .i64)), true), (.sh (.one (.int .i64)), true), (.sh (.one (.const (.slw 6 1))), false)]⟩), (.exit 0, ⟨[], [(.sh (.one (.int .i64)), true), (.sh (.one (.int .i64)), true), (.sh (.one (.rsl (.int .u8))), false), (.sh (.one (.const (.int .i64 (0 : Int)))), true), (.sh (.one (.const (.int .i64 (0 : Int)))), true), (.sh (.one (.const .nils)), false), (.sh (.arr (.int .u8) none), false), (.sh (.one (.int .i64)), true), (.sh (.one (.int .i64)), true), (.sh (.one (.const (.slw 6 1))), false)]⟩)], its := [.lst (.int .i64), .int, .int, .int, .lst (.int .u8), .lst (.int .u8), .int, .int], ots := [[.int, .int, .lst (.int .u8), .lst (.int .u8), .int, .int], [.int, .int, .lst (.int .u8), .lst (.int .u8), .int, .int]] }
noncomputable def granaryref02_Rows_J (N : Nat) : Nat → Hint := fun cx => hintOf cx [(0, { reg := fun k => assoc0 k [(4, ⟨⟨[(23, (.av (.one .bool)))], [(.keep, true), (.keep, true), (.keep, false), (.keep, true), (.keep, true), (.keep, false)]⟩, [], [], [.bool]⟩), (10, ⟨⟨[(49, (.av (.one .bool)))], [(.keep, true), (.keep, true), (.keep, false), (.keep, true), (.keep, true), (.keep, false), (.keep, false), (.keep, true), (.keep, true), (.keep, false)]⟩, [], [], [.bool]⟩)], cnd := fun k => assoc0 k [], loop := fun k => assoc0 k [(2, ⟨granaryref02_Rows_d2, loopF (granaryref02_Rows_b2 N) N⟩), (0, ⟨granaryref02_Rows_d0, loopF (granaryref02_Rows_b0 N) N⟩)], nil := fun k => assoc0 k [], unr := fun k => assocN k [], blk := fun k => assoc0 k [] })]
noncomputable def granaryref02_Rows_C (N : Nat) : Nat → List GS := fun k => tabOf k [(32, [granaryref02_Check_g N]), (60, [granaryref02_New_g N]), (70, [granaryref02_At_g N])]
def granaryref02_Rows_o : List (Shp × List Nat) := [(⟨[(0, (.tup [(.agg [(.one (.int .i64)), (.one (.int .i64)), (.one (.const (.slw 0 1)))]), (.one (.int .i64))]))], [(.sh (.arr (.int .u8) none), false)]⟩, [])]
noncomputable def granaryref02_Rows_g (N : Nat) : GS := { ins := ⟨[(0, (.av (.agg [(.one (.int .i64)), (.one (.int .i64)), (.one (.rsl (.int .u8)))]))), (1, (.av (.one (.rsl (.int .i64)))))], []⟩, lend := [.keep, .keep], outs := granaryref02_Rows_o.map fun s => ssOf s.1, its := [.int, .int, .lst (.int .u8), .lst (.int .i64)], ots := [[.int, .int, .int, .lst (.int .u8)]], F := granaryref02_Rows N }
noncomputable def granaryref02_Rows_CA (N : Nat) (f0 : Int × Int × (List Int) → Option (Int)) (f1 : Int × Int → Option (Int × Int × (List Int))) (f2 : Int × Int × (List Int) × Int × Int → Option (Int)) : Nat → List GS := fun k => tabOf k [(32, [{ granaryref02_Check_g N with F := f0 }]), (60, [{ granaryref02_New_g N with F := f1 }]), (70, [{ granaryref02_At_g N with F := f2 }])]
theorem granaryref02_Rows_CE (N : Nat) : granaryref02_Rows_CA N (granaryref02_Check) (granaryref02_New) (granaryref02_At) = granaryref02_Rows_C N := by kernel_rfl
theorem granaryref02_Rows_t (N : Nat) : TabC Try.prog (granaryref02_Rows_C N) := tab_ok ⟨⟨granaryref02_Check_ok N, trivial⟩, ⟨granaryref02_New_ok N, trivial⟩, ⟨granaryref02_At_ok N, trivial⟩, trivial⟩
theorem granaryref02_Rows_i2 : loopsOf granaryref02_Rows_c2 = [] := by kernel_rfl
noncomputable def granaryref02_Rows_a2 (N : Nat) (f0 : Int × Int × (List Int) → Option (Int)) (f1 : Int × Int → Option (Int × Int × (List Int))) (f2 : Int × Int × (List Int) × Int × Int → Option (Int)) (next : (List Int) × Int × Int × Int × Int × (List Int) × (List Int) × Int × Int → Option ((Int × Int × (List Int) × (List Int) × Int × Int))) (x : (List Int) × Int × Int × Int × Int × (List Int) × (List Int) × Int × Int) : Option ((Int × Int × (List Int) × (List Int) × Int × Int)) :=
  (cond (decide (x.2.2.1 < x.2.2.2.2.1))
  (let v3 : Int := (wrapF .i64 ((wrapF .i64 (x.2.1 * x.2.2.2.2.1)) + x.2.2.1))
  (cond ((decide ((0 : Int) ≤ x.2.1)) && (decide (x.2.1 < (((List.length x.1) : Nat) : Int))))
  ((Option.bind (f2 (x.2.2.2.1, x.2.2.2.2.1, x.2.2.2.2.2.1, (List.getD x.1 (Int.toNat x.2.1) (EK.dflt (.int .i64))), x.2.2.1)) fun r5 =>
  (cond ((decide ((0 : Int) ≤ v3)) && (decide (v3 < (((List.length x.2.2.2.2.2.2.1) : Nat) : Int))))
  ((let v6 : Nat := (Int.toNat v3)
  (cond (decide (v6 < (List.length x.2.2.2.2.2.2.1)))
  ((next (x.1, x.2.1, (wrapF .i64 (x.2.2.1 + (1 : Int))), x.2.2.2.1, x.2.2.2.2.1, x.2.2.2.2.2.1, (List.set x.2.2.2.2.2.2.1 v6 r5), x.2.2.2.2.2.2.2.1, x.2.2.2.2.2.2.2.2)))
  none)))
  none)))
  none))
  (some (x.2.2.2.1, x.2.2.2.2.1, x.2.2.2.2.2.1, x.2.2.2.2.2.2.1, x.2.2.2.2.2.2.2.1, x.2.2.2.2.2.2.2.2)))
theorem granaryref02_Rows_f2 (N : Nat) (f0 : Int × Int × (List Int) → Option (Int)) (f1 : Int × Int → Option (Int × Int × (List Int))) (f2 : Int × Int × (List Int) × Int × Int → Option (Int)) (next) (x) : granaryref02_Rows_a2 N f0 f1 f2 next x = loopStep Γ (granaryref02_Rows_CA N f0 f1 f2) (granaryref02_Rows_J N) 0 74 granaryref02_Rows_d2 granaryref02_Rows_c2 next x := by kernel_rfl
theorem granaryref02_Rows_e2 (N : Nat) (next) (x) : granaryref02_Rows_b2 N next x = loopStep Γ (granaryref02_Rows_C N) (granaryref02_Rows_J N) 0 74 granaryref02_Rows_d2 granaryref02_Rows_c2 next x := by
  rw [← granaryref02_Rows_CE N]
  exact Eq.trans (by kernel_rfl) (granaryref02_Rows_f2 N (granaryref02_Check) (granaryref02_New) (granaryref02_At) next x)
theorem granaryref02_Rows_k2 (N : Nat) : LoopOK Try.prog 74 granaryref02_Rows_c2 ⟨granaryref02_Rows_d2, loopF (granaryref02_Rows_b2 N) N⟩ := loop_ok tabOK (granaryref02_Rows_t N) mixedOK (J := granaryref02_Rows_J N) (cx := 0) (body := granaryref02_Rows_c2) (nt := 74) (l := granaryref02_Rows_d2) (b := granaryref02_Rows_b2 N) (jok_from granaryref02_Rows_i2 ⟨trivial, trivial⟩) (granaryref02_Rows_e2 N) N
theorem granaryref02_Rows_i0 : loopsOf granaryref02_Rows_c0 = [(2, granaryref02_Rows_c2)] := by kernel_rfl
noncomputable def granaryref02_Rows_a0 (N : Nat) (f0 : Int × Int × (List Int) → Option (Int)) (f1 : Int × Int → Option (Int × Int × (List Int))) (f2 : Int × Int × (List Int) × Int × Int → Option (Int)) (next : (List Int) × Int × Int × Int × (List Int) × (List Int) × Int × Int → Option ((Int × Int × (List Int) × (List Int) × Int × Int) ⊕ (Int × Int × (List Int) × (List Int) × Int × Int))) (x : (List Int) × Int × Int × Int × (List Int) × (List Int) × Int × Int) : Option ((Int × Int × (List Int) × (List Int) × Int × Int) ⊕ (Int × Int × (List Int) × (List Int) × Int × Int)) :=
  (cond (decide (x.2.1 < (((List.length x.1) : Nat) : Int)))
  (Option.bind
  (cond ((decide ((0 : Int) ≤ x.2.1)) && (decide (x.2.1 < (((List.length x.1) : Nat) : Int))))
  ((cond (decide ((List.getD x.1 (Int.toNat x.2.1) (EK.dflt (.int .i64))) < (0 : Int)))
  (some true)
  (cond ((decide ((0 : Int) ≤ x.2.1)) && (decide (x.2.1 < (((List.length x.1) : Nat) : Int))))
  ((some (decide (x.2.2.1 ≤ (List.getD x.1 (Int.toNat x.2.1) (EK.dflt (.int .i64)))))))
  none)))
  none)
  fun r7 =>
  (cond r7
  (some (.inl (x.2.2.1, x.2.2.2.1, x.2.2.2.2.1, x.2.2.2.2.2.1, x.2.2.2.2.2.2.1, x.2.2.2.2.2.2.2)))
  (Option.bind (granaryref02_Rows_l2 N (x.1, x.2.1, (0 : Int), x.2.2.1, x.2.2.2.1, x.2.2.2.2.1, x.2.2.2.2.2.1, x.2.2.2.2.2.2.1, x.2.2.2.2.2.2.2)) fun r8 =>
  (next (x.1, (wrapF .i64 (x.2.1 + (1 : Int))), r8.1, r8.2.1, r8.2.2.1, r8.2.2.2.1, r8.2.2.2.2.1, r8.2.2.2.2.2)))))
  (some (.inr ((x.2.2.1, x.2.2.2.1, x.2.2.2.2.1, x.2.2.2.2.2.1, x.2.2.2.2.2.2.1, x.2.2.2.2.2.2.2)))))
theorem granaryref02_Rows_f0 (N : Nat) (f0 : Int × Int × (List Int) → Option (Int)) (f1 : Int × Int → Option (Int × Int × (List Int))) (f2 : Int × Int × (List Int) × Int × Int → Option (Int)) (next) (x) : granaryref02_Rows_a0 N f0 f1 f2 next x = loopStep Γ (granaryref02_Rows_CA N f0 f1 f2) (granaryref02_Rows_J N) 0 74 granaryref02_Rows_d0 granaryref02_Rows_c0 next x := by kernel_rfl
theorem granaryref02_Rows_e0 (N : Nat) (next) (x) : granaryref02_Rows_b0 N next x = loopStep Γ (granaryref02_Rows_C N) (granaryref02_Rows_J N) 0 74 granaryref02_Rows_d0 granaryref02_Rows_c0 next x := by
  rw [← granaryref02_Rows_CE N]
  exact Eq.trans (by kernel_rfl) (granaryref02_Rows_f0 N (granaryref02_Check) (granaryref02_New) (granaryref02_At) next x)
theorem granaryref02_Rows_k0 (N : Nat) : LoopOK Try.prog 74 granaryref02_Rows_c0 ⟨granaryref02_Rows_d0, loopF (granaryref02_Rows_b0 N) N⟩ := loop_ok tabOK (granaryref02_Rows_t N) mixedOK (J := granaryref02_Rows_J N) (cx := 0) (body := granaryref02_Rows_c0) (nt := 74) (l := granaryref02_Rows_d0) (b := granaryref02_Rows_b0 N) (jok_from granaryref02_Rows_i0 ⟨⟨.inr ⟨_, rfl, granaryref02_Rows_k2 N⟩, trivial⟩, trivial⟩) (granaryref02_Rows_e0 N) N
theorem granaryref02_Rows_i : loopsOf granaryref02_Rows_c = [(0, granaryref02_Rows_c0), (2, granaryref02_Rows_c2)] := by kernel_rfl
noncomputable def granaryref02_Rows_a (N : Nat) (f0 : Int × Int × (List Int) → Option (Int)) (f1 : Int × Int → Option (Int × Int × (List Int))) (f2 : Int × Int × (List Int) × Int × Int → Option (Int)) (x : Int × Int × (List Int) × (List Int)) : Option (Int × Int × Int × (List Int)) :=
  (Option.bind (f0 (x.1, x.2.1, x.2.2.1)) fun r1 =>
  (cond (!(decide (r1 = (0 : Int))))
  (some ((0 : Int), (0 : Int), r1, ([] : List Int)))
  (Option.bind
  (cond (decide ((((List.length x.2.2.2) : Nat) : Int) < (1 : Int)))
  (some true)
  (some (decide ((64 : Int) < (((List.length x.2.2.2) : Nat) : Int)))))
  fun r7 =>
  (cond r7
  (some ((0 : Int), (0 : Int), (2 : Int), ([] : List Int)))
  (Option.bind (f1 ((((List.length x.2.2.2) : Nat) : Int), x.2.1)) fun r9 =>
  (Option.bind (granaryref02_Rows_l0 N (x.2.2.2, (0 : Int), x.1, x.2.1, x.2.2.1, r9.2.2, r9.1, r9.2.1)) fun r10 =>
  (match r10 with
  | .inl y11 =>
  (some ((0 : Int), (0 : Int), (2 : Int), ([] : List Int)))
  | .inr z12 =>
  (some (z12.2.2.2.2.1, z12.2.2.2.2.2, (0 : Int), z12.2.2.2.1)))))))))
theorem granaryref02_Rows_f (N : Nat) (f0 : Int × Int × (List Int) → Option (Int)) (f1 : Int × Int → Option (Int × Int × (List Int))) (f2 : Int × Int × (List Int) × Int × Int → Option (Int)) (x) : granaryref02_Rows_a N f0 f1 f2 x = fnStep Γ (granaryref02_Rows_CA N f0 f1 f2) (granaryref02_Rows_J N) 74 Try.f51.results.toList (granaryref02_Rows_g N) granaryref02_Rows_o granaryref02_Rows_c x := by kernel_rfl
theorem granaryref02_Rows_e (N : Nat) (x) : (granaryref02_Rows_g N).F x = fnStep Γ (granaryref02_Rows_C N) (granaryref02_Rows_J N) 74 Try.f51.results.toList (granaryref02_Rows_g N) granaryref02_Rows_o granaryref02_Rows_c x := by
  rw [← granaryref02_Rows_CE N]
  exact Eq.trans (by kernel_rfl) (granaryref02_Rows_f N (granaryref02_Check) (granaryref02_New) (granaryref02_At) x)
theorem granaryref02_Rows_y : Try.f51.body = some granaryref02_Rows_c := by kernel_rfl
theorem granaryref02_Rows_n : (Try.f51.name == "runtime.NumGoroutine") = false := by kernel_rfl
theorem granaryref02_Rows_ok (N : Nat) : FnDoes Try.prog 51 (granaryref02_Rows_g N) := fn_ok tabOK (granaryref02_Rows_t N) mixedOK (J := granaryref02_Rows_J N) (body := granaryref02_Rows_c) Try.func51 granaryref02_Rows_y granaryref02_Rows_n Try.ntmps51 (jok_from granaryref02_Rows_i ⟨⟨.inr ⟨_, rfl, granaryref02_Rows_k0 N⟩, .inr ⟨_, rfl, granaryref02_Rows_k2 N⟩, trivial⟩, trivial⟩) rfl rfl (le_of_ble rfl) (granaryref02_Rows_e N)
noncomputable def granaryref02_Turn_c : Code := codeOf Try.f52.body
noncomputable def granaryref02_Turn_c0 : Code := codeOf (getLoop 0 granaryref02_Turn_c)
noncomputable def granaryref02_Turn_c2 : Code := codeOf (getLoop 2 granaryref02_Turn_c)
def granaryref02_Turn_d2 : LD := { ins := ⟨[(1, (.av (.one (.const (.ptr ⟨0, 0, 0, 0⟩))))), (2, (.av (.one (.const (.ptr ⟨3, 0, 0, 0⟩))))), (5, (.av (.one (.const (.ptr ⟨7, 0, 0, 0⟩))))), (6, (.av (.one (.int .i64)))), (7, (.av (.one (.int .i64))))], [(.sh (.one (.int .i64)), true), (.sh (.one (.int .i64)), true), (.sh (.one (.rsl (.int .u8))), false), (.keep, false), (.keep, false), (.keep, false), (.sh (.arr (.int .u8) none), false), (.sh (.one (.int .i64)), true), (.sh (.one (.int .i64)), true), (.sh (.one (.const (.slw 6 1))), false)]⟩, mov := [], wr := [0, 1, 2, 6, 7, 8, 9], outs := [(.exit 2, ⟨[], [(.sh (.one (.int .i64)), true), (.sh (.one (.int .i64)), true), (.sh (.one (.rsl (.int .u8))), false), (.keep, false), (.keep, false), (.keep, false), (.sh (.arr (.int .u8) none), false), (.sh (.one (.int .i64)), true), (.sh (.one (.int .i64)), true), (.sh (.one (.const (.slw 6 1))), false)]⟩)], its := [.int, .int, .int, .int, .lst (.int .u8), .lst (.int .u8), .int, .int], ots := [[.int, .int, .lst (.int .u8), .lst (.int .u8), .int, .int]] }
def granaryref02_Turn_d0 : LD := { ins := ⟨[(1, (.av (.one (.const (.ptr ⟨0, 0, 0, 0⟩))))), (2, (.av (.one (.const (.ptr ⟨3, 0, 0, 0⟩))))), (5, (.av (.one (.const (.ptr ⟨7, 0, 0, 0⟩))))), (6, (.av (.one (.int .i64))))], [(.sh (.one (.int .i64)), true), (.sh (.one (.int .i64)), true), (.sh (.one (.rsl (.int .u8))), false), (.keep, false), (.keep, false), (.keep, false), (.sh (.arr (.int .u8) none), false), (.sh (.one (.int .i64)), true), (.sh (.one (.int .i64)), true), (.sh (.one (.const (.slw 6 1))), false)]⟩, mov := [], wr := [0, 1, 2, 6, 7, 8, 9], outs := [(.exit 0, ⟨[], [(.sh (.one (.int .i64)), true), (.sh (.one (.int .i64)), true), (.sh (.one (.rsl (.int .u8))), false), (.keep, false), (.keep, false), (.keep, false), (.sh (.arr (.int .u8) none), false), (.sh (.one (.int .i64)), true), (.sh (.one (.int .i64)), true), (.sh (.one (.const (.slw 6 1))), false)]⟩)], its := [.int, .int, .int, .lst (.int .u8), .lst (.int .u8), .int, .int], ots := [[.int, .int, .lst (.int .u8), .lst (.int .u8), .int, .int]] }
noncomputable def granaryref02_Turn_J (N : Nat) : Nat → Hint := fun cx => hintOf cx [(0, { reg := fun k => assoc0 k [], cnd := fun k => assoc0 k [], loop := fun k => assoc0 k [(2, ⟨granaryref02_Turn_d2, loopF (granaryref02_Turn_b2 N) N⟩), (0, ⟨granaryref02_Turn_d0, loopF (granaryref02_Turn_b0 N) N⟩)], nil := fun k => assoc0 k [], unr := fun k => assocN k [], blk := fun k => assoc0 k [] })]
noncomputable def granaryref02_Turn_C (N : Nat) : Nat → List GS := fun k => tabOf k [(32, [granaryref02_Check_g N]), (60, [granaryref02_New_g N]), (70, [granaryref02_At_g N])]
def granaryref02_Turn_o : List (Shp × List Nat) := [(⟨[(0, (.tup [(.agg [(.one (.int .i64)), (.one (.int .i64)), (.one (.const (.slw 0 1)))]), (.one (.int .i64))]))], [(.sh (.arr (.int .u8) none), false)]⟩, [])]
noncomputable def granaryref02_Turn_g (N : Nat) : GS := { ins := ⟨[(0, (.av (.agg [(.one (.int .i64)), (.one (.int .i64)), (.one (.rsl (.int .u8)))])))], []⟩, lend := [.keep], outs := granaryref02_Turn_o.map fun s => ssOf s.1, its := [.int, .int, .lst (.int .u8)], ots := [[.int, .int, .int, .lst (.int .u8)]], F := granaryref02_Turn N }
noncomputable def granaryref02_Turn_CA (N : Nat) (f0 : Int × Int × (List Int) → Option (Int)) (f1 : Int × Int → Option (Int × Int × (List Int))) (f2 : Int × Int × (List Int) × Int × Int → Option (Int)) : Nat → List GS := fun k => tabOf k [(32, [{ granaryref02_Check_g N with F := f0 }]), (60, [{ granaryref02_New_g N with F := f1 }]), (70, [{ granaryref02_At_g N with F := f2 }])]
theorem granaryref02_Turn_CE (N : Nat) : granaryref02_Turn_CA N (granaryref02_Check) (granaryref02_New) (granaryref02_At) = granaryref02_Turn_C N := by kernel_rfl
theorem granaryref02_Turn_t (N : Nat) : TabC Try.prog (granaryref02_Turn_C N) := tab_ok ⟨⟨granaryref02_Check_ok N, trivial⟩, ⟨granaryref02_New_ok N, trivial⟩, ⟨granaryref02_At_ok N, trivial⟩, trivial⟩
theorem granaryref02_Turn_i2 : loopsOf granaryref02_Turn_c2 = [] := by kernel_rfl
noncomputable def granaryref02_Turn_a2 (N : Nat) (f0 : Int × Int × (List Int) → Option (Int)) (f1 : Int × Int → Option (Int × Int × (List Int))) (f2 : Int × Int × (List Int) × Int × Int → Option (Int)) (next : Int × Int × Int × Int × (List Int) × (List Int) × Int × Int → Option ((Int × Int × (List Int) × (List Int) × Int × Int))) (x : Int × Int × Int × Int × (List Int) × (List Int) × Int × Int) : Option ((Int × Int × (List Int) × (List Int) × Int × Int)) :=
  (cond (decide (x.2.1 < x.2.2.2.1))
  (let v3 : Int := (wrapF .i64 ((wrapF .i64 (x.2.1 * x.2.2.1)) + x.1))
  (Option.bind (f2 (x.2.2.1, x.2.2.2.1, x.2.2.2.2.1, x.1, x.2.1)) fun r4 =>
  (cond ((decide ((0 : Int) ≤ v3)) && (decide (v3 < (((List.length x.2.2.2.2.2.1) : Nat) : Int))))
  ((let v5 : Nat := (Int.toNat v3)
  (cond (decide (v5 < (List.length x.2.2.2.2.2.1)))
  ((next (x.1, (wrapF .i64 (x.2.1 + (1 : Int))), x.2.2.1, x.2.2.2.1, x.2.2.2.2.1, (List.set x.2.2.2.2.2.1 v5 r4), x.2.2.2.2.2.2.1, x.2.2.2.2.2.2.2)))
  none)))
  none)))
  (some (x.2.2.1, x.2.2.2.1, x.2.2.2.2.1, x.2.2.2.2.2.1, x.2.2.2.2.2.2.1, x.2.2.2.2.2.2.2)))
theorem granaryref02_Turn_f2 (N : Nat) (f0 : Int × Int × (List Int) → Option (Int)) (f1 : Int × Int → Option (Int × Int × (List Int))) (f2 : Int × Int × (List Int) × Int × Int → Option (Int)) (next) (x) : granaryref02_Turn_a2 N f0 f1 f2 next x = loopStep Γ (granaryref02_Turn_CA N f0 f1 f2) (granaryref02_Turn_J N) 0 45 granaryref02_Turn_d2 granaryref02_Turn_c2 next x := by kernel_rfl
theorem granaryref02_Turn_e2 (N : Nat) (next) (x) : granaryref02_Turn_b2 N next x = loopStep Γ (granaryref02_Turn_C N) (granaryref02_Turn_J N) 0 45 granaryref02_Turn_d2 granaryref02_Turn_c2 next x := by
  rw [← granaryref02_Turn_CE N]
  exact Eq.trans (by kernel_rfl) (granaryref02_Turn_f2 N (granaryref02_Check) (granaryref02_New) (granaryref02_At) next x)
theorem granaryref02_Turn_k2 (N : Nat) : LoopOK Try.prog 45 granaryref02_Turn_c2 ⟨granaryref02_Turn_d2, loopF (granaryref02_Turn_b2 N) N⟩ := loop_ok tabOK (granaryref02_Turn_t N) mixedOK (J := granaryref02_Turn_J N) (cx := 0) (body := granaryref02_Turn_c2) (nt := 45) (l := granaryref02_Turn_d2) (b := granaryref02_Turn_b2 N) (jok_from granaryref02_Turn_i2 ⟨trivial, trivial⟩) (granaryref02_Turn_e2 N) N
theorem granaryref02_Turn_i0 : loopsOf granaryref02_Turn_c0 = [(2, granaryref02_Turn_c2)] := by kernel_rfl
noncomputable def granaryref02_Turn_a0 (N : Nat) (f0 : Int × Int × (List Int) → Option (Int)) (f1 : Int × Int → Option (Int × Int × (List Int))) (f2 : Int × Int × (List Int) × Int × Int → Option (Int)) (next : Int × Int × Int × (List Int) × (List Int) × Int × Int → Option ((Int × Int × (List Int) × (List Int) × Int × Int))) (x : Int × Int × Int × (List Int) × (List Int) × Int × Int) : Option ((Int × Int × (List Int) × (List Int) × Int × Int)) :=
  (cond (decide (x.1 < x.2.1))
  (Option.bind (granaryref02_Turn_l2 N (x.1, (0 : Int), x.2.1, x.2.2.1, x.2.2.2.1, x.2.2.2.2.1, x.2.2.2.2.2.1, x.2.2.2.2.2.2)) fun r2 =>
  (next ((wrapF .i64 (x.1 + (1 : Int))), r2.1, r2.2.1, r2.2.2.1, r2.2.2.2.1, r2.2.2.2.2.1, r2.2.2.2.2.2)))
  (some (x.2.1, x.2.2.1, x.2.2.2.1, x.2.2.2.2.1, x.2.2.2.2.2.1, x.2.2.2.2.2.2)))
theorem granaryref02_Turn_f0 (N : Nat) (f0 : Int × Int × (List Int) → Option (Int)) (f1 : Int × Int → Option (Int × Int × (List Int))) (f2 : Int × Int × (List Int) × Int × Int → Option (Int)) (next) (x) : granaryref02_Turn_a0 N f0 f1 f2 next x = loopStep Γ (granaryref02_Turn_CA N f0 f1 f2) (granaryref02_Turn_J N) 0 45 granaryref02_Turn_d0 granaryref02_Turn_c0 next x := by kernel_rfl
theorem granaryref02_Turn_e0 (N : Nat) (next) (x) : granaryref02_Turn_b0 N next x = loopStep Γ (granaryref02_Turn_C N) (granaryref02_Turn_J N) 0 45 granaryref02_Turn_d0 granaryref02_Turn_c0 next x := by
  rw [← granaryref02_Turn_CE N]
  exact Eq.trans (by kernel_rfl) (granaryref02_Turn_f0 N (granaryref02_Check) (granaryref02_New) (granaryref02_At) next x)
theorem granaryref02_Turn_k0 (N : Nat) : LoopOK Try.prog 45 granaryref02_Turn_c0 ⟨granaryref02_Turn_d0, loopF (granaryref02_Turn_b0 N) N⟩ := loop_ok tabOK (granaryref02_Turn_t N) mixedOK (J := granaryref02_Turn_J N) (cx := 0) (body := granaryref02_Turn_c0) (nt := 45) (l := granaryref02_Turn_d0) (b := granaryref02_Turn_b0 N) (jok_from granaryref02_Turn_i0 ⟨⟨.inr ⟨_, rfl, granaryref02_Turn_k2 N⟩, trivial⟩, trivial⟩) (granaryref02_Turn_e0 N) N
theorem granaryref02_Turn_i : loopsOf granaryref02_Turn_c = [(0, granaryref02_Turn_c0), (2, granaryref02_Turn_c2)] := by kernel_rfl
noncomputable def granaryref02_Turn_a (N : Nat) (f0 : Int × Int × (List Int) → Option (Int)) (f1 : Int × Int → Option (Int × Int × (List Int))) (f2 : Int × Int × (List Int) × Int × Int → Option (Int)) (x : Int × Int × (List Int)) : Option (Int × Int × Int × (List Int)) :=
  (Option.bind (f0 (x.1, x.2.1, x.2.2)) fun r1 =>
  (cond (!(decide (r1 = (0 : Int))))
  (some ((0 : Int), (0 : Int), r1, ([] : List Int)))
  (Option.bind (f1 (x.2.1, x.1)) fun r3 =>
  (Option.bind (granaryref02_Turn_l0 N ((0 : Int), x.1, x.2.1, x.2.2, r3.2.2, r3.1, r3.2.1)) fun r4 =>
  (some (r4.2.2.2.2.1, r4.2.2.2.2.2, (0 : Int), r4.2.2.2.1))))))
theorem granaryref02_Turn_f (N : Nat) (f0 : Int × Int × (List Int) → Option (Int)) (f1 : Int × Int → Option (Int × Int × (List Int))) (f2 : Int × Int × (List Int) × Int × Int → Option (Int)) (x) : granaryref02_Turn_a N f0 f1 f2 x = fnStep Γ (granaryref02_Turn_CA N f0 f1 f2) (granaryref02_Turn_J N) 45 Try.f52.results.toList (granaryref02_Turn_g N) granaryref02_Turn_o granaryref02_Turn_c x := by kernel_rfl
theorem granaryref02_Turn_e (N : Nat) (x) : (granaryref02_Turn_g N).F x = fnStep Γ (granaryref02_Turn_C N) (granaryref02_Turn_J N) 45 Try.f52.results.toList (granaryref02_Turn_g N) granaryref02_Turn_o granaryref02_Turn_c x := by
  rw [← granaryref02_Turn_CE N]
  exact Eq.trans (by kernel_rfl) (granaryref02_Turn_f N (granaryref02_Check) (granaryref02_New) (granaryref02_At) x)
theorem granaryref02_Turn_y : Try.f52.body = some granaryref02_Turn_c := by kernel_rfl
theorem granaryref02_Turn_n : (Try.f52.name == "runtime.NumGoroutine") = false := by kernel_rfl
theorem granaryref02_Turn_ok (N : Nat) : FnDoes Try.prog 52 (granaryref02_Turn_g N) := fn_ok tabOK (granaryref02_Turn_t N) mixedOK (J := granaryref02_Turn_J N) (body := granaryref02_Turn_c) Try.func52 granaryref02_Turn_y granaryref02_Turn_n Try.ntmps52 (jok_from granaryref02_Turn_i ⟨⟨.inr ⟨_, rfl, granaryref02_Turn_k0 N⟩, .inr ⟨_, rfl, granaryref02_Turn_k2 N⟩, trivial⟩, trivial⟩) rfl rfl (le_of_ble rfl) (granaryref02_Turn_e N)
noncomputable def granaryref02_cleared_v1_c : Code := codeOf Try.f71.body
noncomputable def granaryref02_cleared_v1_c0 : Code := codeOf (getLoop 0 granaryref02_cleared_v1_c)
noncomputable def granaryref02_cleared_v1_c2 : Code := codeOf (getLoop 2 granaryref02_cleared_v1_c)
noncomputable def granaryref02_cleared_v1_c4 : Code := codeOf (getLoop 4 granaryref02_cleared_v1_c)
noncomputable def granaryref02_cleared_v1_c6 : Code := codeOf (getLoop 6 granaryref02_cleared_v1_c)
noncomputable def granaryref02_cleared_v1_c8 : Code := codeOf (getLoop 8 granaryref02_cleared_v1_c)
noncomputable def granaryref02_cleared_v1_c10 : Code := codeOf (getLoop 10 granaryref02_cleared_v1_c)
def granaryref02_cleared_v1_d2 : LD := { ins := ⟨[(1, (.av (.one (.int .i64)))), (4, (.av (.one (.const (.ptr ⟨3, 0, 0, 0⟩))))), (6, (.av (.one (.const (.ptr ⟨8, 0, 0, 0⟩))))), (7, (.av (.one (.int .i64)))), (8, (.av (.one (.int .i64)))), (9, (.av (.one (.int .i64))))], [(.keep, false), (.keep, false), (.keep, false), (.keep, false), (.keep, false), (.keep, false), (.keep, false), (.sh (.arr (.int .u8) none), false), (.sh (.one (.int .i64)), true), (.sh (.one (.int .i64)), true), (.sh (.one (.const (.slw 7 1))), false)]⟩, mov := [], wr := [7, 8, 9, 10], outs := [(.exit 2, ⟨[(9, (.av (.one (.int .i64))))], [(.keep, false), (.keep, false), (.keep, false), (.keep, false), (.keep, false), (.keep, false), (.keep, false), (.sh (.arr (.int .u8) none), false), (.sh (.one (.int .i64)), true), (.sh (.one (.int .i64)), true), (.sh (.one (.const (.slw 7 1))), false)]⟩)], its := [.int, .int, .int, .int, .lst (.int .u8), .int, .int], ots := [[.int, .lst (.int .u8), .int, .int]] }
def granaryref02_cleared_v1_d4 : LD := { ins := ⟨[(1, (.av (.one (.int .i64)))), (4, (.av (.one (.const (.ptr ⟨3, 0, 0, 0⟩))))), (6, (.av (.one (.const (.ptr ⟨8, 0, 0, 0⟩))))), (7, (.av (.one (.int .i64)))), (8, (.av (.one (.int .i64)))), (9, (.av (.one (.int .i64)))), (10, (.av (.one (.int .i64))))], [(.keep, false), (.keep, false), (.keep, false), (.keep, false), (.keep, false), (.keep, false), (.keep, false), (.sh (.arr (.int .u8) none), false), (.sh (.one (.int .i64)), true), (.sh (.one (.int .i64)), true), (.sh (.one (.const (.slw 7 1))), false)]⟩, mov := [], wr := [7, 8, 9, 10], outs := [(.exit 4, ⟨[], [(.keep, false), (.keep, false), (.keep, false), (.keep, false), (.keep, false), (.keep, false), (.keep, false), (.sh (.arr (.int .u8) none), false), (.sh (.one (.int .i64)), true), (.sh (.one (.int .i64)), true), (.sh (.one (.const (.slw 7 1))), false)]⟩)], its := [.int, .int, .int, .int, .int, .lst (.int .u8), .int, .int], ots := [[.lst (.int .u8), .int, .int]] }
def granaryref02_cleared_v1_d6 : LD := { ins := ⟨[(1, (.av (.one (.int .i64)))), (4, (.av (.one (.const (.ptr ⟨3, 0, 0, 0⟩))))), (6, (.av (.one (.const (.ptr ⟨8, 0, 0, 0⟩))))), (7, (.av (.one (.int .i64)))), (8, (.av (.one (.int .i64)))), (11, (.av (.one (.int .u8)))), (13, (.av (.one (.int .i64))))], [(.keep, false), (.keep, false), (.keep, false), (.keep, false), (.keep, false), (.keep, false), (.keep, false), (.sh (.arr (.int .u8) none), false), (.sh (.one (.int .i64)), true), (.sh (.one (.int .i64)), true), (.sh (.one (.const (.slw 7 1))), false)]⟩, mov := [], wr := [7, 8, 9, 10], outs := [(.exit 6, ⟨[], [(.keep, false), (.keep, false), (.keep, false), (.keep, false), (.keep, false), (.keep, false), (.keep, false), (.sh (.arr (.int .u8) none), false), (.sh (.one (.int .i64)), true), (.sh (.one (.int .i64)), true), (.sh (.one (.const (.slw 7 1))), false)]⟩)], its := [.int, .int, .int, .int, .int, .lst (.int .u8), .int, .int], ots := [[.lst (.int .u8), .int, .int]] }
def granaryref02_cleared_v1_d10 : LD := { ins := ⟨[(1, (.av (.one (.int .i64)))), (4, (.av (.one (.const (.ptr ⟨3, 0, 0, 0⟩))))), (6, (.av (.one (.const (.ptr ⟨8, 0, 0, 0⟩))))), (7, (.av (.one (.int .i64)))), (8, (.av (.one (.int .i64)))), (14, (.av (.one (.int .i64)))), (15, (.av (.one (.int .u8)))), (16, (.av (.one (.int .i64))))], [(.keep, false), (.keep, false), (.keep, false), (.keep, false), (.keep, false), (.keep, false), (.keep, false), (.sh (.arr (.int .u8) none), false), (.sh (.one (.int .i64)), true), (.sh (.one (.int .i64)), true), (.sh (.one (.const (.slw 7 1))), false)]⟩, mov := [], wr := [7, 8, 9, 10], outs := [(.exit 10, ⟨[], [(.keep, false), (.keep, false), (.keep, false), (.keep, false), (.keep, false), (.keep, false), (.keep, false), (.sh (.arr (.int .u8) none), false), (.sh (.one (.int .i64)), true), (.sh (.one (.int .i64)), true), (.sh (.one (.const (.slw 7 1))), false)]⟩)], its := [.int, .int, .int, .int, .int, .int, .lst (.int .u8), .int, .int], ots := [[.lst (.int .u8), .int, .int]] }
def granaryref02_cleared_v1_d8 : LD := { ins := ⟨[(1, (.av (.one (.int .i64)))), (4, (.av (.one (.const (.ptr ⟨3, 0, 0, 0⟩))))), (6, (.av (.one (.const (.ptr ⟨8, 0, 0, 0⟩))))), (7, (.av (.one (.int .i64)))), (8, (.av (.one (.int .i64)))), (14, (.av (.one (.int .i64))))], [(.keep, false), (.keep, false), (.keep, false), (.keep, false), (.keep, false), (.keep, false), (.keep, false), (.sh (.arr (.int .u8) none), false), (.sh (.one (.int .i64)), true), (.sh (.one (.int .i64)), true), (.sh (.one (.const (.slw 7 1))), false)]⟩, mov := [], wr := [7, 8, 9, 10], outs := [(.exit 8, ⟨[], [(.keep, false), (.keep, false), (.keep, false), (.keep, false), (.keep, false), (.keep, false), (.keep, false), (.sh (.arr (.int .u8) none), false), (.sh (.one (.int .i64)), true), (.sh (.one (.int .i64)), true), (.sh (.one (.const (.slw 7 1))), false)]⟩)], its := [.int, .int, .int, .int, .lst (.int .u8), .int, .int], ots := [[.lst (.int .u8), .int, .int]] }
def granaryref02_cleared_v1_d0 : LD := { ins := ⟨[(1, (.av (.one (.int .i64)))), (4, (.av (.one (.const (.ptr ⟨3, 0, 0, 0⟩))))), (6, (.av (.one (.const (.ptr ⟨8, 0, 0, 0⟩))))), (7, (.av (.one (.int .i64)))), (8, (.av (.one (.int .i64))))], [(.keep, false), (.keep, false), (.keep, false), (.keep, false), (.keep, false), (.keep, false), (.keep, false), (.sh (.arr (.int .u8) none), false), (.sh (.one (.int .i64)), true), (.sh (.one (.int .i64)), true), (.sh (.one (.const (.slw 7 1))), false)]⟩, mov := [], wr := [7, 8, 9, 10], outs := [(.exit 0, ⟨[(7, (.av (.one (.int .i64))))], [(.keep, false), (.keep, false), (.keep, false), (.keep, false), (.keep, false), (.keep, false), (.keep, false), (.sh (.arr (.int .u8) none), false), (.sh (.one (.int .i64)), true), (.sh (.one (.int .i64)), true), (.sh (.one (.const (.slw 7 1))), false)]⟩)], its := [.int, .int, .int, .lst (.int .u8), .int, .int], ots := [[.int, .lst (.int .u8), .int, .int]] }
noncomputable def granaryref02_cleared_v1_J (N : Nat) : Nat → Hint := fun cx => hintOf cx [(0, { reg := fun k => assoc0 k [(4, ⟨⟨[(34, (.av (.one .bool)))], [(.dead, false), (.dead, false), (.dead, false), (.dead, false), (.dead, false), (.dead, false), (.dead, false), (.keep, false), (.keep, true), (.keep, true), (.keep, false)]⟩, [], [], [.bool]⟩), (7, ⟨⟨[(48, (.av (.one .bool)))], [(.dead, false), (.dead, false), (.dead, false), (.dead, false), (.dead, false), (.dead, false), (.dead, false), (.keep, false), (.keep, true), (.keep, true), (.keep, false)]⟩, [], [], [.bool]⟩), (24, ⟨⟨[(150, (.av (.one .bool)))], [(.dead, false), (.dead, false), (.dead, false), (.dead, false), (.dead, false), (.dead, false), (.dead, false), (.keep, false), (.keep, true), (.keep, true), (.keep, false)]⟩, [], [], [.bool]⟩)], cnd := fun k => assoc0 k [], loop := fun k => assoc0 k [(2, ⟨granaryref02_cleared_v1_d2, loopF (granaryref02_cleared_v1_b2 N) N⟩), (4, ⟨granaryref02_cleared_v1_d4, loopF (granaryref02_cleared_v1_b4 N) N⟩), (6, ⟨granaryref02_cleared_v1_d6, loopF (granaryref02_cleared_v1_b6 N) N⟩), (10, ⟨granaryref02_cleared_v1_d10, loopF (granaryref02_cleared_v1_b10 N) N⟩), (8, ⟨granaryref02_cleared_v1_d8, loopF (granaryref02_cleared_v1_b8 N) N⟩), (0, ⟨granaryref02_cleared_v1_d0, loopF (granaryref02_cleared_v1_b0 N) N⟩)], nil := fun k => assoc0 k [], unr := fun k => assocN k [], blk := fun k => assoc0 k [(1, ⟨[], [7, 8, 9, 10], [(.normal, ⟨[(7, (.av (.one (.int .i64))))], [(.dead, false), (.dead, false), (.dead, false), (.dead, false), (.dead, false), (.dead, false), (.dead, false), (.sh (.arr (.int .u8) none), false), (.sh (.one (.int .i64)), true), (.sh (.one (.int .i64)), true), (.sh (.one (.const (.slw 7 1))), false)]⟩)], [[.int, .lst (.int .u8), .int, .int]]⟩)] })]
noncomputable def granaryref02_cleared_v1_C (N : Nat) : Nat → List GS := fun k => tabOf k [(70, [granaryref02_At_v1_g N]), (24, [granaryref02_Inv_g N]), (27, [granaryref02_Mul_g N])]
def granaryref02_cleared_v1_o : List (Shp × List Nat) := [(⟨[(0, (.tup [(.agg [(.one (.int .i64)), (.one (.int .i64)), (.one (.const (.slw 0 1)))]), (.one (.int .i64))]))], [(.sh (.arr (.int .u8) none), false)]⟩, [])]
noncomputable def granaryref02_cleared_v1_g (N : Nat) : GS := { ins := ⟨[(0, (.av (.agg [(.one (.int .i64)), (.one (.int .i64)), (.one (.rsl (.int .u8)))]))), (1, (.av (.one (.int .i64))))], []⟩, lend := [.keep, .keep], outs := granaryref02_cleared_v1_o.map fun s => ssOf s.1, its := [.int, .int, .lst (.int .u8), .int], ots := [[.int, .int, .int, .lst (.int .u8)]], F := granaryref02_cleared_v1 N }
noncomputable def granaryref02_cleared_v1_CA (N : Nat) (f0 : Int × Int × (List Int) × Int × Int → Option (Int)) (f1 : Int → Option (Int × Int)) (f2 : Int × Int → Option (Int)) : Nat → List GS := fun k => tabOf k [(70, [{ granaryref02_At_v1_g N with F := f0 }]), (24, [{ granaryref02_Inv_g N with F := f1 }]), (27, [{ granaryref02_Mul_g N with F := f2 }])]
theorem granaryref02_cleared_v1_CE (N : Nat) : granaryref02_cleared_v1_CA N (granaryref02_At_v1) (granaryref02_Inv N) (granaryref02_Mul N) = granaryref02_cleared_v1_C N := by kernel_rfl
theorem granaryref02_cleared_v1_t (N : Nat) : TabC Try.prog (granaryref02_cleared_v1_C N) := tab_ok ⟨⟨granaryref02_At_v1_ok N, trivial⟩, ⟨granaryref02_Inv_ok N, trivial⟩, ⟨granaryref02_Mul_ok N, trivial⟩, trivial⟩
theorem granaryref02_cleared_v1_i10 : loopsOf granaryref02_cleared_v1_c10 = [] := by kernel_rfl
noncomputable def granaryref02_cleared_v1_a10 (N : Nat) (f0 : Int × Int × (List Int) × Int × Int → Option (Int)) (f1 : Int → Option (Int × Int)) (f2 : Int × Int → Option (Int)) (next : Int × Int × Int × Int × Int × Int × (List Int) × Int × Int → Option (((List Int) × Int × Int))) (x : Int × Int × Int × Int × Int × Int × (List Int) × Int × Int) : Option (((List Int) × Int × Int)) :=
  (Option.bind
  (cond (decide (x.2.2.2.2.2.1 < x.2.2.2.2.2.2.2.2))
  (cond (!(decide (x.2.2.2.1 = x.2.1)))
  (some (!(decide (x.2.2.2.2.1 = (0 : Int)))))
  (some false))
  (some false))
  fun r4 =>
  (cond r4
  (let v6 : Int := (wrapF .i64 ((wrapF .i64 (x.2.2.2.1 * x.2.2.2.2.2.2.2.2)) + x.2.2.2.2.2.1))
  (Option.bind (f0 (x.2.2.2.2.2.2.2.1, x.2.2.2.2.2.2.2.2, x.2.2.2.2.2.2.1, x.2.2.2.1, x.2.2.2.2.2.1)) fun r7 =>
  (Option.bind (f0 (x.2.2.2.2.2.2.2.1, x.2.2.2.2.2.2.2.2, x.2.2.2.2.2.2.1, x.2.1, x.2.2.2.2.2.1)) fun r8 =>
  (Option.bind (f2 (x.2.2.2.2.1, r8)) fun r9 =>
  (cond ((decide ((0 : Int) ≤ v6)) && (decide (v6 < (((List.length x.2.2.2.2.2.2.1) : Nat) : Int))))
  ((let v11 : Nat := (Int.toNat v6)
  (cond (decide (v11 < (List.length x.2.2.2.2.2.2.1)))
  ((next (x.1, x.2.1, x.2.2.1, x.2.2.2.1, x.2.2.2.2.1, (wrapF .i64 (x.2.2.2.2.2.1 + (1 : Int))), (List.set x.2.2.2.2.2.2.1 v11 (xorF .u8 r7 r9)), x.2.2.2.2.2.2.2.1, x.2.2.2.2.2.2.2.2)))
  none)))
  none)))))
  (some (x.2.2.2.2.2.2.1, x.2.2.2.2.2.2.2.1, x.2.2.2.2.2.2.2.2))))
theorem granaryref02_cleared_v1_f10 (N : Nat) (f0 : Int × Int × (List Int) × Int × Int → Option (Int)) (f1 : Int → Option (Int × Int)) (f2 : Int × Int → Option (Int)) (next) (x) : granaryref02_cleared_v1_a10 N f0 f1 f2 next x = loopStep Γ (granaryref02_cleared_v1_CA N f0 f1 f2) (granaryref02_cleared_v1_J N) 0 177 granaryref02_cleared_v1_d10 granaryref02_cleared_v1_c10 next x := by kernel_rfl
theorem granaryref02_cleared_v1_e10 (N : Nat) (next) (x) : granaryref02_cleared_v1_b10 N next x = loopStep Γ (granaryref02_cleared_v1_C N) (granaryref02_cleared_v1_J N) 0 177 granaryref02_cleared_v1_d10 granaryref02_cleared_v1_c10 next x := by
  rw [← granaryref02_cleared_v1_CE N]
  exact Eq.trans (by kernel_rfl) (granaryref02_cleared_v1_f10 N (granaryref02_At_v1) (granaryref02_Inv N) (granaryref02_Mul N) next x)
theorem granaryref02_cleared_v1_k10 (N : Nat) : LoopOK Try.prog 177 granaryref02_cleared_v1_c10 ⟨granaryref02_cleared_v1_d10, loopF (granaryref02_cleared_v1_b10 N) N⟩ := loop_ok tabOK (granaryref02_cleared_v1_t N) mixedOK (J := granaryref02_cleared_v1_J N) (cx := 0) (body := granaryref02_cleared_v1_c10) (nt := 177) (l := granaryref02_cleared_v1_d10) (b := granaryref02_cleared_v1_b10 N) (jok_from granaryref02_cleared_v1_i10 ⟨trivial, trivial⟩) (granaryref02_cleared_v1_e10 N) N
theorem granaryref02_cleared_v1_i2 : loopsOf granaryref02_cleared_v1_c2 = [] := by kernel_rfl
noncomputable def granaryref02_cleared_v1_a2 (N : Nat) (f0 : Int × Int × (List Int) × Int × Int → Option (Int)) (f1 : Int → Option (Int × Int)) (f2 : Int × Int → Option (Int)) (next : Int × Int × Int × Int × (List Int) × Int × Int → Option ((Int × (List Int) × Int × Int))) (x : Int × Int × Int × Int × (List Int) × Int × Int) : Option ((Int × (List Int) × Int × Int)) :=
  (Option.bind
  (cond (decide (x.2.2.2.1 < x.2.2.2.2.2.1))
  (Option.bind (f0 (x.2.2.2.2.2.1, x.2.2.2.2.2.2, x.2.2.2.2.1, x.2.2.2.1, x.2.2.1)) fun r2 =>
  (some (decide (r2 = (0 : Int)))))
  (some false))
  fun r4 =>
  (cond r4
  (next (x.1, x.2.1, x.2.2.1, (wrapF .i64 (x.2.2.2.1 + (1 : Int))), x.2.2.2.2.1, x.2.2.2.2.2.1, x.2.2.2.2.2.2))
  (some (x.2.2.2.1, x.2.2.2.2.1, x.2.2.2.2.2.1, x.2.2.2.2.2.2))))
theorem granaryref02_cleared_v1_f2 (N : Nat) (f0 : Int × Int × (List Int) × Int × Int → Option (Int)) (f1 : Int → Option (Int × Int)) (f2 : Int × Int → Option (Int)) (next) (x) : granaryref02_cleared_v1_a2 N f0 f1 f2 next x = loopStep Γ (granaryref02_cleared_v1_CA N f0 f1 f2) (granaryref02_cleared_v1_J N) 0 177 granaryref02_cleared_v1_d2 granaryref02_cleared_v1_c2 next x := by kernel_rfl
theorem granaryref02_cleared_v1_e2 (N : Nat) (next) (x) : granaryref02_cleared_v1_b2 N next x = loopStep Γ (granaryref02_cleared_v1_C N) (granaryref02_cleared_v1_J N) 0 177 granaryref02_cleared_v1_d2 granaryref02_cleared_v1_c2 next x := by
  rw [← granaryref02_cleared_v1_CE N]
  exact Eq.trans (by kernel_rfl) (granaryref02_cleared_v1_f2 N (granaryref02_At_v1) (granaryref02_Inv N) (granaryref02_Mul N) next x)
theorem granaryref02_cleared_v1_k2 (N : Nat) : LoopOK Try.prog 177 granaryref02_cleared_v1_c2 ⟨granaryref02_cleared_v1_d2, loopF (granaryref02_cleared_v1_b2 N) N⟩ := loop_ok tabOK (granaryref02_cleared_v1_t N) mixedOK (J := granaryref02_cleared_v1_J N) (cx := 0) (body := granaryref02_cleared_v1_c2) (nt := 177) (l := granaryref02_cleared_v1_d2) (b := granaryref02_cleared_v1_b2 N) (jok_from granaryref02_cleared_v1_i2 ⟨trivial, trivial⟩) (granaryref02_cleared_v1_e2 N) N
theorem granaryref02_cleared_v1_i4 : loopsOf granaryref02_cleared_v1_c4 = [] := by kernel_rfl
noncomputable def granaryref02_cleared_v1_a4 (N : Nat) (f0 : Int × Int × (List Int) × Int × Int → Option (Int)) (f1 : Int → Option (Int × Int)) (f2 : Int × Int → Option (Int)) (next : Int × Int × Int × Int × Int × (List Int) × Int × Int → Option (((List Int) × Int × Int))) (x : Int × Int × Int × Int × Int × (List Int) × Int × Int) : Option (((List Int) × Int × Int)) :=
  (cond (decide (x.2.2.2.2.1 < x.2.2.2.2.2.2.2))
  (let v3 : Int := (wrapF .i64 ((wrapF .i64 (x.2.1 * x.2.2.2.2.2.2.2)) + x.2.2.2.2.1))
  (let v5 : Int := (wrapF .i64 ((wrapF .i64 (x.2.2.2.1 * x.2.2.2.2.2.2.2)) + x.2.2.2.2.1))
  (let v7 : Int := (wrapF .i64 ((wrapF .i64 (x.2.2.2.1 * x.2.2.2.2.2.2.2)) + x.2.2.2.2.1))
  (cond ((decide ((0 : Int) ≤ v7)) && (decide (v7 < (((List.length x.2.2.2.2.2.1) : Nat) : Int))))
  ((let v8 : Nat := (Int.toNat v7)
  (cond (decide (v8 < (List.length x.2.2.2.2.2.1)))
  ((let v11 : Int := (wrapF .i64 ((wrapF .i64 (x.2.1 * x.2.2.2.2.2.2.2)) + x.2.2.2.2.1))
  (cond ((decide ((0 : Int) ≤ v11)) && (decide (v11 < (((List.length x.2.2.2.2.2.1) : Nat) : Int))))
  ((let v12 : Nat := (Int.toNat v11)
  (cond (decide (v12 < (List.length x.2.2.2.2.2.1)))
  ((cond ((decide ((0 : Int) ≤ v3)) && (decide (v3 < (((List.length x.2.2.2.2.2.1) : Nat) : Int))))
  ((let v14 : Nat := (Int.toNat v3)
  (cond (decide (v14 < (List.length x.2.2.2.2.2.1)))
  ((let v15 : List Int := (List.set x.2.2.2.2.2.1 v14 (List.getD x.2.2.2.2.2.1 v8 (EK.dflt (.int .u8))))
  (cond ((decide ((0 : Int) ≤ v5)) && (decide (v5 < (((List.length v15) : Nat) : Int))))
  ((let v16 : Nat := (Int.toNat v5)
  (cond (decide (v16 < (List.length v15)))
  ((next (x.1, x.2.1, x.2.2.1, x.2.2.2.1, (wrapF .i64 (x.2.2.2.2.1 + (1 : Int))), (List.set v15 v16 (List.getD x.2.2.2.2.2.1 v12 (EK.dflt (.int .u8)))), x.2.2.2.2.2.2.1, x.2.2.2.2.2.2.2)))
  none)))
  none)))
  none)))
  none))
  none)))
  none)))
  none)))
  none))))
  (some (x.2.2.2.2.2.1, x.2.2.2.2.2.2.1, x.2.2.2.2.2.2.2)))
theorem granaryref02_cleared_v1_f4 (N : Nat) (f0 : Int × Int × (List Int) × Int × Int → Option (Int)) (f1 : Int → Option (Int × Int)) (f2 : Int × Int → Option (Int)) (next) (x) : granaryref02_cleared_v1_a4 N f0 f1 f2 next x = loopStep Γ (granaryref02_cleared_v1_CA N f0 f1 f2) (granaryref02_cleared_v1_J N) 0 177 granaryref02_cleared_v1_d4 granaryref02_cleared_v1_c4 next x := by kernel_rfl
theorem granaryref02_cleared_v1_e4 (N : Nat) (next) (x) : granaryref02_cleared_v1_b4 N next x = loopStep Γ (granaryref02_cleared_v1_C N) (granaryref02_cleared_v1_J N) 0 177 granaryref02_cleared_v1_d4 granaryref02_cleared_v1_c4 next x := by
  rw [← granaryref02_cleared_v1_CE N]
  exact Eq.trans (by kernel_rfl) (granaryref02_cleared_v1_f4 N (granaryref02_At_v1) (granaryref02_Inv N) (granaryref02_Mul N) next x)
theorem granaryref02_cleared_v1_k4 (N : Nat) : LoopOK Try.prog 177 granaryref02_cleared_v1_c4 ⟨granaryref02_cleared_v1_d4, loopF (granaryref02_cleared_v1_b4 N) N⟩ := loop_ok tabOK (granaryref02_cleared_v1_t N) mixedOK (J := granaryref02_cleared_v1_J N) (cx := 0) (body := granaryref02_cleared_v1_c4) (nt := 177) (l := granaryref02_cleared_v1_d4) (b := granaryref02_cleared_v1_b4 N) (jok_from granaryref02_cleared_v1_i4 ⟨trivial, trivial⟩) (granaryref02_cleared_v1_e4 N) N
theorem granaryref02_cleared_v1_i6 : loopsOf granaryref02_cleared_v1_c6 = [] := by kernel_rfl
noncomputable def granaryref02_cleared_v1_a6 (N : Nat) (f0 : Int × Int × (List Int) × Int × Int → Option (Int)) (f1 : Int → Option (Int × Int)) (f2 : Int × Int → Option (Int)) (next : Int × Int × Int × Int × Int × (List Int) × Int × Int → Option (((List Int) × Int × Int))) (x : Int × Int × Int × Int × Int × (List Int) × Int × Int) : Option (((List Int) × Int × Int)) :=
  (cond (decide (x.2.2.2.2.1 < x.2.2.2.2.2.2.2))
  (let v3 : Int := (wrapF .i64 ((wrapF .i64 (x.2.1 * x.2.2.2.2.2.2.2)) + x.2.2.2.2.1))
  (Option.bind (f0 (x.2.2.2.2.2.2.1, x.2.2.2.2.2.2.2, x.2.2.2.2.2.1, x.2.1, x.2.2.2.2.1)) fun r4 =>
  (Option.bind (f2 (x.2.2.2.1, r4)) fun r5 =>
  (cond ((decide ((0 : Int) ≤ v3)) && (decide (v3 < (((List.length x.2.2.2.2.2.1) : Nat) : Int))))
  ((let v6 : Nat := (Int.toNat v3)
  (cond (decide (v6 < (List.length x.2.2.2.2.2.1)))
  ((next (x.1, x.2.1, x.2.2.1, x.2.2.2.1, (wrapF .i64 (x.2.2.2.2.1 + (1 : Int))), (List.set x.2.2.2.2.2.1 v6 r5), x.2.2.2.2.2.2.1, x.2.2.2.2.2.2.2)))
  none)))
  none))))
  (some (x.2.2.2.2.2.1, x.2.2.2.2.2.2.1, x.2.2.2.2.2.2.2)))
theorem granaryref02_cleared_v1_f6 (N : Nat) (f0 : Int × Int × (List Int) × Int × Int → Option (Int)) (f1 : Int → Option (Int × Int)) (f2 : Int × Int → Option (Int)) (next) (x) : granaryref02_cleared_v1_a6 N f0 f1 f2 next x = loopStep Γ (granaryref02_cleared_v1_CA N f0 f1 f2) (granaryref02_cleared_v1_J N) 0 177 granaryref02_cleared_v1_d6 granaryref02_cleared_v1_c6 next x := by kernel_rfl
theorem granaryref02_cleared_v1_e6 (N : Nat) (next) (x) : granaryref02_cleared_v1_b6 N next x = loopStep Γ (granaryref02_cleared_v1_C N) (granaryref02_cleared_v1_J N) 0 177 granaryref02_cleared_v1_d6 granaryref02_cleared_v1_c6 next x := by
  rw [← granaryref02_cleared_v1_CE N]
  exact Eq.trans (by kernel_rfl) (granaryref02_cleared_v1_f6 N (granaryref02_At_v1) (granaryref02_Inv N) (granaryref02_Mul N) next x)
theorem granaryref02_cleared_v1_k6 (N : Nat) : LoopOK Try.prog 177 granaryref02_cleared_v1_c6 ⟨granaryref02_cleared_v1_d6, loopF (granaryref02_cleared_v1_b6 N) N⟩ := loop_ok tabOK (granaryref02_cleared_v1_t N) mixedOK (J := granaryref02_cleared_v1_J N) (cx := 0) (body := granaryref02_cleared_v1_c6) (nt := 177) (l := granaryref02_cleared_v1_d6) (b := granaryref02_cleared_v1_b6 N) (jok_from granaryref02_cleared_v1_i6 ⟨trivial, trivial⟩) (granaryref02_cleared_v1_e6 N) N
theorem granaryref02_cleared_v1_i8 : loopsOf granaryref02_cleared_v1_c8 = [(10, granaryref02_cleared_v1_c10)] := by kernel_rfl
noncomputable def granaryref02_cleared_v1_a8 (N : Nat) (f0 : Int × Int × (List Int) × Int × Int → Option (Int)) (f1 : Int → Option (Int × Int)) (f2 : Int × Int → Option (Int)) (next : Int × Int × Int × Int × (List Int) × Int × Int → Option (((List Int) × Int × Int))) (x : Int × Int × Int × Int × (List Int) × Int × Int) : Option (((List Int) × Int × Int)) :=
  (cond (decide (x.2.2.2.1 < x.2.2.2.2.2.1))
  (Option.bind (f0 (x.2.2.2.2.2.1, x.2.2.2.2.2.2, x.2.2.2.2.1, x.2.2.2.1, x.2.2.1)) fun r2 =>
  (Option.bind (granaryref02_cleared_v1_l10 N (x.1, x.2.1, x.2.2.1, x.2.2.2.1, r2, (0 : Int), x.2.2.2.2.1, x.2.2.2.2.2.1, x.2.2.2.2.2.2)) fun r3 =>
  (next (x.1, x.2.1, x.2.2.1, (wrapF .i64 (x.2.2.2.1 + (1 : Int))), r3.1, r3.2.1, r3.2.2))))
  (some (x.2.2.2.2.1, x.2.2.2.2.2.1, x.2.2.2.2.2.2)))
theorem granaryref02_cleared_v1_f8 (N : Nat) (f0 : Int × Int × (List Int) × Int × Int → Option (Int)) (f1 : Int → Option (Int × Int)) (f2 : Int × Int → Option (Int)) (next) (x) : granaryref02_cleared_v1_a8 N f0 f1 f2 next x = loopStep Γ (granaryref02_cleared_v1_CA N f0 f1 f2) (granaryref02_cleared_v1_J N) 0 177 granaryref02_cleared_v1_d8 granaryref02_cleared_v1_c8 next x := by kernel_rfl
theorem granaryref02_cleared_v1_e8 (N : Nat) (next) (x) : granaryref02_cleared_v1_b8 N next x = loopStep Γ (granaryref02_cleared_v1_C N) (granaryref02_cleared_v1_J N) 0 177 granaryref02_cleared_v1_d8 granaryref02_cleared_v1_c8 next x := by
  rw [← granaryref02_cleared_v1_CE N]
  exact Eq.trans (by kernel_rfl) (granaryref02_cleared_v1_f8 N (granaryref02_At_v1) (granaryref02_Inv N) (granaryref02_Mul N) next x)
theorem granaryref02_cleared_v1_k8 (N : Nat) : LoopOK Try.prog 177 granaryref02_cleared_v1_c8 ⟨granaryref02_cleared_v1_d8, loopF (granaryref02_cleared_v1_b8 N) N⟩ := loop_ok tabOK (granaryref02_cleared_v1_t N) mixedOK (J := granaryref02_cleared_v1_J N) (cx := 0) (body := granaryref02_cleared_v1_c8) (nt := 177) (l := granaryref02_cleared_v1_d8) (b := granaryref02_cleared_v1_b8 N) (jok_from granaryref02_cleared_v1_i8 ⟨⟨.inr ⟨_, rfl, granaryref02_cleared_v1_k10 N⟩, trivial⟩, trivial⟩) (granaryref02_cleared_v1_e8 N) N
theorem granaryref02_cleared_v1_i0 : loopsOf granaryref02_cleared_v1_c0 = [(2, granaryref02_cleared_v1_c2), (4, granaryref02_cleared_v1_c4), (6, granaryref02_cleared_v1_c6), (8, granaryref02_cleared_v1_c8), (10, granaryref02_cleared_v1_c10)] := by kernel_rfl
noncomputable def granaryref02_cleared_v1_a0 (N : Nat) (f0 : Int × Int × (List Int) × Int × Int → Option (Int)) (f1 : Int → Option (Int × Int)) (f2 : Int × Int → Option (Int)) (next : Int × Int × Int × (List Int) × Int × Int → Option ((Int × (List Int) × Int × Int))) (x : Int × Int × Int × (List Int) × Int × Int) : Option ((Int × (List Int) × Int × Int)) :=
  (Option.bind
  (cond (decide (x.2.2.1 < x.1))
  (some (decide (x.2.1 < x.2.2.2.2.1)))
  (some false))
  fun r3 =>
  (cond r3
  (Option.bind
  (Option.bind (granaryref02_cleared_v1_l2 N (x.1, x.2.1, x.2.2.1, x.2.1, x.2.2.2.1, x.2.2.2.2.1, x.2.2.2.2.2)) fun r4 =>
  (cond (decide (r4.1 = r4.2.2.1))
  (some (x.2.1, r4.2.1, r4.2.2.1, r4.2.2.2))
  (Option.bind (granaryref02_cleared_v1_l4 N (x.1, x.2.1, x.2.2.1, r4.1, (0 : Int), r4.2.1, r4.2.2.1, r4.2.2.2)) fun r6 =>
  (Option.bind (f0 (r6.2.1, r6.2.2, r6.1, x.2.1, x.2.2.1)) fun r7 =>
  (Option.bind (f1 r7) fun r8 =>
  (Option.bind (granaryref02_cleared_v1_l6 N (x.1, x.2.1, x.2.2.1, r8.1, (0 : Int), r6.1, r6.2.1, r6.2.2)) fun r9 =>
  (Option.bind (granaryref02_cleared_v1_l8 N (x.1, x.2.1, x.2.2.1, (0 : Int), r9.1, r9.2.1, r9.2.2)) fun r10 =>
  (some ((wrapF .i64 (x.2.1 + (1 : Int))), r10.1, r10.2.1, r10.2.2)))))))))
  fun r12 =>
  (next (x.1, r12.1, (wrapF .i64 (x.2.2.1 + (1 : Int))), r12.2.1, r12.2.2.1, r12.2.2.2)))
  (some (x.2.1, x.2.2.2.1, x.2.2.2.2.1, x.2.2.2.2.2))))
theorem granaryref02_cleared_v1_f0 (N : Nat) (f0 : Int × Int × (List Int) × Int × Int → Option (Int)) (f1 : Int → Option (Int × Int)) (f2 : Int × Int → Option (Int)) (next) (x) : granaryref02_cleared_v1_a0 N f0 f1 f2 next x = loopStep Γ (granaryref02_cleared_v1_CA N f0 f1 f2) (granaryref02_cleared_v1_J N) 0 177 granaryref02_cleared_v1_d0 granaryref02_cleared_v1_c0 next x := by kernel_rfl
theorem granaryref02_cleared_v1_e0 (N : Nat) (next) (x) : granaryref02_cleared_v1_b0 N next x = loopStep Γ (granaryref02_cleared_v1_C N) (granaryref02_cleared_v1_J N) 0 177 granaryref02_cleared_v1_d0 granaryref02_cleared_v1_c0 next x := by
  rw [← granaryref02_cleared_v1_CE N]
  exact Eq.trans (by kernel_rfl) (granaryref02_cleared_v1_f0 N (granaryref02_At_v1) (granaryref02_Inv N) (granaryref02_Mul N) next x)
theorem granaryref02_cleared_v1_k0 (N : Nat) : LoopOK Try.prog 177 granaryref02_cleared_v1_c0 ⟨granaryref02_cleared_v1_d0, loopF (granaryref02_cleared_v1_b0 N) N⟩ := loop_ok tabOK (granaryref02_cleared_v1_t N) mixedOK (J := granaryref02_cleared_v1_J N) (cx := 0) (body := granaryref02_cleared_v1_c0) (nt := 177) (l := granaryref02_cleared_v1_d0) (b := granaryref02_cleared_v1_b0 N) (jok_from granaryref02_cleared_v1_i0 ⟨⟨.inr ⟨_, rfl, granaryref02_cleared_v1_k2 N⟩, .inr ⟨_, rfl, granaryref02_cleared_v1_k4 N⟩, .inr ⟨_, rfl, granaryref02_cleared_v1_k6 N⟩, .inr ⟨_, rfl, granaryref02_cleared_v1_k8 N⟩, .inr ⟨_, rfl, granaryref02_cleared_v1_k10 N⟩, trivial⟩, trivial⟩) (granaryref02_cleared_v1_e0 N) N
theorem granaryref02_cleared_v1_i : loopsOf granaryref02_cleared_v1_c = [(0, granaryref02_cleared_v1_c0), (2, granaryref02_cleared_v1_c2), (4, granaryref02_cleared_v1_c4), (6, granaryref02_cleared_v1_c6), (8, granaryref02_cleared_v1_c8), (10, granaryref02_cleared_v1_c10)] := by kernel_rfl
noncomputable def granaryref02_cleared_v1_a (N : Nat) (f0 : Int × Int × (List Int) × Int × Int → Option (Int)) (f1 : Int → Option (Int × Int)) (f2 : Int × Int → Option (Int)) (x : Int × Int × (List Int) × Int) : Option (Int × Int × Int × (List Int)) :=
  (cond (fits 1 (List.length x.2.2.1))
  ((Option.bind (granaryref02_cleared_v1_l0 N (x.2.2.2, (0 : Int), (0 : Int), x.2.2.1, x.1, x.2.1)) fun r2 =>
  (some (r2.2.2.1, r2.2.2.2, r2.1, r2.2.1))))
  none)
theorem granaryref02_cleared_v1_f (N : Nat) (f0 : Int × Int × (List Int) × Int × Int → Option (Int)) (f1 : Int → Option (Int × Int)) (f2 : Int × Int → Option (Int)) (x) : granaryref02_cleared_v1_a N f0 f1 f2 x = fnStep Γ (granaryref02_cleared_v1_CA N f0 f1 f2) (granaryref02_cleared_v1_J N) 177 Try.f71.results.toList (granaryref02_cleared_v1_g N) granaryref02_cleared_v1_o granaryref02_cleared_v1_c x := by kernel_rfl
theorem granaryref02_cleared_v1_e (N : Nat) (x) : (granaryref02_cleared_v1_g N).F x = fnStep Γ (granaryref02_cleared_v1_C N) (granaryref02_cleared_v1_J N) 177 Try.f71.results.toList (granaryref02_cleared_v1_g N) granaryref02_cleared_v1_o granaryref02_cleared_v1_c x := by
  rw [← granaryref02_cleared_v1_CE N]
  exact Eq.trans (by kernel_rfl) (granaryref02_cleared_v1_f N (granaryref02_At_v1) (granaryref02_Inv N) (granaryref02_Mul N) x)
theorem granaryref02_cleared_v1_y : Try.f71.body = some granaryref02_cleared_v1_c := by kernel_rfl
theorem granaryref02_cleared_v1_n : (Try.f71.name == "runtime.NumGoroutine") = false := by kernel_rfl
theorem granaryref02_cleared_v1_ok (N : Nat) : FnDoes Try.prog 71 (granaryref02_cleared_v1_g N) := fn_ok tabOK (granaryref02_cleared_v1_t N) mixedOK (J := granaryref02_cleared_v1_J N) (body := granaryref02_cleared_v1_c) Try.func71 granaryref02_cleared_v1_y granaryref02_cleared_v1_n Try.ntmps71 (jok_from granaryref02_cleared_v1_i ⟨⟨.inr ⟨_, rfl, granaryref02_cleared_v1_k0 N⟩, .inr ⟨_, rfl, granaryref02_cleared_v1_k2 N⟩, .inr ⟨_, rfl, granaryref02_cleared_v1_k4 N⟩, .inr ⟨_, rfl, granaryref02_cleared_v1_k6 N⟩, .inr ⟨_, rfl, granaryref02_cleared_v1_k8 N⟩, .inr ⟨_, rfl, granaryref02_cleared_v1_k10 N⟩, trivial⟩, trivial⟩) rfl rfl (le_of_ble rfl) (granaryref02_cleared_v1_e N)
noncomputable def granaryref02_Rank_c : Code := codeOf Try.f53.body
noncomputable def granaryref02_Rank_J (N : Nat) : Nat → Hint := fun cx => hintOf cx []
noncomputable def granaryref02_Rank_C (N : Nat) : Nat → List GS := fun k => tabOf k [(32, [granaryref02_Check_g N]), (71, [granaryref02_cleared_v1_g N])]
def granaryref02_Rank_o : List (Shp × List Nat) := [(⟨[(0, (.tup [(.one (.int .i64)), (.one (.int .i64))]))], []⟩, [])]
noncomputable def granaryref02_Rank_g (N : Nat) : GS := { ins := ⟨[(0, (.av (.agg [(.one (.int .i64)), (.one (.int .i64)), (.one (.rsl (.int .u8)))])))], []⟩, lend := [.keep], outs := granaryref02_Rank_o.map fun s => ssOf s.1, its := [.int, .int, .lst (.int .u8)], ots := [[.int, .int]], F := granaryref02_Rank N }
noncomputable def granaryref02_Rank_CA (N : Nat) (f0 : Int × Int × (List Int) → Option (Int)) (f1 : Int × Int × (List Int) × Int → Option (Int × Int × Int × (List Int))) : Nat → List GS := fun k => tabOf k [(32, [{ granaryref02_Check_g N with F := f0 }]), (71, [{ granaryref02_cleared_v1_g N with F := f1 }])]
theorem granaryref02_Rank_CE (N : Nat) : granaryref02_Rank_CA N (granaryref02_Check) (granaryref02_cleared_v1 N) = granaryref02_Rank_C N := by kernel_rfl
theorem granaryref02_Rank_t (N : Nat) : TabC Try.prog (granaryref02_Rank_C N) := tab_ok ⟨⟨granaryref02_Check_ok N, trivial⟩, ⟨granaryref02_cleared_v1_ok N, trivial⟩, trivial⟩
theorem granaryref02_Rank_i : loopsOf granaryref02_Rank_c = [] := by kernel_rfl
noncomputable def granaryref02_Rank_a (N : Nat) (f0 : Int × Int × (List Int) → Option (Int)) (f1 : Int × Int × (List Int) × Int → Option (Int × Int × Int × (List Int))) (x : Int × Int × (List Int)) : Option (Int × Int) :=
  (Option.bind (f0 (x.1, x.2.1, x.2.2)) fun r1 =>
  (cond (!(decide (r1 = (0 : Int))))
  (some ((0 : Int), r1))
  (Option.bind (f1 (x.1, x.2.1, x.2.2, x.2.1)) fun r3 =>
  (some (r3.2.2.1, (0 : Int))))))
theorem granaryref02_Rank_f (N : Nat) (f0 : Int × Int × (List Int) → Option (Int)) (f1 : Int × Int × (List Int) × Int → Option (Int × Int × Int × (List Int))) (x) : granaryref02_Rank_a N f0 f1 x = fnStep Γ (granaryref02_Rank_CA N f0 f1) (granaryref02_Rank_J N) 20 Try.f53.results.toList (granaryref02_Rank_g N) granaryref02_Rank_o granaryref02_Rank_c x := by kernel_rfl
theorem granaryref02_Rank_e (N : Nat) (x) : (granaryref02_Rank_g N).F x = fnStep Γ (granaryref02_Rank_C N) (granaryref02_Rank_J N) 20 Try.f53.results.toList (granaryref02_Rank_g N) granaryref02_Rank_o granaryref02_Rank_c x := by
  rw [← granaryref02_Rank_CE N]
  exact Eq.trans (by kernel_rfl) (granaryref02_Rank_f N (granaryref02_Check) (granaryref02_cleared_v1 N) x)
theorem granaryref02_Rank_y : Try.f53.body = some granaryref02_Rank_c := by kernel_rfl
theorem granaryref02_Rank_n : (Try.f53.name == "runtime.NumGoroutine") = false := by kernel_rfl
theorem granaryref02_Rank_ok (N : Nat) : FnDoes Try.prog 53 (granaryref02_Rank_g N) := fn_ok tabOK (granaryref02_Rank_t N) mixedOK (J := granaryref02_Rank_J N) (body := granaryref02_Rank_c) Try.func53 granaryref02_Rank_y granaryref02_Rank_n Try.ntmps53 (jok_from granaryref02_Rank_i trivial) rfl rfl (le_of_ble rfl) (granaryref02_Rank_e N)
noncomputable def gf_Solve_c : Code := codeOf Try.f54.body
noncomputable def gf_Solve_J (N : Nat) : Nat → Hint := fun cx => hintOf cx [(0, { reg := fun k => assoc0 k [(4, ⟨⟨[(24, (.av (.one .bool)))], [(.keep, true), (.keep, true), (.keep, false)]⟩, [], [], [.bool]⟩)], cnd := fun k => assoc0 k [], loop := fun k => assoc0 k [], nil := fun k => assoc0 k [], unr := fun k => assocN k [], blk := fun k => assoc0 k [] })]
noncomputable def gf_Solve_C (N : Nat) : Nat → List GS := fun k => tabOf k [(50, [gf_Check_g N]), (72, [slices_Clone_byte_byte_g N]), (64, [gf_own_g N]), (63, [gf_clear2_g N])]
def gf_Solve_o : List (Shp × List Nat) := [(⟨[(0, (.tup [(.one (.const (.slw 0 1))), (.one (.int .i64))]))], [(.sh (.arr (.int .u8) none), false)]⟩, [])]
noncomputable def gf_Solve_g (N : Nat) : GS := { ins := ⟨[(0, (.av (.agg [(.one (.int .i64)), (.one (.int .i64)), (.one (.rsl (.int .u8)))]))), (1, (.av (.one (.rsl (.int .u8)))))], []⟩, lend := [.agg [none, none, some (.int .u8)], .lend (.int .u8)], outs := gf_Solve_o.map fun s => ssOf s.1, its := [.int, .int, .lst (.int .u8), .lst (.int .u8)], ots := [[.int, .lst (.int .u8)]], F := gf_Solve N }
noncomputable def gf_Solve_CA (N : Nat) (f0 : Int × Int × (List Int) → Option (Int)) (f1 : (List Int) → Option ((List Int))) (f2 : Int × Int × (List Int) → Option (Int × Int × (List Int))) (f3 : Int × Int × Int × Int × (List Int) × (List Int) → Option (Int × (List Int) × (List Int))) : Nat → List GS := fun k => tabOf k [(50, [{ gf_Check_g N with F := f0 }]), (72, [{ slices_Clone_byte_byte_g N with F := f1 }]), (64, [{ gf_own_g N with F := f2 }]), (63, [{ gf_clear2_g N with F := f3 }])]
theorem gf_Solve_CE (N : Nat) : gf_Solve_CA N (gf_Check) (slices_Clone_byte_byte) (gf_own) (gf_clear2 N) = gf_Solve_C N := by kernel_rfl
theorem gf_Solve_t (N : Nat) : TabC Try.prog (gf_Solve_C N) := tab_ok ⟨⟨gf_Check_ok N, trivial⟩, ⟨slices_Clone_byte_byte_ok N, trivial⟩, ⟨gf_own_ok N, trivial⟩, ⟨gf_clear2_ok N, trivial⟩, trivial⟩
theorem gf_Solve_i : loopsOf gf_Solve_c = [] := by kernel_rfl
noncomputable def gf_Solve_a (N : Nat) (f0 : Int × Int × (List Int) → Option (Int)) (f1 : (List Int) → Option ((List Int))) (f2 : Int × Int × (List Int) → Option (Int × Int × (List Int))) (f3 : Int × Int × Int × Int × (List Int) × (List Int) → Option (Int × (List Int) × (List Int))) (x : Int × Int × (List Int) × (List Int)) : Option (Int × (List Int)) :=
  (Option.bind (f0 (x.1, x.2.1, x.2.2.1)) fun r1 =>
  (cond (!(decide (r1 = (0 : Int))))
  (some (r1, ([] : List Int)))
  (Option.bind
  (cond (!(decide (x.1 = x.2.1)))
  (some true)
  (some (!(decide ((((List.length x.2.2.2) : Nat) : Int) = x.1)))))
  fun r6 =>
  (cond r6
  (some ((23 : Int), ([] : List Int)))
  (Option.bind (f1 x.2.2.2) fun r7 =>
  (Option.bind (f2 (x.1, x.2.1, x.2.2.1)) fun r8 =>
  (Option.bind (f3 (r8.1, r8.2.1, x.1, (1 : Int), r8.2.2, r7)) fun r9 =>
  (cond (decide (r9.1 < x.1))
  (some ((22 : Int), ([] : List Int)))
  (some ((0 : Int), r9.2.2))))))))))
theorem gf_Solve_f (N : Nat) (f0 : Int × Int × (List Int) → Option (Int)) (f1 : (List Int) → Option ((List Int))) (f2 : Int × Int × (List Int) → Option (Int × Int × (List Int))) (f3 : Int × Int × Int × Int × (List Int) × (List Int) → Option (Int × (List Int) × (List Int))) (x) : gf_Solve_a N f0 f1 f2 f3 x = fnStep Γ (gf_Solve_CA N f0 f1 f2 f3) (gf_Solve_J N) 39 Try.f54.results.toList (gf_Solve_g N) gf_Solve_o gf_Solve_c x := by kernel_rfl
theorem gf_Solve_e (N : Nat) (x) : (gf_Solve_g N).F x = fnStep Γ (gf_Solve_C N) (gf_Solve_J N) 39 Try.f54.results.toList (gf_Solve_g N) gf_Solve_o gf_Solve_c x := by
  rw [← gf_Solve_CE N]
  exact Eq.trans (by kernel_rfl) (gf_Solve_f N (gf_Check) (slices_Clone_byte_byte) (gf_own) (gf_clear2 N) x)
theorem gf_Solve_y : Try.f54.body = some gf_Solve_c := by kernel_rfl
theorem gf_Solve_n : (Try.f54.name == "runtime.NumGoroutine") = false := by kernel_rfl
theorem gf_Solve_ok (N : Nat) : FnDoes Try.prog 54 (gf_Solve_g N) := fn_ok tabOK (gf_Solve_t N) mixedOK (J := gf_Solve_J N) (body := gf_Solve_c) Try.func54 gf_Solve_y gf_Solve_n Try.ntmps54 (jok_from gf_Solve_i ⟨trivial, trivial⟩) rfl rfl (le_of_ble rfl) (gf_Solve_e N)
noncomputable def granaryref02_Product_v1_c : Code := codeOf Try.f48.body
noncomputable def granaryref02_Product_v1_c0 : Code := codeOf (getLoop 0 granaryref02_Product_v1_c)
noncomputable def granaryref02_Product_v1_c2 : Code := codeOf (getLoop 2 granaryref02_Product_v1_c)
noncomputable def granaryref02_Product_v1_c4 : Code := codeOf (getLoop 4 granaryref02_Product_v1_c)
def granaryref02_Product_v1_d4 : LD := { ins := ⟨[(2, (.av (.one (.const (.ptr ⟨0, 0, 0, 0⟩))))), (3, (.av (.one (.const (.ptr ⟨3, 0, 0, 0⟩))))), (4, (.av (.one (.const (.ptr ⟨6, 0, 0, 0⟩))))), (7, (.av (.one (.const (.ptr ⟨10, 0, 0, 0⟩))))), (8, (.av (.one (.int .i64)))), (9, (.av (.one (.int .i64)))), (10, (.av (.one (.int .i64))))], [(.sh (.one (.int .i64)), true), (.sh (.one (.int .i64)), true), (.sh (.one (.rsl (.int .u8))), false), (.sh (.one (.int .i64)), true), (.sh (.one (.int .i64)), true), (.sh (.one (.rsl (.int .u8))), false), (.keep, false), (.keep, false), (.keep, false), (.sh (.arr (.int .u8) none), false), (.sh (.one (.int .i64)), true), (.sh (.one (.int .i64)), true), (.sh (.one (.const (.slw 9 1))), false)]⟩, mov := [], wr := [0, 1, 2, 3, 4, 5, 9, 10, 11, 12], outs := [(.exit 4, ⟨[], [(.sh (.one (.int .i64)), true), (.sh (.one (.int .i64)), true), (.sh (.one (.rsl (.int .u8))), false), (.sh (.one (.int .i64)), true), (.sh (.one (.int .i64)), true), (.sh (.one (.rsl (.int .u8))), false), (.keep, false), (.keep, false), (.keep, false), (.sh (.arr (.int .u8) none), false), (.sh (.one (.int .i64)), true), (.sh (.one (.int .i64)), true), (.sh (.one (.const (.slw 9 1))), false)]⟩)], its := [.int, .int, .int, .int, .int, .lst (.int .u8), .int, .int, .lst (.int .u8), .lst (.int .u8), .int, .int], ots := [[.int, .int, .lst (.int .u8), .int, .int, .lst (.int .u8), .lst (.int .u8), .int, .int]] }
def granaryref02_Product_v1_d2 : LD := { ins := ⟨[(2, (.av (.one (.const (.ptr ⟨0, 0, 0, 0⟩))))), (3, (.av (.one (.const (.ptr ⟨3, 0, 0, 0⟩))))), (4, (.av (.one (.const (.ptr ⟨6, 0, 0, 0⟩))))), (7, (.av (.one (.const (.ptr ⟨10, 0, 0, 0⟩))))), (8, (.av (.one (.int .i64)))), (9, (.av (.one (.int .i64))))], [(.sh (.one (.int .i64)), true), (.sh (.one (.int .i64)), true), (.sh (.one (.rsl (.int .u8))), false), (.sh (.one (.int .i64)), true), (.sh (.one (.int .i64)), true), (.sh (.one (.rsl (.int .u8))), false), (.keep, false), (.keep, false), (.keep, false), (.sh (.arr (.int .u8) none), false), (.sh (.one (.int .i64)), true), (.sh (.one (.int .i64)), true), (.sh (.one (.const (.slw 9 1))), false)]⟩, mov := [], wr := [0, 1, 2, 3, 4, 5, 9, 10, 11, 12], outs := [(.exit 2, ⟨[], [(.sh (.one (.int .i64)), true), (.sh (.one (.int .i64)), true), (.sh (.one (.rsl (.int .u8))), false), (.sh (.one (.int .i64)), true), (.sh (.one (.int .i64)), true), (.sh (.one (.rsl (.int .u8))), false), (.keep, false), (.keep, false), (.keep, false), (.sh (.arr (.int .u8) none), false), (.sh (.one (.int .i64)), true), (.sh (.one (.int .i64)), true), (.sh (.one (.const (.slw 9 1))), false)]⟩)], its := [.int, .int, .int, .int, .lst (.int .u8), .int, .int, .lst (.int .u8), .lst (.int .u8), .int, .int], ots := [[.int, .int, .lst (.int .u8), .int, .int, .lst (.int .u8), .lst (.int .u8), .int, .int]] }
def granaryref02_Product_v1_d0 : LD := { ins := ⟨[(2, (.av (.one (.const (.ptr ⟨0, 0, 0, 0⟩))))), (3, (.av (.one (.const (.ptr ⟨3, 0, 0, 0⟩))))), (4, (.av (.one (.const (.ptr ⟨6, 0, 0, 0⟩))))), (7, (.av (.one (.const (.ptr ⟨10, 0, 0, 0⟩))))), (8, (.av (.one (.int .i64))))], [(.sh (.one (.int .i64)), true), (.sh (.one (.int .i64)), true), (.sh (.one (.rsl (.int .u8))), false), (.sh (.one (.int .i64)), true), (.sh (.one (.int .i64)), true), (.sh (.one (.rsl (.int .u8))), false), (.keep, false), (.keep, false), (.keep, false), (.sh (.arr (.int .u8) none), false), (.sh (.one (.int .i64)), true), (.sh (.one (.int .i64)), true), (.sh (.one (.const (.slw 9 1))), false)]⟩, mov := [], wr := [0, 1, 2, 3, 4, 5, 9, 10, 11, 12], outs := [(.exit 0, ⟨[], [(.sh (.one (.int .i64)), true), (.sh (.one (.int .i64)), true), (.sh (.one (.rsl (.int .u8))), false), (.sh (.one (.int .i64)), true), (.sh (.one (.int .i64)), true), (.sh (.one (.rsl (.int .u8))), false), (.keep, false), (.keep, false), (.keep, false), (.sh (.arr (.int .u8) none), false), (.sh (.one (.int .i64)), true), (.sh (.one (.int .i64)), true), (.sh (.one (.const (.slw 9 1))), false)]⟩)], its := [.int, .int, .int, .lst (.int .u8), .int, .int, .lst (.int .u8), .lst (.int .u8), .int, .int], ots := [[.int, .int, .lst (.int .u8), .int, .int, .lst (.int .u8), .lst (.int .u8), .int, .int]] }
noncomputable def granaryref02_Product_v1_J (N : Nat) : Nat → Hint := fun cx => hintOf cx [(0, { reg := fun k => assoc0 k [], cnd := fun k => assoc0 k [], loop := fun k => assoc0 k [(4, ⟨granaryref02_Product_v1_d4, loopF (granaryref02_Product_v1_b4 N) N⟩), (2, ⟨granaryref02_Product_v1_d2, loopF (granaryref02_Product_v1_b2 N) N⟩), (0, ⟨granaryref02_Product_v1_d0, loopF (granaryref02_Product_v1_b0 N) N⟩)], nil := fun k => assoc0 k [], unr := fun k => assocN k [], blk := fun k => assoc0 k [] })]
noncomputable def granaryref02_Product_v1_C (N : Nat) : Nat → List GS := fun k => tabOf k [(69, [granaryref02_both_g N]), (60, [granaryref02_New_g N]), (70, [granaryref02_At_g N]), (27, [granaryref02_Mul_g N])]
def granaryref02_Product_v1_o : List (Shp × List Nat) := [(⟨[(0, (.tup [(.agg [(.one (.int .i64)), (.one (.int .i64)), (.one (.const (.slw 0 1)))]), (.one (.int .i64))]))], [(.sh (.arr (.int .u8) none), false)]⟩, [])]
noncomputable def granaryref02_Product_v1_g (N : Nat) : GS := { ins := ⟨[(0, (.av (.agg [(.one (.int .i64)), (.one (.int .i64)), (.one (.rsl (.int .u8)))]))), (1, (.av (.agg [(.one (.int .i64)), (.one (.int .i64)), (.one (.rsl (.int .u8)))])))], []⟩, lend := [.agg [none, none, some (.int .u8)], .keep], outs := granaryref02_Product_v1_o.map fun s => ssOf s.1, its := [.int, .int, .lst (.int .u8), .int, .int, .lst (.int .u8)], ots := [[.int, .int, .int, .lst (.int .u8)]], F := granaryref02_Product_v1 N }
noncomputable def granaryref02_Product_v1_CA (N : Nat) (f0 : Int × Int × (List Int) × Int × Int × (List Int) → Option (Int)) (f1 : Int × Int → Option (Int × Int × (List Int))) (f2 : Int × Int × (List Int) × Int × Int → Option (Int)) (f3 : Int × Int → Option (Int)) : Nat → List GS := fun k => tabOf k [(69, [{ granaryref02_both_g N with F := f0 }]), (60, [{ granaryref02_New_g N with F := f1 }]), (70, [{ granaryref02_At_g N with F := f2 }]), (27, [{ granaryref02_Mul_g N with F := f3 }])]
theorem granaryref02_Product_v1_CE (N : Nat) : granaryref02_Product_v1_CA N (granaryref02_both) (granaryref02_New) (granaryref02_At) (granaryref02_Mul N) = granaryref02_Product_v1_C N := by kernel_rfl
theorem granaryref02_Product_v1_t (N : Nat) : TabC Try.prog (granaryref02_Product_v1_C N) := tab_ok ⟨⟨granaryref02_both_ok N, trivial⟩, ⟨granaryref02_New_ok N, trivial⟩, ⟨granaryref02_At_ok N, trivial⟩, ⟨granaryref02_Mul_ok N, trivial⟩, trivial⟩
theorem granaryref02_Product_v1_i4 : loopsOf granaryref02_Product_v1_c4 = [] := by kernel_rfl
noncomputable def granaryref02_Product_v1_a4 (N : Nat) (f0 : Int × Int × (List Int) × Int × Int × (List Int) → Option (Int)) (f1 : Int × Int → Option (Int × Int × (List Int))) (f2 : Int × Int × (List Int) × Int × Int → Option (Int)) (f3 : Int × Int → Option (Int)) (next : Int × Int × Int × Int × Int × (List Int) × Int × Int × (List Int) × (List Int) × Int × Int → Option ((Int × Int × (List Int) × Int × Int × (List Int) × (List Int) × Int × Int))) (x : Int × Int × Int × Int × Int × (List Int) × Int × Int × (List Int) × (List Int) × Int × Int) : Option ((Int × Int × (List Int) × Int × Int × (List Int) × (List Int) × Int × Int)) :=
  (cond (decide (x.2.2.1 < x.2.2.2.2.1))
  (let v3 : Int := (wrapF .i64 ((wrapF .i64 (x.1 * x.2.2.2.2.2.2.2.1)) + x.2.1))
  (let v5 : Int := (wrapF .i64 ((wrapF .i64 (x.1 * x.2.2.2.2.2.2.2.1)) + x.2.1))
  (cond ((decide ((0 : Int) ≤ v5)) && (decide (v5 < (((List.length x.2.2.2.2.2.2.2.2.2.1) : Nat) : Int))))
  ((let v6 : Nat := (Int.toNat v5)
  (cond (decide (v6 < (List.length x.2.2.2.2.2.2.2.2.2.1)))
  ((Option.bind (f2 (x.2.2.2.1, x.2.2.2.2.1, x.2.2.2.2.2.1, x.1, x.2.2.1)) fun r8 =>
  (Option.bind (f2 (x.2.2.2.2.2.2.1, x.2.2.2.2.2.2.2.1, x.2.2.2.2.2.2.2.2.1, x.2.2.1, x.2.1)) fun r9 =>
  (Option.bind (f3 (r8, r9)) fun r10 =>
  (cond ((decide ((0 : Int) ≤ v3)) && (decide (v3 < (((List.length x.2.2.2.2.2.2.2.2.2.1) : Nat) : Int))))
  ((let v12 : Nat := (Int.toNat v3)
  (cond (decide (v12 < (List.length x.2.2.2.2.2.2.2.2.2.1)))
  ((next (x.1, x.2.1, (wrapF .i64 (x.2.2.1 + (1 : Int))), x.2.2.2.1, x.2.2.2.2.1, x.2.2.2.2.2.1, x.2.2.2.2.2.2.1, x.2.2.2.2.2.2.2.1, x.2.2.2.2.2.2.2.2.1, (List.set x.2.2.2.2.2.2.2.2.2.1 v12 (xorF .u8 (List.getD x.2.2.2.2.2.2.2.2.2.1 v6 (EK.dflt (.int .u8))) r10)), x.2.2.2.2.2.2.2.2.2.2.1, x.2.2.2.2.2.2.2.2.2.2.2)))
  none)))
  none)))))
  none)))
  none)))
  (some (x.2.2.2.1, x.2.2.2.2.1, x.2.2.2.2.2.1, x.2.2.2.2.2.2.1, x.2.2.2.2.2.2.2.1, x.2.2.2.2.2.2.2.2.1, x.2.2.2.2.2.2.2.2.2.1, x.2.2.2.2.2.2.2.2.2.2.1, x.2.2.2.2.2.2.2.2.2.2.2)))
theorem granaryref02_Product_v1_f4 (N : Nat) (f0 : Int × Int × (List Int) × Int × Int × (List Int) → Option (Int)) (f1 : Int × Int → Option (Int × Int × (List Int))) (f2 : Int × Int × (List Int) × Int × Int → Option (Int)) (f3 : Int × Int → Option (Int)) (next) (x) : granaryref02_Product_v1_a4 N f0 f1 f2 f3 next x = loopStep Γ (granaryref02_Product_v1_CA N f0 f1 f2 f3) (granaryref02_Product_v1_J N) 0 77 granaryref02_Product_v1_d4 granaryref02_Product_v1_c4 next x := by kernel_rfl
theorem granaryref02_Product_v1_e4 (N : Nat) (next) (x) : granaryref02_Product_v1_b4 N next x = loopStep Γ (granaryref02_Product_v1_C N) (granaryref02_Product_v1_J N) 0 77 granaryref02_Product_v1_d4 granaryref02_Product_v1_c4 next x := by
  rw [← granaryref02_Product_v1_CE N]
  exact Eq.trans (by kernel_rfl) (granaryref02_Product_v1_f4 N (granaryref02_both) (granaryref02_New) (granaryref02_At) (granaryref02_Mul N) next x)
theorem granaryref02_Product_v1_k4 (N : Nat) : LoopOK Try.prog 77 granaryref02_Product_v1_c4 ⟨granaryref02_Product_v1_d4, loopF (granaryref02_Product_v1_b4 N) N⟩ := loop_ok tabOK (granaryref02_Product_v1_t N) mixedOK (J := granaryref02_Product_v1_J N) (cx := 0) (body := granaryref02_Product_v1_c4) (nt := 77) (l := granaryref02_Product_v1_d4) (b := granaryref02_Product_v1_b4 N) (jok_from granaryref02_Product_v1_i4 ⟨trivial, trivial⟩) (granaryref02_Product_v1_e4 N) N
theorem granaryref02_Product_v1_i2 : loopsOf granaryref02_Product_v1_c2 = [(4, granaryref02_Product_v1_c4)] := by kernel_rfl
noncomputable def granaryref02_Product_v1_a2 (N : Nat) (f0 : Int × Int × (List Int) × Int × Int × (List Int) → Option (Int)) (f1 : Int × Int → Option (Int × Int × (List Int))) (f2 : Int × Int × (List Int) × Int × Int → Option (Int)) (f3 : Int × Int → Option (Int)) (next : Int × Int × Int × Int × (List Int) × Int × Int × (List Int) × (List Int) × Int × Int → Option ((Int × Int × (List Int) × Int × Int × (List Int) × (List Int) × Int × Int))) (x : Int × Int × Int × Int × (List Int) × Int × Int × (List Int) × (List Int) × Int × Int) : Option ((Int × Int × (List Int) × Int × Int × (List Int) × (List Int) × Int × Int)) :=
  (cond (decide (x.2.1 < x.2.2.2.2.2.2.1))
  (Option.bind (granaryref02_Product_v1_l4 N (x.1, x.2.1, (0 : Int), x.2.2.1, x.2.2.2.1, x.2.2.2.2.1, x.2.2.2.2.2.1, x.2.2.2.2.2.2.1, x.2.2.2.2.2.2.2.1, x.2.2.2.2.2.2.2.2.1, x.2.2.2.2.2.2.2.2.2.1, x.2.2.2.2.2.2.2.2.2.2)) fun r2 =>
  (next (x.1, (wrapF .i64 (x.2.1 + (1 : Int))), r2.1, r2.2.1, r2.2.2.1, r2.2.2.2.1, r2.2.2.2.2.1, r2.2.2.2.2.2.1, r2.2.2.2.2.2.2.1, r2.2.2.2.2.2.2.2.1, r2.2.2.2.2.2.2.2.2)))
  (some (x.2.2.1, x.2.2.2.1, x.2.2.2.2.1, x.2.2.2.2.2.1, x.2.2.2.2.2.2.1, x.2.2.2.2.2.2.2.1, x.2.2.2.2.2.2.2.2.1, x.2.2.2.2.2.2.2.2.2.1, x.2.2.2.2.2.2.2.2.2.2)))
theorem granaryref02_Product_v1_f2 (N : Nat) (f0 : Int × Int × (List Int) × Int × Int × (List Int) → Option (Int)) (f1 : Int × Int → Option (Int × Int × (List Int))) (f2 : Int × Int × (List Int) × Int × Int → Option (Int)) (f3 : Int × Int → Option (Int)) (next) (x) : granaryref02_Product_v1_a2 N f0 f1 f2 f3 next x = loopStep Γ (granaryref02_Product_v1_CA N f0 f1 f2 f3) (granaryref02_Product_v1_J N) 0 77 granaryref02_Product_v1_d2 granaryref02_Product_v1_c2 next x := by kernel_rfl
theorem granaryref02_Product_v1_e2 (N : Nat) (next) (x) : granaryref02_Product_v1_b2 N next x = loopStep Γ (granaryref02_Product_v1_C N) (granaryref02_Product_v1_J N) 0 77 granaryref02_Product_v1_d2 granaryref02_Product_v1_c2 next x := by
  rw [← granaryref02_Product_v1_CE N]
  exact Eq.trans (by kernel_rfl) (granaryref02_Product_v1_f2 N (granaryref02_both) (granaryref02_New) (granaryref02_At) (granaryref02_Mul N) next x)
theorem granaryref02_Product_v1_k2 (N : Nat) : LoopOK Try.prog 77 granaryref02_Product_v1_c2 ⟨granaryref02_Product_v1_d2, loopF (granaryref02_Product_v1_b2 N) N⟩ := loop_ok tabOK (granaryref02_Product_v1_t N) mixedOK (J := granaryref02_Product_v1_J N) (cx := 0) (body := granaryref02_Product_v1_c2) (nt := 77) (l := granaryref02_Product_v1_d2) (b := granaryref02_Product_v1_b2 N) (jok_from granaryref02_Product_v1_i2 ⟨⟨.inr ⟨_, rfl, granaryref02_Product_v1_k4 N⟩, trivial⟩, trivial⟩) (granaryref02_Product_v1_e2 N) N
theorem granaryref02_Product_v1_i0 : loopsOf granaryref02_Product_v1_c0 = [(2, granaryref02_Product_v1_c2), (4, granaryref02_Product_v1_c4)] := by kernel_rfl
noncomputable def granaryref02_Product_v1_a0 (N : Nat) (f0 : Int × Int × (List Int) × Int × Int × (List Int) → Option (Int)) (f1 : Int × Int → Option (Int × Int × (List Int))) (f2 : Int × Int × (List Int) × Int × Int → Option (Int)) (f3 : Int × Int → Option (Int)) (next : Int × Int × Int × (List Int) × Int × Int × (List Int) × (List Int) × Int × Int → Option ((Int × Int × (List Int) × Int × Int × (List Int) × (List Int) × Int × Int))) (x : Int × Int × Int × (List Int) × Int × Int × (List Int) × (List Int) × Int × Int) : Option ((Int × Int × (List Int) × Int × Int × (List Int) × (List Int) × Int × Int)) :=
  (cond (decide (x.1 < x.2.1))
  (Option.bind (granaryref02_Product_v1_l2 N (x.1, (0 : Int), x.2.1, x.2.2.1, x.2.2.2.1, x.2.2.2.2.1, x.2.2.2.2.2.1, x.2.2.2.2.2.2.1, x.2.2.2.2.2.2.2.1, x.2.2.2.2.2.2.2.2.1, x.2.2.2.2.2.2.2.2.2)) fun r2 =>
  (next ((wrapF .i64 (x.1 + (1 : Int))), r2.1, r2.2.1, r2.2.2.1, r2.2.2.2.1, r2.2.2.2.2.1, r2.2.2.2.2.2.1, r2.2.2.2.2.2.2.1, r2.2.2.2.2.2.2.2.1, r2.2.2.2.2.2.2.2.2)))
  (some (x.2.1, x.2.2.1, x.2.2.2.1, x.2.2.2.2.1, x.2.2.2.2.2.1, x.2.2.2.2.2.2.1, x.2.2.2.2.2.2.2.1, x.2.2.2.2.2.2.2.2.1, x.2.2.2.2.2.2.2.2.2)))
theorem granaryref02_Product_v1_f0 (N : Nat) (f0 : Int × Int × (List Int) × Int × Int × (List Int) → Option (Int)) (f1 : Int × Int → Option (Int × Int × (List Int))) (f2 : Int × Int × (List Int) × Int × Int → Option (Int)) (f3 : Int × Int → Option (Int)) (next) (x) : granaryref02_Product_v1_a0 N f0 f1 f2 f3 next x = loopStep Γ (granaryref02_Product_v1_CA N f0 f1 f2 f3) (granaryref02_Product_v1_J N) 0 77 granaryref02_Product_v1_d0 granaryref02_Product_v1_c0 next x := by kernel_rfl
theorem granaryref02_Product_v1_e0 (N : Nat) (next) (x) : granaryref02_Product_v1_b0 N next x = loopStep Γ (granaryref02_Product_v1_C N) (granaryref02_Product_v1_J N) 0 77 granaryref02_Product_v1_d0 granaryref02_Product_v1_c0 next x := by
  rw [← granaryref02_Product_v1_CE N]
  exact Eq.trans (by kernel_rfl) (granaryref02_Product_v1_f0 N (granaryref02_both) (granaryref02_New) (granaryref02_At) (granaryref02_Mul N) next x)
theorem granaryref02_Product_v1_k0 (N : Nat) : LoopOK Try.prog 77 granaryref02_Product_v1_c0 ⟨granaryref02_Product_v1_d0, loopF (granaryref02_Product_v1_b0 N) N⟩ := loop_ok tabOK (granaryref02_Product_v1_t N) mixedOK (J := granaryref02_Product_v1_J N) (cx := 0) (body := granaryref02_Product_v1_c0) (nt := 77) (l := granaryref02_Product_v1_d0) (b := granaryref02_Product_v1_b0 N) (jok_from granaryref02_Product_v1_i0 ⟨⟨.inr ⟨_, rfl, granaryref02_Product_v1_k2 N⟩, .inr ⟨_, rfl, granaryref02_Product_v1_k4 N⟩, trivial⟩, trivial⟩) (granaryref02_Product_v1_e0 N) N
theorem granaryref02_Product_v1_i : loopsOf granaryref02_Product_v1_c = [(0, granaryref02_Product_v1_c0), (2, granaryref02_Product_v1_c2), (4, granaryref02_Product_v1_c4)] := by kernel_rfl
noncomputable def granaryref02_Product_v1_a (N : Nat) (f0 : Int × Int × (List Int) × Int × Int × (List Int) → Option (Int)) (f1 : Int × Int → Option (Int × Int × (List Int))) (f2 : Int × Int × (List Int) × Int × Int → Option (Int)) (f3 : Int × Int → Option (Int)) (x : Int × Int × (List Int) × Int × Int × (List Int)) : Option (Int × Int × Int × (List Int)) :=
  (Option.bind (f0 (x.1, x.2.1, x.2.2.1, x.2.2.2.1, x.2.2.2.2.1, x.2.2.2.2.2)) fun r1 =>
  (cond (!(decide (r1 = (0 : Int))))
  (some ((0 : Int), (0 : Int), r1, ([] : List Int)))
  (cond (!(decide (x.2.1 = x.2.2.2.1)))
  (some ((0 : Int), (0 : Int), (23 : Int), ([] : List Int)))
  (Option.bind (f1 (x.1, x.2.2.2.2.1)) fun r4 =>
  (Option.bind (granaryref02_Product_v1_l0 N ((0 : Int), x.1, x.2.1, x.2.2.1, x.2.2.2.1, x.2.2.2.2.1, x.2.2.2.2.2, r4.2.2, r4.1, r4.2.1)) fun r5 =>
  (some (r5.2.2.2.2.2.2.2.1, r5.2.2.2.2.2.2.2.2, (0 : Int), r5.2.2.2.2.2.2.1)))))))
theorem granaryref02_Product_v1_f (N : Nat) (f0 : Int × Int × (List Int) × Int × Int × (List Int) → Option (Int)) (f1 : Int × Int → Option (Int × Int × (List Int))) (f2 : Int × Int × (List Int) × Int × Int → Option (Int)) (f3 : Int × Int → Option (Int)) (x) : granaryref02_Product_v1_a N f0 f1 f2 f3 x = fnStep Γ (granaryref02_Product_v1_CA N f0 f1 f2 f3) (granaryref02_Product_v1_J N) 77 Try.f48.results.toList (granaryref02_Product_v1_g N) granaryref02_Product_v1_o granaryref02_Product_v1_c x := by kernel_rfl
theorem granaryref02_Product_v1_e (N : Nat) (x) : (granaryref02_Product_v1_g N).F x = fnStep Γ (granaryref02_Product_v1_C N) (granaryref02_Product_v1_J N) 77 Try.f48.results.toList (granaryref02_Product_v1_g N) granaryref02_Product_v1_o granaryref02_Product_v1_c x := by
  rw [← granaryref02_Product_v1_CE N]
  exact Eq.trans (by kernel_rfl) (granaryref02_Product_v1_f N (granaryref02_both) (granaryref02_New) (granaryref02_At) (granaryref02_Mul N) x)
theorem granaryref02_Product_v1_y : Try.f48.body = some granaryref02_Product_v1_c := by kernel_rfl
theorem granaryref02_Product_v1_n : (Try.f48.name == "runtime.NumGoroutine") = false := by kernel_rfl
theorem granaryref02_Product_v1_ok (N : Nat) : FnDoes Try.prog 48 (granaryref02_Product_v1_g N) := fn_ok tabOK (granaryref02_Product_v1_t N) mixedOK (J := granaryref02_Product_v1_J N) (body := granaryref02_Product_v1_c) Try.func48 granaryref02_Product_v1_y granaryref02_Product_v1_n Try.ntmps48 (jok_from granaryref02_Product_v1_i ⟨⟨.inr ⟨_, rfl, granaryref02_Product_v1_k0 N⟩, .inr ⟨_, rfl, granaryref02_Product_v1_k2 N⟩, .inr ⟨_, rfl, granaryref02_Product_v1_k4 N⟩, trivial⟩, trivial⟩) rfl rfl (le_of_ble rfl) (granaryref02_Product_v1_e N)
noncomputable def granaryref02_Solve_c : Code := codeOf Try.f55.body
noncomputable def granaryref02_Solve_J (N : Nat) : Nat → Hint := fun cx => hintOf cx [(0, { reg := fun k => assoc0 k [(4, ⟨⟨[(27, (.av (.one .bool)))], [(.keep, true), (.keep, true), (.keep, false)]⟩, [], [], [.bool]⟩)], cnd := fun k => assoc0 k [], loop := fun k => assoc0 k [], nil := fun k => assoc0 k [], unr := fun k => assocN k [], blk := fun k => assoc0 k [] })]
noncomputable def granaryref02_Solve_C (N : Nat) : Nat → List GS := fun k => tabOf k [(32, [granaryref02_Check_g N]), (49, [granaryref02_Inverse_g N]), (48, [granaryref02_Product_v1_g N])]
def granaryref02_Solve_o : List (Shp × List Nat) := [(⟨[(0, (.tup [(.one (.const (.slw 0 1))), (.one (.int .i64))]))], [(.sh (.arr (.int .u8) none), false)]⟩, [])]
noncomputable def granaryref02_Solve_g (N : Nat) : GS := { ins := ⟨[(0, (.av (.agg [(.one (.int .i64)), (.one (.int .i64)), (.one (.rsl (.int .u8)))]))), (1, (.av (.one (.rsl (.int .u8)))))], []⟩, lend := [.keep, .keep], outs := granaryref02_Solve_o.map fun s => ssOf s.1, its := [.int, .int, .lst (.int .u8), .lst (.int .u8)], ots := [[.int, .lst (.int .u8)]], F := granaryref02_Solve N }
noncomputable def granaryref02_Solve_CA (N : Nat) (f0 : Int × Int × (List Int) → Option (Int)) (f1 : Int × Int × (List Int) → Option (Int × Int × Int × (List Int))) (f2 : Int × Int × (List Int) × Int × Int × (List Int) → Option (Int × Int × Int × (List Int))) : Nat → List GS := fun k => tabOf k [(32, [{ granaryref02_Check_g N with F := f0 }]), (49, [{ granaryref02_Inverse_g N with F := f1 }]), (48, [{ granaryref02_Product_v1_g N with F := f2 }])]
theorem granaryref02_Solve_CE (N : Nat) : granaryref02_Solve_CA N (granaryref02_Check) (granaryref02_Inverse N) (granaryref02_Product_v1 N) = granaryref02_Solve_C N := by kernel_rfl
theorem granaryref02_Solve_t (N : Nat) : TabC Try.prog (granaryref02_Solve_C N) := tab_ok ⟨⟨granaryref02_Check_ok N, trivial⟩, ⟨granaryref02_Inverse_ok N, trivial⟩, ⟨granaryref02_Product_v1_ok N, trivial⟩, trivial⟩
theorem granaryref02_Solve_i : loopsOf granaryref02_Solve_c = [] := by kernel_rfl
noncomputable def granaryref02_Solve_a (N : Nat) (f0 : Int × Int × (List Int) → Option (Int)) (f1 : Int × Int × (List Int) → Option (Int × Int × Int × (List Int))) (f2 : Int × Int × (List Int) × Int × Int × (List Int) → Option (Int × Int × Int × (List Int))) (x : Int × Int × (List Int) × (List Int)) : Option (Int × (List Int)) :=
  (Option.bind (f0 (x.1, x.2.1, x.2.2.1)) fun r1 =>
  (cond (!(decide (r1 = (0 : Int))))
  (some (r1, ([] : List Int)))
  (Option.bind
  (cond (!(decide (x.1 = x.2.1)))
  (some true)
  (some (!(decide ((((List.length x.2.2.2) : Nat) : Int) = x.1)))))
  fun r6 =>
  (cond r6
  (some ((23 : Int), ([] : List Int)))
  (Option.bind (f1 (x.1, x.2.1, x.2.2.1)) fun r7 =>
  (cond (!(decide (r7.2.2.1 = (0 : Int))))
  (some (r7.2.2.1, ([] : List Int)))
  (Option.bind (f2 (r7.1, r7.2.1, r7.2.2.2, (((List.length x.2.2.2) : Nat) : Int), (1 : Int), x.2.2.2)) fun r10 =>
  (some ((0 : Int), r10.2.2.2)))))))))
theorem granaryref02_Solve_f (N : Nat) (f0 : Int × Int × (List Int) → Option (Int)) (f1 : Int × Int × (List Int) → Option (Int × Int × Int × (List Int))) (f2 : Int × Int × (List Int) × Int × Int × (List Int) → Option (Int × Int × Int × (List Int))) (x) : granaryref02_Solve_a N f0 f1 f2 x = fnStep Γ (granaryref02_Solve_CA N f0 f1 f2) (granaryref02_Solve_J N) 47 Try.f55.results.toList (granaryref02_Solve_g N) granaryref02_Solve_o granaryref02_Solve_c x := by kernel_rfl
theorem granaryref02_Solve_e (N : Nat) (x) : (granaryref02_Solve_g N).F x = fnStep Γ (granaryref02_Solve_C N) (granaryref02_Solve_J N) 47 Try.f55.results.toList (granaryref02_Solve_g N) granaryref02_Solve_o granaryref02_Solve_c x := by
  rw [← granaryref02_Solve_CE N]
  exact Eq.trans (by kernel_rfl) (granaryref02_Solve_f N (granaryref02_Check) (granaryref02_Inverse N) (granaryref02_Product_v1 N) x)
theorem granaryref02_Solve_y : Try.f55.body = some granaryref02_Solve_c := by kernel_rfl
theorem granaryref02_Solve_n : (Try.f55.name == "runtime.NumGoroutine") = false := by kernel_rfl
theorem granaryref02_Solve_ok (N : Nat) : FnDoes Try.prog 55 (granaryref02_Solve_g N) := fn_ok tabOK (granaryref02_Solve_t N) mixedOK (J := granaryref02_Solve_J N) (body := granaryref02_Solve_c) Try.func55 granaryref02_Solve_y granaryref02_Solve_n Try.ntmps55 (jok_from granaryref02_Solve_i ⟨trivial, trivial⟩) rfl rfl (le_of_ble rfl) (granaryref02_Solve_e N)
end Go.Rf.W
