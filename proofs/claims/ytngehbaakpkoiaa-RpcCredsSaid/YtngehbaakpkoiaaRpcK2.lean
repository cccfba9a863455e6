/-
  The printed functions are what the program does.
-/
import Derived.Test.YtngehbaakpkoiaaRpcK1
set_option linter.unusedVariables false
set_option maxRecDepth 100000
namespace Go.Rf.W
open Go Go.Rf Go.Proofs
noncomputable def granaryref01_Reader_bytes_c : Code := codeOf Try.f90.body
noncomputable def granaryref01_Reader_bytes_c0 : Code := codeOf (getLoop 0 granaryref01_Reader_bytes_c)
def granaryref01_Reader_bytes_d0 : LD := { ins := ⟨[(0, (.av (.one (.const (.ptr ⟨0, 0, 0, 0⟩))))), (1, (.av (.one (.int .i64)))), (2, (.av (.one (.int .i64)))), (7, (.av (.one (.int .i64)))), (8, (.av (.one (.const (.slw 6 1))))), (9, (.av (.one (.int .i64))))], [(.sh (.one (.const (.slw 4 1))), true), (.sh (.one (.int .i64)), true), (.sh (.one (.int .i64)), true), (.sh (.one (.int .i64)), false), (.sh (.arr (.int .u8) none), false), (.keep, false), (.keep, false)]⟩, mov := [], wr := [0, 1, 2, 3, 4], outs := [(.ret, ⟨[(6, (.av (.one (.const .nils))))], [(.sh (.one (.const (.slw 4 1))), true), (.sh (.one (.int .i64)), true), (.sh (.one (.int .i64)), true), (.sh (.one (.int .i64)), false), (.sh (.arr (.int .u8) none), false), (.keep, false), (.keep, false)]⟩), (.exit 0, ⟨[], [(.sh (.one (.const (.slw 4 1))), true), (.sh (.one (.int .i64)), true), (.sh (.one (.int .i64)), true), (.sh (.one (.int .i64)), false), (.sh (.arr (.int .u8) none), false), (.keep, false), (.keep, false)]⟩)], its := [.int, .int, .int, .int, .int, .int, .int, .lst (.int .u8)], ots := [[.int, .int, .int, .lst (.int .u8)], [.int, .int, .int, .lst (.int .u8)]] }
noncomputable def granaryref01_Reader_bytes_J (N : Nat) : Nat → Hint := fun cx => hintOf cx [(0, { reg := fun k => assoc0 k [(1, ⟨⟨[(18, (.av (.one .bool)))], [(.keep, true), (.keep, true), (.keep, true), (.keep, false), (.keep, false)]⟩, [], [], [.bool]⟩), (4, ⟨⟨[(34, (.av (.one .bool)))], [(.sh (.one (.const (.slw 4 1))), true), (.sh (.one (.int .i64)), true), (.sh (.one (.int .i64)), true), (.sh (.one (.int .i64)), false), (.sh (.arr (.int .u8) none), false)]⟩, [], [0, 1, 2, 3, 4], [.bool, .int, .int, .int, .lst (.int .u8)]⟩)], cnd := fun k => assoc0 k [], loop := fun k => assoc0 k [(0, ⟨granaryref01_Reader_bytes_d0, loopF (granaryref01_Reader_bytes_b0 N) N⟩)], nil := fun k => assoc0 k [], unr := fun k => assocN k [], blk := fun k => assoc0 k [] })]
noncomputable def granaryref01_Reader_bytes_C (N : Nat) : Nat → List GS := fun k => tabOf k [(82, [granaryref01_Reader_Left_g N]), (83, [granaryref01_Reader_Fail_g N])]
def granaryref01_Reader_bytes_o : List (Shp × List Nat) := [(⟨[(0, (.av (.one (.const (.slw 5 1)))))], [(.sh (.one (.const (.slw 4 1))), true), (.sh (.one (.int .i64)), true), (.sh (.one (.int .i64)), true), (.sh (.one (.int .i64)), false), (.sh (.arr (.int .u8) none), false), (.sh (.arr (.int .u8) none), false)]⟩, [])]
noncomputable def granaryref01_Reader_bytes_g (N : Nat) : GS := { ins := ⟨[(0, (.av (.one (.const (.ptr ⟨0, 0, 0, 0⟩))))), (1, (.av (.one (.int .i64)))), (2, (.av (.one (.int .i64))))], [(some (.one (.const (.slw 4 1))), true), (some (.one (.int .i64)), true), (some (.one (.int .i64)), true), (some (.one (.int .i64)), false), (some (.arr (.int .u8) none), false)]⟩, lend := [.keep, .keep, .keep], outs := granaryref01_Reader_bytes_o.map fun s => ssOf s.1, its := [.int, .int, .int, .int, .int, .lst (.int .u8)], ots := [[.int, .int, .int, .lst (.int .u8), .lst (.int .u8)]], F := granaryref01_Reader_bytes N }
noncomputable def granaryref01_Reader_bytes_CA (N : Nat) (f0 : Int × Int × Int × (List Int) → Option (Int × Int × Int × Int × (List Int))) (f1 : Int × Int × Int × Int × Int × (List Int) → Option (Int × Int × Int × (List Int))) : Nat → List GS := fun k => tabOf k [(82, [{ granaryref01_Reader_Left_g N with F := f0 }]), (83, [{ granaryref01_Reader_Fail_g N with F := f1 }])]
theorem granaryref01_Reader_bytes_CE (N : Nat) : granaryref01_Reader_bytes_CA N (granaryref01_Reader_Left) (granaryref01_Reader_Fail) = granaryref01_Reader_bytes_C N := by kernel_rfl
theorem granaryref01_Reader_bytes_t (N : Nat) : TabC Try.prog (granaryref01_Reader_bytes_C N) := tab_ok ⟨⟨granaryref01_Reader_Left_ok N, trivial⟩, ⟨granaryref01_Reader_Fail_ok N, trivial⟩, trivial⟩
theorem granaryref01_Reader_bytes_i0 : loopsOf granaryref01_Reader_bytes_c0 = [] := by kernel_rfl
noncomputable def granaryref01_Reader_bytes_a0 (N : Nat) (f0 : Int × Int × Int × (List Int) → Option (Int × Int × Int × Int × (List Int))) (f1 : Int × Int × Int × Int × Int × (List Int) → Option (Int × Int × Int × (List Int))) (next : Int × Int × Int × Int × Int × Int × Int × (List Int) → Option ((Int × Int × Int × (List Int)) ⊕ (Int × Int × Int × (List Int)))) (x : Int × Int × Int × Int × Int × Int × Int × (List Int)) : Option ((Int × Int × Int × (List Int)) ⊕ (Int × Int × Int × (List Int))) :=
  (cond (decide (x.2.2.2.1 < x.2.2.1))
  (let v3 : Int := (wrapF .i64 ((wrapF .i64 (x.2.2.2.2.1 + x.1)) + x.2.2.2.1))
  (cond ((decide ((0 : Int) ≤ v3)) && (decide (v3 < (((List.length x.2.2.2.2.2.2.2) : Nat) : Int))))
  ((let v4 : Nat := (Int.toNat v3)
  (cond (decide (v4 < (List.length x.2.2.2.2.2.2.2)))
  ((cond (!(decide ((List.getD x.2.2.2.2.2.2.2 v4 (EK.dflt (.int .u8))) = (0 : Int))))
  (Option.bind (f1 ((11 : Int), x.2.1, x.2.2.2.2.1, x.2.2.2.2.2.1, x.2.2.2.2.2.2.1, x.2.2.2.2.2.2.2)) fun r7 =>
  (some (.inl (r7.1, r7.2.1, r7.2.2.1, r7.2.2.2))))
  (next (x.1, x.2.1, x.2.2.1, (wrapF .i64 (x.2.2.2.1 + (1 : Int))), x.2.2.2.2.1, x.2.2.2.2.2.1, x.2.2.2.2.2.2.1, x.2.2.2.2.2.2.2))))
  none)))
  none))
  (some (.inr ((x.2.2.2.2.1, x.2.2.2.2.2.1, x.2.2.2.2.2.2.1, x.2.2.2.2.2.2.2)))))
theorem granaryref01_Reader_bytes_f0 (N : Nat) (f0 : Int × Int × Int × (List Int) → Option (Int × Int × Int × Int × (List Int))) (f1 : Int × Int × Int × Int × Int × (List Int) → Option (Int × Int × Int × (List Int))) (next) (x) : granaryref01_Reader_bytes_a0 N f0 f1 next x = loopStep Γ (granaryref01_Reader_bytes_CA N f0 f1) (granaryref01_Reader_bytes_J N) 0 90 granaryref01_Reader_bytes_d0 granaryref01_Reader_bytes_c0 next x := by kernel_rfl
theorem granaryref01_Reader_bytes_e0 (N : Nat) (next) (x) : granaryref01_Reader_bytes_b0 N next x = loopStep Γ (granaryref01_Reader_bytes_C N) (granaryref01_Reader_bytes_J N) 0 90 granaryref01_Reader_bytes_d0 granaryref01_Reader_bytes_c0 next x := by
  rw [← granaryref01_Reader_bytes_CE N]
  exact Eq.trans (by kernel_rfl) (granaryref01_Reader_bytes_f0 N (granaryref01_Reader_Left) (granaryref01_Reader_Fail) next x)
theorem granaryref01_Reader_bytes_k0 (N : Nat) : LoopOK Try.prog 90 granaryref01_Reader_bytes_c0 ⟨granaryref01_Reader_bytes_d0, loopF (granaryref01_Reader_bytes_b0 N) N⟩ := loop_ok tabOK (granaryref01_Reader_bytes_t N) mixedOK (J := granaryref01_Reader_bytes_J N) (cx := 0) (body := granaryref01_Reader_bytes_c0) (nt := 90) (l := granaryref01_Reader_bytes_d0) (b := granaryref01_Reader_bytes_b0 N) (jok_from granaryref01_Reader_bytes_i0 ⟨trivial, trivial⟩) (granaryref01_Reader_bytes_e0 N) N
theorem granaryref01_Reader_bytes_i : loopsOf granaryref01_Reader_bytes_c = [(0, granaryref01_Reader_bytes_c0)] := by kernel_rfl
noncomputable def granaryref01_Reader_bytes_a (N : Nat) (f0 : Int × Int × Int × (List Int) → Option (Int × Int × Int × Int × (List Int))) (f1 : Int × Int × Int × Int × Int × (List Int) → Option (Int × Int × Int × (List Int))) (x : Int × Int × Int × Int × Int × (List Int)) : Option (Int × Int × Int × (List Int) × (List Int)) :=
  (Option.bind
  (cond (!(decide (x.2.2.2.1 = (0 : Int))))
  (some true)
  (some (decide (x.1 ≤ (0 : Int)))))
  fun r3 =>
  (cond r3
  (some (x.2.2.1, x.2.2.2.1, x.2.2.2.2.1, x.2.2.2.2.2, ([] : List Int)))
  (let v6 : Int := (Int.tmod (wrapF .i64 ((4 : Int) - (Int.tmod x.1 (4 : Int)))) (4 : Int))
  (Option.bind
  (Option.bind (f0 (x.2.2.1, x.2.2.2.1, x.2.2.2.2.1, x.2.2.2.2.2)) fun r7 =>
  (cond (decide (r7.1 < x.1))
  (some (true, r7.2.1, r7.2.2.1, r7.2.2.2.1, r7.2.2.2.2))
  (Option.bind (f0 (r7.2.1, r7.2.2.1, r7.2.2.2.1, r7.2.2.2.2)) fun r10 =>
  (some ((decide (r10.1 < (wrapF .i64 (x.1 + v6)))), r10.2.1, r10.2.2.1, r10.2.2.2.1, r10.2.2.2.2)))))
  fun r12 =>
  (cond r12.1
  (Option.bind (f1 ((3 : Int), x.2.1, r12.2.1, r12.2.2.1, r12.2.2.2.1, r12.2.2.2.2)) fun r13 =>
  (some (r13.1, r13.2.1, r13.2.2.1, r13.2.2.2, ([] : List Int))))
  (let v15 : Int := (wrapF .i64 (r12.2.1 + x.1))
  (cond (((decide ((0 : Int) ≤ r12.2.1)) && (decide (r12.2.1 ≤ v15))) && (decide (v15 ≤ (((List.length r12.2.2.2.2) : Nat) : Int))))
  ((let v16 : Nat := (Int.toNat r12.2.1)
  (let v17 : Nat := ((Int.toNat v15) - (Int.toNat r12.2.1))
  (cond ((decide ((v16 + v17) ≤ (List.length r12.2.2.2.2))) && (fits 1 (List.length (List.take v17 (List.drop v16 r12.2.2.2.2)))))
  ((Option.bind (granaryref01_Reader_bytes_l0 N (x.1, x.2.1, v6, (0 : Int), r12.2.1, r12.2.2.1, r12.2.2.2.1, r12.2.2.2.2)) fun r19 =>
  (match r19 with
  | .inl y20 =>
  (some (y20.1, y20.2.1, y20.2.2.1, y20.2.2.2, ([] : List Int)))
  | .inr z21 =>
  (some ((wrapF .i64 ((wrapF .i64 (z21.1 + x.1)) + v6)), z21.2.1, z21.2.2.1, z21.2.2.2, (List.take v17 (List.drop v16 r12.2.2.2.2)))))))
  none))))
  none)))))))
theorem granaryref01_Reader_bytes_f (N : Nat) (f0 : Int × Int × Int × (List Int) → Option (Int × Int × Int × Int × (List Int))) (f1 : Int × Int × Int × Int × Int × (List Int) → Option (Int × Int × Int × (List Int))) (x) : granaryref01_Reader_bytes_a N f0 f1 x = fnStep Γ (granaryref01_Reader_bytes_CA N f0 f1) (granaryref01_Reader_bytes_J N) 90 Try.f90.results.toList (granaryref01_Reader_bytes_g N) granaryref01_Reader_bytes_o granaryref01_Reader_bytes_c x := by kernel_rfl
theorem granaryref01_Reader_bytes_e (N : Nat) (x) : (granaryref01_Reader_bytes_g N).F x = fnStep Γ (granaryref01_Reader_bytes_C N) (granaryref01_Reader_bytes_J N) 90 Try.f90.results.toList (granaryref01_Reader_bytes_g N) granaryref01_Reader_bytes_o granaryref01_Reader_bytes_c x := by
  rw [← granaryref01_Reader_bytes_CE N]
  exact Eq.trans (by kernel_rfl) (granaryref01_Reader_bytes_f N (granaryref01_Reader_Left) (granaryref01_Reader_Fail) x)
theorem granaryref01_Reader_bytes_y : Try.f90.body = some granaryref01_Reader_bytes_c := by kernel_rfl
theorem granaryref01_Reader_bytes_n : (Try.f90.name == "runtime.NumGoroutine") = false := by kernel_rfl
theorem granaryref01_Reader_bytes_ok (N : Nat) : FnDoes Try.prog 90 (granaryref01_Reader_bytes_g N) := fn_ok tabOK (granaryref01_Reader_bytes_t N) mixedOK (J := granaryref01_Reader_bytes_J N) (body := granaryref01_Reader_bytes_c) Try.func90 granaryref01_Reader_bytes_y granaryref01_Reader_bytes_n Try.ntmps90 (jok_from granaryref01_Reader_bytes_i ⟨⟨.inr ⟨_, rfl, granaryref01_Reader_bytes_k0 N⟩, trivial⟩, trivial⟩) rfl rfl (le_of_ble rfl) (granaryref01_Reader_bytes_e N)
noncomputable def granaryref01_Reader_Opaque_c : Code := codeOf Try.f71.body
noncomputable def granaryref01_Reader_Opaque_J (N : Nat) : Nat → Hint := fun cx => hintOf cx [(0, { reg := fun k => assoc0 k [(5, ⟨⟨[(26, (.av (.one .bool)))], [(.keep, true), (.keep, true), (.keep, true), (.keep, false), (.keep, false)]⟩, [], [], [.bool]⟩)], cnd := fun k => assoc0 k [], loop := fun k => assoc0 k [], nil := fun k => assoc0 k [], unr := fun k => assocN k [], blk := fun k => assoc0 k [] })]
noncomputable def granaryref01_Reader_Opaque_C (N : Nat) : Nat → List GS := fun k => tabOf k [(51, [granaryref01_Reader_Uint_g N]), (83, [granaryref01_Reader_Fail_g N]), (90, [granaryref01_Reader_bytes_g N])]
def granaryref01_Reader_Opaque_o : List (Shp × List Nat) := [(⟨[(0, (.av (.one (.const (.slw 5 1)))))], [(.sh (.one (.const (.slw 4 1))), true), (.sh (.one (.int .i64)), true), (.sh (.one (.int .i64)), true), (.sh (.one (.int .i64)), false), (.sh (.arr (.int .u8) none), false), (.sh (.arr (.int .u8) none), false)]⟩, [])]
noncomputable def granaryref01_Reader_Opaque_g (N : Nat) : GS := { ins := ⟨[(0, (.av (.one (.const (.ptr ⟨0, 0, 0, 0⟩))))), (1, (.av (.one (.int .i64))))], [(some (.one (.const (.slw 4 1))), true), (some (.one (.int .i64)), true), (some (.one (.int .i64)), true), (some (.one (.int .i64)), false), (some (.arr (.int .u8) none), false)]⟩, lend := [.keep, .keep], outs := granaryref01_Reader_Opaque_o.map fun s => ssOf s.1, its := [.int, .int, .int, .int, .lst (.int .u8)], ots := [[.int, .int, .int, .lst (.int .u8), .lst (.int .u8)]], F := granaryref01_Reader_Opaque N }
noncomputable def granaryref01_Reader_Opaque_CA (N : Nat) (f0 : Int × Int × Int × (List Int) → Option (Int × Int × Int × Int × (List Int))) (f1 : Int × Int × Int × Int × Int × (List Int) → Option (Int × Int × Int × (List Int))) (f2 : Int × Int × Int × Int × Int × (List Int) → Option (Int × Int × Int × (List Int) × (List Int))) : Nat → List GS := fun k => tabOf k [(51, [{ granaryref01_Reader_Uint_g N with F := f0 }]), (83, [{ granaryref01_Reader_Fail_g N with F := f1 }]), (90, [{ granaryref01_Reader_bytes_g N with F := f2 }])]
theorem granaryref01_Reader_Opaque_CE (N : Nat) : granaryref01_Reader_Opaque_CA N (granaryref01_Reader_Uint N) (granaryref01_Reader_Fail) (granaryref01_Reader_bytes N) = granaryref01_Reader_Opaque_C N := by kernel_rfl
theorem granaryref01_Reader_Opaque_t (N : Nat) : TabC Try.prog (granaryref01_Reader_Opaque_C N) := tab_ok ⟨⟨granaryref01_Reader_Uint_ok N, trivial⟩, ⟨granaryref01_Reader_Fail_ok N, trivial⟩, ⟨granaryref01_Reader_bytes_ok N, trivial⟩, trivial⟩
theorem granaryref01_Reader_Opaque_i : loopsOf granaryref01_Reader_Opaque_c = [] := by kernel_rfl
noncomputable def granaryref01_Reader_Opaque_a (N : Nat) (f0 : Int × Int × Int × (List Int) → Option (Int × Int × Int × Int × (List Int))) (f1 : Int × Int × Int × Int × Int × (List Int) → Option (Int × Int × Int × (List Int))) (f2 : Int × Int × Int × Int × Int × (List Int) → Option (Int × Int × Int × (List Int) × (List Int))) (x : Int × Int × Int × Int × (List Int)) : Option (Int × Int × Int × (List Int) × (List Int)) :=
  (Option.bind (f0 (x.2.1, x.2.2.1, x.2.2.2.1, x.2.2.2.2)) fun r1 =>
  (cond (!(decide (r1.2.2.1 = (0 : Int))))
  (some (r1.2.1, r1.2.2.1, r1.2.2.2.1, r1.2.2.2.2, ([] : List Int)))
  (Option.bind
  (cond (decide (x.1 < (0 : Int)))
  (some true)
  (some (decide ((wrapF .u64 x.1) < (wrapF .u64 r1.1)))))
  fun r7 =>
  (cond r7
  (Option.bind (f1 ((1 : Int), x.2.1, r1.2.1, r1.2.2.1, r1.2.2.2.1, r1.2.2.2.2)) fun r8 =>
  (some (r8.1, r8.2.1, r8.2.2.1, r8.2.2.2, ([] : List Int))))
  (cond (decide ((wrapF .u64 (((List.length r1.2.2.2.2) : Nat) : Int)) < (wrapF .u64 r1.1)))
  (Option.bind (f1 ((3 : Int), x.2.1, r1.2.1, r1.2.2.1, r1.2.2.2.1, r1.2.2.2.2)) fun r13 =>
  (some (r13.1, r13.2.1, r13.2.2.1, r13.2.2.2, ([] : List Int))))
  (Option.bind (f2 ((wrapF .i64 r1.1), x.2.1, r1.2.1, r1.2.2.1, r1.2.2.2.1, r1.2.2.2.2)) fun r15 =>
  (some (r15.1, r15.2.1, r15.2.2.1, r15.2.2.2.1, r15.2.2.2.2))))))))
theorem granaryref01_Reader_Opaque_f (N : Nat) (f0 : Int × Int × Int × (List Int) → Option (Int × Int × Int × Int × (List Int))) (f1 : Int × Int × Int × Int × Int × (List Int) → Option (Int × Int × Int × (List Int))) (f2 : Int × Int × Int × Int × Int × (List Int) → Option (Int × Int × Int × (List Int) × (List Int))) (x) : granaryref01_Reader_Opaque_a N f0 f1 f2 x = fnStep Γ (granaryref01_Reader_Opaque_CA N f0 f1 f2) (granaryref01_Reader_Opaque_J N) 47 Try.f71.results.toList (granaryref01_Reader_Opaque_g N) granaryref01_Reader_Opaque_o granaryref01_Reader_Opaque_c x := by kernel_rfl
theorem granaryref01_Reader_Opaque_e (N : Nat) (x) : (granaryref01_Reader_Opaque_g N).F x = fnStep Γ (granaryref01_Reader_Opaque_C N) (granaryref01_Reader_Opaque_J N) 47 Try.f71.results.toList (granaryref01_Reader_Opaque_g N) granaryref01_Reader_Opaque_o granaryref01_Reader_Opaque_c x := by
  rw [← granaryref01_Reader_Opaque_CE N]
  exact Eq.trans (by kernel_rfl) (granaryref01_Reader_Opaque_f N (granaryref01_Reader_Uint N) (granaryref01_Reader_Fail) (granaryref01_Reader_bytes N) x)
theorem granaryref01_Reader_Opaque_y : Try.f71.body = some granaryref01_Reader_Opaque_c := by kernel_rfl
theorem granaryref01_Reader_Opaque_n : (Try.f71.name == "runtime.NumGoroutine") = false := by kernel_rfl
theorem granaryref01_Reader_Opaque_ok (N : Nat) : FnDoes Try.prog 71 (granaryref01_Reader_Opaque_g N) := fn_ok tabOK (granaryref01_Reader_Opaque_t N) mixedOK (J := granaryref01_Reader_Opaque_J N) (body := granaryref01_Reader_Opaque_c) Try.func71 granaryref01_Reader_Opaque_y granaryref01_Reader_Opaque_n Try.ntmps71 (jok_from granaryref01_Reader_Opaque_i ⟨trivial, trivial⟩) rfl rfl (le_of_ble rfl) (granaryref01_Reader_Opaque_e N)
noncomputable def granaryref01_Reader_Done_c : Code := codeOf Try.f72.body
noncomputable def granaryref01_Reader_Done_J (N : Nat) : Nat → Hint := fun cx => hintOf cx [(0, { reg := fun k => assoc0 k [(1, ⟨⟨[(12, (.av (.one .bool)))], [(.sh (.one (.const (.slw 4 1))), true), (.sh (.one (.int .i64)), true), (.sh (.one (.int .i64)), true), (.sh (.one (.int .i64)), false), (.sh (.arr (.int .u8) none), false)]⟩, [], [0, 1, 2, 3, 4], [.bool, .int, .int, .int, .lst (.int .u8)]⟩)], cnd := fun k => assoc0 k [], loop := fun k => assoc0 k [], nil := fun k => assoc0 k [], unr := fun k => assocN k [], blk := fun k => assoc0 k [] })]
noncomputable def granaryref01_Reader_Done_C (N : Nat) : Nat → List GS := fun k => tabOf k [(82, [granaryref01_Reader_Left_g N])]
def granaryref01_Reader_Done_o : List (Shp × List Nat) := [(⟨[(0, (.av (.one (.int .i64))))], [(.sh (.one (.const (.slw 4 1))), true), (.sh (.one (.int .i64)), true), (.sh (.one (.int .i64)), true), (.sh (.one (.int .i64)), false), (.sh (.arr (.int .u8) none), false)]⟩, [])]
noncomputable def granaryref01_Reader_Done_g (N : Nat) : GS := { ins := ⟨[(0, (.av (.one (.const (.ptr ⟨0, 0, 0, 0⟩)))))], [(some (.one (.const (.slw 4 1))), true), (some (.one (.int .i64)), true), (some (.one (.int .i64)), true), (some (.one (.int .i64)), false), (some (.arr (.int .u8) none), false)]⟩, lend := [.keep], outs := granaryref01_Reader_Done_o.map fun s => ssOf s.1, its := [.int, .int, .int, .lst (.int .u8)], ots := [[.int, .int, .int, .int, .lst (.int .u8)]], F := granaryref01_Reader_Done }
noncomputable def granaryref01_Reader_Done_CA (N : Nat) (f0 : Int × Int × Int × (List Int) → Option (Int × Int × Int × Int × (List Int))) : Nat → List GS := fun k => tabOf k [(82, [{ granaryref01_Reader_Left_g N with F := f0 }])]
theorem granaryref01_Reader_Done_CE (N : Nat) : granaryref01_Reader_Done_CA N (granaryref01_Reader_Left) = granaryref01_Reader_Done_C N := by kernel_rfl
theorem granaryref01_Reader_Done_t (N : Nat) : TabC Try.prog (granaryref01_Reader_Done_C N) := tab_ok ⟨⟨granaryref01_Reader_Left_ok N, trivial⟩, trivial⟩
theorem granaryref01_Reader_Done_i : loopsOf granaryref01_Reader_Done_c = [] := by kernel_rfl
noncomputable def granaryref01_Reader_Done_a (N : Nat) (f0 : Int × Int × Int × (List Int) → Option (Int × Int × Int × Int × (List Int))) (x : Int × Int × Int × (List Int)) : Option (Int × Int × Int × Int × (List Int)) :=
  (Option.bind
  (cond (decide (x.2.1 = (0 : Int)))
  (Option.bind (f0 (x.1, x.2.1, x.2.2.1, x.2.2.2)) fun r2 =>
  (some ((decide ((0 : Int) < r2.1)), r2.2.1, r2.2.2.1, r2.2.2.2.1, r2.2.2.2.2)))
  (some (false, x.1, x.2.1, x.2.2.1, x.2.2.2)))
  fun r4 =>
  (cond r4.1
  (some ((4 : Int), r4.2.1, r4.2.2.1, r4.2.2.2.1, r4.2.2.2.2))
  (some (r4.2.2.1, r4.2.1, r4.2.2.1, r4.2.2.2.1, r4.2.2.2.2))))
theorem granaryref01_Reader_Done_f (N : Nat) (f0 : Int × Int × Int × (List Int) → Option (Int × Int × Int × Int × (List Int))) (x) : granaryref01_Reader_Done_a N f0 x = fnStep Γ (granaryref01_Reader_Done_CA N f0) (granaryref01_Reader_Done_J N) 17 Try.f72.results.toList (granaryref01_Reader_Done_g N) granaryref01_Reader_Done_o granaryref01_Reader_Done_c x := by kernel_rfl
theorem granaryref01_Reader_Done_e (N : Nat) (x) : (granaryref01_Reader_Done_g N).F x = fnStep Γ (granaryref01_Reader_Done_C N) (granaryref01_Reader_Done_J N) 17 Try.f72.results.toList (granaryref01_Reader_Done_g N) granaryref01_Reader_Done_o granaryref01_Reader_Done_c x := by
  rw [← granaryref01_Reader_Done_CE N]
  exact Eq.trans (by kernel_rfl) (granaryref01_Reader_Done_f N (granaryref01_Reader_Left) x)
theorem granaryref01_Reader_Done_y : Try.f72.body = some granaryref01_Reader_Done_c := by kernel_rfl
theorem granaryref01_Reader_Done_n : (Try.f72.name == "runtime.NumGoroutine") = false := by kernel_rfl
theorem granaryref01_Reader_Done_ok (N : Nat) : FnDoes Try.prog 72 (granaryref01_Reader_Done_g N) := fn_ok tabOK (granaryref01_Reader_Done_t N) mixedOK (J := granaryref01_Reader_Done_J N) (body := granaryref01_Reader_Done_c) Try.func72 granaryref01_Reader_Done_y granaryref01_Reader_Done_n Try.ntmps72 (jok_from granaryref01_Reader_Done_i ⟨trivial, trivial⟩) rfl rfl (le_of_ble rfl) (granaryref01_Reader_Done_e N)
noncomputable def granaryref21_GetCred_c : Code := codeOf Try.f35.body
noncomputable def granaryref21_GetCred_c0 : Code := codeOf (getLoop 0 granaryref21_GetCred_c)
def granaryref21_GetCred_d0 : LD := { ins := ⟨[(2, (.av (.one (.const (.ptr ⟨2, 0, 0, 0⟩))))), (4, (.av (.one (.const (.ptr ⟨8, 0, 0, 0⟩))))), (5, (.av (.one (.const (.ptr ⟨13, 0, 0, 0⟩))))), (6, (.av (.one (.int .u32)))), (7, (.av (.one (.int .u32))))], [(.keep, false), (.keep, false), (.keep, false), (.keep, false), (.keep, false), (.keep, false), (.keep, false), (.keep, false), (.sh (.one (.const (.slw 12 1))), true), (.sh (.one (.int .i64)), true), (.sh (.one (.int .i64)), true), (.sh (.one (.int .i64)), false), (.sh (.arr (.int .u8) none), false), (.sh (.one (.const (.int .u32 (1 : Int)))), true), (.sh (.one (.int .u32)), true), (.sh (.one .str), true), (.sh (.one (.int .u32)), true), (.sh (.one (.int .u32)), true), (.sh (.one (.const (.slw 20 1))), false), (.keep, false), (.sh (.arr (.int .u32) none), false)]⟩, mov := [20], wr := [8, 9, 10, 11, 12, 13, 14, 15, 16, 17, 18], outs := [(.exit 0, ⟨[], [(.keep, false), (.keep, false), (.keep, false), (.keep, false), (.keep, false), (.keep, false), (.keep, false), (.keep, false), (.sh (.one (.const (.slw 12 1))), true), (.sh (.one (.int .i64)), true), (.sh (.one (.int .i64)), true), (.sh (.one (.int .i64)), false), (.sh (.arr (.int .u8) none), false), (.sh (.one (.const (.int .u32 (1 : Int)))), true), (.sh (.one (.int .u32)), true), (.sh (.one .str), true), (.sh (.one (.int .u32)), true), (.sh (.one (.int .u32)), true), (.sh (.one (.const (.slw 21 1))), false), (.keep, false), (.dead, false), (.sh (.arr (.int .u32) none), false)]⟩)], its := [.int, .int, .int, .int, .int, .lst (.int .u8), .int, .str, .int, .int, .lst (.int .u32)], ots := [[.int, .int, .int, .lst (.int .u8), .int, .str, .int, .int, .lst (.int .u32)]] }
noncomputable def granaryref21_GetCred_J (N : Nat) : Nat → Hint := fun cx => hintOf cx [(0, { reg := fun k => assoc0 k [(14, ⟨⟨[(52, (.av (.one .bool)))], [(.dead, false), (.dead, false), (.dead, false), (.dead, false), (.dead, false), (.dead, false), (.dead, false), (.dead, false), (.keep, true), (.keep, true), (.keep, true), (.keep, false), (.keep, false), (.keep, true), (.keep, true), (.keep, true), (.keep, true), (.keep, true), (.keep, false), (.dead, false), (.keep, false)]⟩, [], [], [.bool]⟩), (17, ⟨⟨[(68, (.av (.one .bool)))], [(.keep, true), (.keep, false), (.keep, true), (.keep, true), (.keep, true), (.keep, true), (.keep, true), (.keep, false), (.sh (.one (.const (.slw 12 1))), true), (.sh (.one (.int .i64)), true), (.sh (.one (.int .i64)), true), (.sh (.one (.int .i64)), false), (.sh (.arr (.int .u8) none), false), (.keep, true), (.keep, true), (.keep, true), (.keep, true), (.keep, true), (.keep, false), (.keep, false), (.dead, false), (.keep, false)]⟩, [], [8, 9, 10, 11, 12], [.bool, .int, .int, .int, .lst (.int .u8)]⟩)], cnd := fun k => assoc0 k [], loop := fun k => assoc0 k [(0, ⟨granaryref21_GetCred_d0, loopF (granaryref21_GetCred_b0 N) N⟩)], nil := fun k => assoc0 k [], unr := fun k => assocN k [], blk := fun k => assoc0 k [] })]
noncomputable def granaryref21_GetCred_C (N : Nat) : Nat → List GS := fun k => tabOf k [(50, [granaryref01_NewReader_g N]), (51, [granaryref01_Reader_Uint_g N]), (71, [granaryref01_Reader_Opaque_g N]), (72, [granaryref01_Reader_Done_g N])]
def granaryref21_GetCred_o : List (Shp × List Nat) := [(⟨[(0, (.tup [(.agg [(.one (.int .u32)), (.one (.int .u32)), (.one .str), (.one (.int .u32)), (.one (.int .u32)), (.one (.const (.slw 0 1)))]), (.one (.int .u32))]))], [(.sh (.arr (.int .u32) none), false)]⟩, [])]
noncomputable def granaryref21_GetCred_g (N : Nat) : GS := { ins := ⟨[(0, (.av (.agg [(.one (.int .u32)), (.one (.rsl (.int .u8)))])))], []⟩, lend := [.keep], outs := granaryref21_GetCred_o.map fun s => ssOf s.1, its := [.int, .lst (.int .u8)], ots := [[.int, .int, .str, .int, .int, .int, .lst (.int .u32)]], F := granaryref21_GetCred N }
noncomputable def granaryref21_GetCred_CA (N : Nat) (f0 : (List Int) → Option ((List Int))) (f1 : Int × Int × Int × (List Int) → Option (Int × Int × Int × Int × (List Int))) (f2 : Int × Int × Int × Int × (List Int) → Option (Int × Int × Int × (List Int) × (List Int))) (f3 : Int × Int × Int × (List Int) → Option (Int × Int × Int × Int × (List Int))) : Nat → List GS := fun k => tabOf k [(50, [{ granaryref01_NewReader_g N with F := f0 }]), (51, [{ granaryref01_Reader_Uint_g N with F := f1 }]), (71, [{ granaryref01_Reader_Opaque_g N with F := f2 }]), (72, [{ granaryref01_Reader_Done_g N with F := f3 }])]
theorem granaryref21_GetCred_CE (N : Nat) : granaryref21_GetCred_CA N (granaryref01_NewReader) (granaryref01_Reader_Uint N) (granaryref01_Reader_Opaque N) (granaryref01_Reader_Done) = granaryref21_GetCred_C N := by kernel_rfl
theorem granaryref21_GetCred_t (N : Nat) : TabC Try.prog (granaryref21_GetCred_C N) := tab_ok ⟨⟨granaryref01_NewReader_ok N, trivial⟩, ⟨granaryref01_Reader_Uint_ok N, trivial⟩, ⟨granaryref01_Reader_Opaque_ok N, trivial⟩, ⟨granaryref01_Reader_Done_ok N, trivial⟩, trivial⟩
theorem granaryref21_GetCred_i0 : loopsOf granaryref21_GetCred_c0 = [] := by kernel_rfl
noncomputable def granaryref21_GetCred_a0 (N : Nat) (f0 : (List Int) → Option ((List Int))) (f1 : Int × Int × Int × (List Int) → Option (Int × Int × Int × Int × (List Int))) (f2 : Int × Int × Int × Int × (List Int) → Option (Int × Int × Int × (List Int) × (List Int))) (f3 : Int × Int × Int × (List Int) → Option (Int × Int × Int × Int × (List Int))) (next : Int × Int × Int × Int × Int × (List Int) × Int × (List UInt8) × Int × Int × (List Int) → Option ((Int × Int × Int × (List Int) × Int × (List UInt8) × Int × Int × (List Int)))) (x : Int × Int × Int × Int × Int × (List Int) × Int × (List UInt8) × Int × Int × (List Int)) : Option ((Int × Int × Int × (List Int) × Int × (List UInt8) × Int × Int × (List Int))) :=
  (Option.bind
  (cond (decide (x.2.1 < x.1))
  (cond (decide (x.2.1 ≤ (16 : Int)))
  (some (decide (x.2.2.2.1 = (0 : Int))))
  (some false))
  (some false))
  fun r4 =>
  (cond r4
  (Option.bind (f1 (x.2.2.1, x.2.2.2.1, x.2.2.2.2.1, x.2.2.2.2.2.1)) fun r5 =>
  (let v6 : List Int := ([r5.1] : List Int)
  (cond ((decide (1 ≤ (List.length v6))) && (fits 4 ((List.length x.2.2.2.2.2.2.2.2.2.2) + (List.length (List.take 1 (List.drop 0 v6))))))
  ((next (x.1, (wrapF .u32 (x.2.1 + (1 : Int))), r5.2.1, r5.2.2.1, r5.2.2.2.1, r5.2.2.2.2, x.2.2.2.2.2.2.1, x.2.2.2.2.2.2.2.1, x.2.2.2.2.2.2.2.2.1, x.2.2.2.2.2.2.2.2.2.1, (x.2.2.2.2.2.2.2.2.2.2 ++ (List.take 1 (List.drop 0 v6))))))
  none)))
  (some (x.2.2.1, x.2.2.2.1, x.2.2.2.2.1, x.2.2.2.2.2.1, x.2.2.2.2.2.2.1, x.2.2.2.2.2.2.2.1, x.2.2.2.2.2.2.2.2.1, x.2.2.2.2.2.2.2.2.2.1, x.2.2.2.2.2.2.2.2.2.2))))
theorem granaryref21_GetCred_f0 (N : Nat) (f0 : (List Int) → Option ((List Int))) (f1 : Int × Int × Int × (List Int) → Option (Int × Int × Int × Int × (List Int))) (f2 : Int × Int × Int × Int × (List Int) → Option (Int × Int × Int × (List Int) × (List Int))) (f3 : Int × Int × Int × (List Int) → Option (Int × Int × Int × Int × (List Int))) (next) (x) : granaryref21_GetCred_a0 N f0 f1 f2 f3 next x = loopStep Γ (granaryref21_GetCred_CA N f0 f1 f2 f3) (granaryref21_GetCred_J N) 0 71 granaryref21_GetCred_d0 granaryref21_GetCred_c0 next x := by kernel_rfl
theorem granaryref21_GetCred_e0 (N : Nat) (next) (x) : granaryref21_GetCred_b0 N next x = loopStep Γ (granaryref21_GetCred_C N) (granaryref21_GetCred_J N) 0 71 granaryref21_GetCred_d0 granaryref21_GetCred_c0 next x := by
  rw [← granaryref21_GetCred_CE N]
  exact Eq.trans (by kernel_rfl) (granaryref21_GetCred_f0 N (granaryref01_NewReader) (granaryref01_Reader_Uint N) (granaryref01_Reader_Opaque N) (granaryref01_Reader_Done) next x)
theorem granaryref21_GetCred_k0 (N : Nat) : LoopOK Try.prog 71 granaryref21_GetCred_c0 ⟨granaryref21_GetCred_d0, loopF (granaryref21_GetCred_b0 N) N⟩ := loop_ok tabOK (granaryref21_GetCred_t N) mixedOK (J := granaryref21_GetCred_J N) (cx := 0) (body := granaryref21_GetCred_c0) (nt := 71) (l := granaryref21_GetCred_d0) (b := granaryref21_GetCred_b0 N) (jok_from granaryref21_GetCred_i0 ⟨trivial, trivial⟩) (granaryref21_GetCred_e0 N) N
theorem granaryref21_GetCred_i : loopsOf granaryref21_GetCred_c = [(0, granaryref21_GetCred_c0)] := by kernel_rfl
noncomputable def granaryref21_GetCred_a (N : Nat) (f0 : (List Int) → Option ((List Int))) (f1 : Int × Int × Int × (List Int) → Option (Int × Int × Int × Int × (List Int))) (f2 : Int × Int × Int × Int × (List Int) → Option (Int × Int × Int × (List Int) × (List Int))) (f3 : Int × Int × Int × (List Int) → Option (Int × Int × Int × Int × (List Int))) (x : Int × (List Int)) : Option (Int × Int × (List UInt8) × Int × Int × Int × (List Int)) :=
  (cond (decide (x.1 = (0 : Int)))
  (cond (decide ((0 : Int) < (((List.length x.2) : Nat) : Int)))
  (some ((0 : Int), (0 : Int), ([] : List UInt8), (0 : Int), (0 : Int), (1 : Int), ([] : List Int)))
  (some ((0 : Int), (0 : Int), ([] : List UInt8), (0 : Int), (0 : Int), (0 : Int), ([] : List Int))))
  (cond (!(decide (x.1 = (1 : Int))))
  (some ((0 : Int), (0 : Int), ([] : List UInt8), (0 : Int), (0 : Int), (2 : Int), ([] : List Int)))
  (Option.bind (f0 x.2) fun r9 =>
  (Option.bind (f1 ((0 : Int), (0 : Int), (0 : Int), r9)) fun r10 =>
  (Option.bind (f2 ((64 : Int), r10.2.1, r10.2.2.1, r10.2.2.2.1, r10.2.2.2.2)) fun r13 =>
  (Option.bind (f1 (r13.1, r13.2.1, r13.2.2.1, r13.2.2.2.1)) fun r15 =>
  (Option.bind (f1 (r15.2.1, r15.2.2.1, r15.2.2.2.1, r15.2.2.2.2)) fun r16 =>
  (Option.bind (f1 (r16.2.1, r16.2.2.1, r16.2.2.2.1, r16.2.2.2.2)) fun r17 =>
  (Option.bind (granaryref21_GetCred_l0 N (r17.1, (0 : Int), r17.2.1, r17.2.2.1, r17.2.2.2.1, r17.2.2.2.2, r10.1, (List.map (fun (n : Int) => UInt8.ofNat n.toNat) r13.2.2.2.2), r15.1, r16.1, ([] : List Int))) fun r18 =>
  (Option.bind
  (Option.bind (f3 (r18.1, r18.2.1, r18.2.2.1, r18.2.2.2.1)) fun r19 =>
  (cond (!(decide (r19.1 = (0 : Int))))
  (some (true, r19.2.1, r19.2.2.1, r19.2.2.2.1, r19.2.2.2.2))
  (some ((decide ((16 : Int) < r17.1)), r19.2.1, r19.2.2.1, r19.2.2.2.1, r19.2.2.2.2))))
  fun r22 =>
  (cond r22.1
  (some ((0 : Int), (0 : Int), ([] : List UInt8), (0 : Int), (0 : Int), (1 : Int), ([] : List Int)))
  (some ((1 : Int), r18.2.2.2.2.1, r18.2.2.2.2.2.1, r18.2.2.2.2.2.2.1, r18.2.2.2.2.2.2.2.1, (0 : Int), r18.2.2.2.2.2.2.2.2)))))))))))))
theorem granaryref21_GetCred_f (N : Nat) (f0 : (List Int) → Option ((List Int))) (f1 : Int × Int × Int × (List Int) → Option (Int × Int × Int × Int × (List Int))) (f2 : Int × Int × Int × Int × (List Int) → Option (Int × Int × Int × (List Int) × (List Int))) (f3 : Int × Int × Int × (List Int) → Option (Int × Int × Int × Int × (List Int))) (x) : granaryref21_GetCred_a N f0 f1 f2 f3 x = fnStep Γ (granaryref21_GetCred_CA N f0 f1 f2 f3) (granaryref21_GetCred_J N) 71 Try.f35.results.toList (granaryref21_GetCred_g N) granaryref21_GetCred_o granaryref21_GetCred_c x := by kernel_rfl
theorem granaryref21_GetCred_e (N : Nat) (x) : (granaryref21_GetCred_g N).F x = fnStep Γ (granaryref21_GetCred_C N) (granaryref21_GetCred_J N) 71 Try.f35.results.toList (granaryref21_GetCred_g N) granaryref21_GetCred_o granaryref21_GetCred_c x := by
  rw [← granaryref21_GetCred_CE N]
  exact Eq.trans (by kernel_rfl) (granaryref21_GetCred_f N (granaryref01_NewReader) (granaryref01_Reader_Uint N) (granaryref01_Reader_Opaque N) (granaryref01_Reader_Done) x)
theorem granaryref21_GetCred_y : Try.f35.body = some granaryref21_GetCred_c := by kernel_rfl
theorem granaryref21_GetCred_n : (Try.f35.name == "runtime.NumGoroutine") = false := by kernel_rfl
theorem granaryref21_GetCred_ok (N : Nat) : FnDoes Try.prog 35 (granaryref21_GetCred_g N) := fn_ok tabOK (granaryref21_GetCred_t N) mixedOK (J := granaryref21_GetCred_J N) (body := granaryref21_GetCred_c) Try.func35 granaryref21_GetCred_y granaryref21_GetCred_n Try.ntmps35 (jok_from granaryref21_GetCred_i ⟨⟨.inr ⟨_, rfl, granaryref21_GetCred_k0 N⟩, trivial⟩, trivial⟩) rfl rfl (le_of_ble rfl) (granaryref21_GetCred_e N)
noncomputable def granaryref21_SameAuth_c : Code := codeOf Try.f36.body
noncomputable def granaryref21_SameAuth_J (N : Nat) : Nat → Hint := fun cx => hintOf cx [(0, { reg := fun k => assoc0 k [(1, ⟨⟨[(4, (.av (.one .bool)))], [(.keep, true), (.keep, false), (.keep, true), (.keep, false)]⟩, [], [], [.bool]⟩)], cnd := fun k => assoc0 k [], loop := fun k => assoc0 k [], nil := fun k => assoc0 k [], unr := fun k => assocN k [], blk := fun k => assoc0 k [] })]
noncomputable def granaryref21_SameAuth_C (N : Nat) : Nat → List GS := fun k => tabOf k []
def granaryref21_SameAuth_o : List (Shp × List Nat) := [(⟨[(0, (.av (.one .bool)))], []⟩, [])]
noncomputable def granaryref21_SameAuth_g (N : Nat) : GS := { ins := ⟨[(0, (.av (.agg [(.one (.int .u32)), (.one (.rsl (.int .u8)))]))), (1, (.av (.agg [(.one (.int .u32)), (.one (.rsl (.int .u8)))])))], []⟩, lend := [.agg [none, some (.int .u8)], .agg [none, some (.int .u8)]], outs := granaryref21_SameAuth_o.map fun s => ssOf s.1, its := [.int, .lst (.int .u8), .int, .lst (.int .u8)], ots := [[.bool]], F := granaryref21_SameAuth }
theorem granaryref21_SameAuth_t (N : Nat) : TabC Try.prog (granaryref21_SameAuth_C N) := tab_ok trivial
theorem granaryref21_SameAuth_i : loopsOf granaryref21_SameAuth_c = [] := by kernel_rfl
theorem granaryref21_SameAuth_e (N : Nat) (x) : (granaryref21_SameAuth_g N).F x = fnStep Γ (granaryref21_SameAuth_C N) (granaryref21_SameAuth_J N) 19 Try.f36.results.toList (granaryref21_SameAuth_g N) granaryref21_SameAuth_o granaryref21_SameAuth_c x := by kernel_rfl
theorem granaryref21_SameAuth_y : Try.f36.body = some granaryref21_SameAuth_c := by kernel_rfl
theorem granaryref21_SameAuth_n : (Try.f36.name == "runtime.NumGoroutine") = false := by kernel_rfl
theorem granaryref21_SameAuth_ok (N : Nat) : FnDoes Try.prog 36 (granaryref21_SameAuth_g N) := fn_ok tabOK (granaryref21_SameAuth_t N) mixedOK (J := granaryref21_SameAuth_J N) (body := granaryref21_SameAuth_c) Try.func36 granaryref21_SameAuth_y granaryref21_SameAuth_n Try.ntmps36 (jok_from granaryref21_SameAuth_i ⟨trivial, trivial⟩) rfl rfl (le_of_ble rfl) (granaryref21_SameAuth_e N)
noncomputable def granaryref21_SameCred_c : Code := codeOf Try.f37.body
noncomputable def granaryref21_SameCred_c0 : Code := codeOf (getLoop 0 granaryref21_SameCred_c)
def granaryref21_SameCred_d0 : LD := { ins := ⟨[(2, (.av (.one (.const (.ptr ⟨0, 0, 0, 0⟩))))), (3, (.av (.one (.const (.ptr ⟨6, 0, 0, 0⟩))))), (5, (.av (.one (.int .i64))))], [(.sh (.one (.int .u32)), true), (.sh (.one (.int .u32)), true), (.sh (.one .str), true), (.sh (.one (.int .u32)), true), (.sh (.one (.int .u32)), true), (.sh (.one (.rsl (.int .u32))), false), (.sh (.one (.int .u32)), true), (.sh (.one (.int .u32)), true), (.sh (.one .str), true), (.sh (.one (.int .u32)), true), (.sh (.one (.int .u32)), true), (.sh (.one (.rsl (.int .u32))), false)]⟩, mov := [], wr := [0, 1, 2, 3, 4, 5, 6, 7, 8, 9, 10, 11], outs := [(.ret, ⟨[(4, (.av (.one (.const (.bool false)))))], [(.sh (.one (.int .u32)), true), (.sh (.one (.int .u32)), true), (.sh (.one .str), true), (.sh (.one (.int .u32)), true), (.sh (.one (.int .u32)), true), (.sh (.one (.rsl (.int .u32))), false), (.sh (.one (.int .u32)), true), (.sh (.one (.int .u32)), true), (.sh (.one .str), true), (.sh (.one (.int .u32)), true), (.sh (.one (.int .u32)), true), (.sh (.one (.rsl (.int .u32))), false)]⟩), (.exit 0, ⟨[], [(.sh (.one (.int .u32)), true), (.sh (.one (.int .u32)), true), (.sh (.one .str), true), (.sh (.one (.int .u32)), true), (.sh (.one (.int .u32)), true), (.sh (.one (.rsl (.int .u32))), false), (.sh (.one (.int .u32)), true), (.sh (.one (.int .u32)), true), (.sh (.one .str), true), (.sh (.one (.int .u32)), true), (.sh (.one (.int .u32)), true), (.sh (.one (.rsl (.int .u32))), false)]⟩)], its := [.int, .int, .int, .str, .int, .int, .lst (.int .u32), .int, .int, .str, .int, .int, .lst (.int .u32)], ots := [[.int, .int, .str, .int, .int, .lst (.int .u32), .int, .int, .str, .int, .int, .lst (.int .u32)], [.int, .int, .str, .int, .int, .lst (.int .u32), .int, .int, .str, .int, .int, .lst (.int .u32)]] }
noncomputable def granaryref21_SameCred_J (N : Nat) : Nat → Hint := fun cx => hintOf cx [(0, { reg := fun k => assoc0 k [(1, ⟨⟨[(47, (.av (.one .bool)))], [(.keep, true), (.keep, true), (.keep, true), (.keep, true), (.keep, true), (.keep, false), (.keep, true), (.keep, true), (.keep, true), (.keep, true), (.keep, true), (.keep, false)]⟩, [], [], [.bool]⟩)], cnd := fun k => assoc0 k [], loop := fun k => assoc0 k [(0, ⟨granaryref21_SameCred_d0, loopF (granaryref21_SameCred_b0 N) N⟩)], nil := fun k => assoc0 k [], unr := fun k => assocN k [], blk := fun k => assoc0 k [] })]
noncomputable def granaryref21_SameCred_C (N : Nat) : Nat → List GS := fun k => tabOf k []
def granaryref21_SameCred_o : List (Shp × List Nat) := [(⟨[(0, (.av (.one .bool)))], []⟩, [])]
noncomputable def granaryref21_SameCred_g (N : Nat) : GS := { ins := ⟨[(0, (.av (.agg [(.one (.int .u32)), (.one (.int .u32)), (.one .str), (.one (.int .u32)), (.one (.int .u32)), (.one (.rsl (.int .u32)))]))), (1, (.av (.agg [(.one (.int .u32)), (.one (.int .u32)), (.one .str), (.one (.int .u32)), (.one (.int .u32)), (.one (.rsl (.int .u32)))])))], []⟩, lend := [.agg [none, none, none, none, none, some (.int .u32)], .agg [none, none, none, none, none, some (.int .u32)]], outs := granaryref21_SameCred_o.map fun s => ssOf s.1, its := [.int, .int, .str, .int, .int, .lst (.int .u32), .int, .int, .str, .int, .int, .lst (.int .u32)], ots := [[.bool]], F := granaryref21_SameCred N }
theorem granaryref21_SameCred_t (N : Nat) : TabC Try.prog (granaryref21_SameCred_C N) := tab_ok trivial
theorem granaryref21_SameCred_i0 : loopsOf granaryref21_SameCred_c0 = [] := by kernel_rfl
theorem granaryref21_SameCred_e0 (N : Nat) (next) (x) : granaryref21_SameCred_b0 N next x = loopStep Γ (granaryref21_SameCred_C N) (granaryref21_SameCred_J N) 0 66 granaryref21_SameCred_d0 granaryref21_SameCred_c0 next x := by kernel_rfl
theorem granaryref21_SameCred_k0 (N : Nat) : LoopOK Try.prog 66 granaryref21_SameCred_c0 ⟨granaryref21_SameCred_d0, loopF (granaryref21_SameCred_b0 N) N⟩ := loop_ok tabOK (granaryref21_SameCred_t N) mixedOK (J := granaryref21_SameCred_J N) (cx := 0) (body := granaryref21_SameCred_c0) (nt := 66) (l := granaryref21_SameCred_d0) (b := granaryref21_SameCred_b0 N) (jok_from granaryref21_SameCred_i0 ⟨trivial, trivial⟩) (granaryref21_SameCred_e0 N) N
theorem granaryref21_SameCred_i : loopsOf granaryref21_SameCred_c = [(0, granaryref21_SameCred_c0)] := by kernel_rfl
theorem granaryref21_SameCred_e (N : Nat) (x) : (granaryref21_SameCred_g N).F x = fnStep Γ (granaryref21_SameCred_C N) (granaryref21_SameCred_J N) 66 Try.f37.results.toList (granaryref21_SameCred_g N) granaryref21_SameCred_o granaryref21_SameCred_c x := by kernel_rfl
theorem granaryref21_SameCred_y : Try.f37.body = some granaryref21_SameCred_c := by kernel_rfl
theorem granaryref21_SameCred_n : (Try.f37.name == "runtime.NumGoroutine") = false := by kernel_rfl
theorem granaryref21_SameCred_ok (N : Nat) : FnDoes Try.prog 37 (granaryref21_SameCred_g N) := fn_ok tabOK (granaryref21_SameCred_t N) mixedOK (J := granaryref21_SameCred_J N) (body := granaryref21_SameCred_c) Try.func37 granaryref21_SameCred_y granaryref21_SameCred_n Try.ntmps37 (jok_from granaryref21_SameCred_i ⟨⟨.inr ⟨_, rfl, granaryref21_SameCred_k0 N⟩, trivial⟩, trivial⟩) rfl rfl (le_of_ble rfl) (granaryref21_SameCred_e N)
end Go.Rf.W
