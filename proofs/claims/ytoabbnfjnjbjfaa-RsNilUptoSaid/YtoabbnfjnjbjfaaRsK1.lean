/-
  The printed functions are what the program does.
-/
import Derived.Test.YtoabbnfjnjbjfaaRsK0
set_option linter.unusedVariables false
set_option maxRecDepth 100000
namespace Go.Rf.W
open Go Go.Rf Go.Proofs
noncomputable def rs_Code_Rebuild_c : Code := codeOf Try.f15.body
noncomputable def rs_Code_Rebuild_c0 : Code := codeOf (getLoop 0 rs_Code_Rebuild_c)
noncomputable def rs_Code_Rebuild_c3 : Code := codeOf (getLoop 3 rs_Code_Rebuild_c)
def rs_Code_Rebuild_d0 : LD := { ins := ⟨[(0, (.av (.one (.const (.ptr ⟨0, 0, 0, 0⟩))))), (1, (.av (.one (.rsl (.sl (.int .u8)))))), (2, (.av (.one (.rsl .bool)))), (8, (.av (.one (.const (.slw 4 1))))), (9, (.av (.one (.const (.slw 5 1))))), (47, (.av (.one (.rsl .bool)))), (48, (.av (.one (.int .i64)))), (49, (.av (.one (.int .i64))))], [(.keep, false), (.keep, false), (.keep, false), (.keep, false), (.sh (.arr (.sl (.int .u8)) none), false), (.sh (.arr (.int .i64) none), false)]⟩, mov := [4, 5], wr := [], outs := [(.exit 0, ⟨[(8, (.av (.one (.const (.slw 6 1))))), (9, (.av (.one (.const (.slw 7 1)))))], [(.keep, false), (.keep, false), (.keep, false), (.keep, false), (.dead, false), (.dead, false), (.sh (.arr (.sl (.int .u8)) none), false), (.sh (.arr (.int .i64) none), false)]⟩)], its := [.lst (.sl (.int .u8)), .lst .bool, .lst .bool, .int, .int, .lst (.sl (.int .u8)), .lst (.int .i64)], ots := [[.lst (.sl (.int .u8)), .lst (.int .i64)]] }
def rs_Code_Rebuild_d3 : LD := { ins := ⟨[(0, (.av (.one (.const (.ptr ⟨0, 0, 0, 0⟩))))), (1, (.av (.one (.rsl (.sl (.int .u8)))))), (12, (.av (.one (.int .i64)))), (14, (.av (.one (.const (.slw 8 1))))), (15, (.av (.one (.const (.slw 9 1))))), (105, (.av (.one (.rsl .bool)))), (106, (.av (.one (.int .i64)))), (107, (.av (.one (.int .i64))))], [(.sh (.one (.int .i64)), true), (.sh (.one (.int .i64)), true), (.sh (.one (.const (.slw 3 1))), false), (.sh (.arr (.int .u8) none), false), (.keep, false), (.keep, false), (.keep, false), (.keep, false), (.sh (.arr (.sl (.int .u8)) none), false), (.sh (.arr (.sl (.int .u8)) none), false)]⟩, mov := [9], wr := [0, 1, 2, 3, 8], outs := [(.exit 3, ⟨[(15, (.av (.one (.const (.slw 10 1)))))], [(.sh (.one (.int .i64)), true), (.sh (.one (.int .i64)), true), (.sh (.one (.const (.slw 3 1))), false), (.sh (.arr (.int .u8) none), false), (.keep, false), (.keep, false), (.keep, false), (.keep, false), (.sh (.arr (.sl (.int .u8)) none), false), (.dead, false), (.sh (.arr (.sl (.int .u8)) none), false)]⟩)], its := [.lst (.sl (.int .u8)), .int, .lst .bool, .int, .int, .int, .int, .lst (.int .u8), .lst (.sl (.int .u8)), .lst (.sl (.int .u8))], ots := [[.int, .int, .lst (.int .u8), .lst (.sl (.int .u8)), .lst (.sl (.int .u8))]] }
noncomputable def rs_Code_Rebuild_J (N : Nat) : Nat → Hint := fun cx => hintOf cx [(0, { reg := fun k => assoc0 k [(3, ⟨⟨[(46, (.av (.one .bool)))], [(.keep, true), (.keep, true), (.keep, false), (.keep, false)]⟩, [], [], [.bool]⟩)], cnd := fun k => assoc0 k [(54, ⟨[4, 5], [], [(.normal, ⟨[(8, (.av (.one (.const (.slw 6 1))))), (9, (.av (.one (.const (.slw 7 1)))))], [(.dead, false), (.dead, false), (.dead, false), (.dead, false), (.dead, false), (.dead, false), (.sh (.arr (.sl (.int .u8)) none), false), (.sh (.arr (.int .i64) none), false)]⟩)], [[.lst (.sl (.int .u8)), .lst (.int .i64)]]⟩), (114, ⟨[], [0, 1, 2, 3, 10], [(.normal, ⟨[], [(.sh (.one (.int .i64)), true), (.sh (.one (.int .i64)), true), (.sh (.one (.const (.slw 3 1))), false), (.sh (.arr (.int .u8) none), false), (.dead, false), (.dead, false), (.dead, false), (.dead, false), (.keep, false), (.keep, false), (.sh (.arr (.int .u8) none), false)]⟩)], [[.int, .int, .lst (.int .u8), .lst (.int .u8)]]⟩)], loop := fun k => assoc0 k [(0, ⟨rs_Code_Rebuild_d0, loopF (rs_Code_Rebuild_b0 N) N⟩), (3, ⟨rs_Code_Rebuild_d3, loopF (rs_Code_Rebuild_b3 N) N⟩)], nil := fun k => assoc0 k [(99, (.arr 6 .unit)), (131, (.sl (.int .u8)))], unr := fun k => assocN k [], blk := fun k => assoc0 k [] })]
noncomputable def rs_Code_Rebuild_C (N : Nat) : Nat → List GS := fun k => tabOf k [(38, [rs_even_v1_g N]), (39, [rs_Code_solve_g N]), (22, [rs_Code_Row_g N]), (40, [rs_mixed_v1_g N])]
def rs_Code_Rebuild_o : List (Shp × List Nat) := [(⟨[(0, (.tup [(.one (.const (.slw 4 1))), (.one (.int .i64))]))], [(.sh (.one (.int .i64)), true), (.sh (.one (.int .i64)), true), (.sh (.one (.const (.slw 3 1))), false), (.sh (.arr (.int .u8) none), false), (.sh (.arr (.sl (.int .u8)) none), false)]⟩, [])]
noncomputable def rs_Code_Rebuild_g (N : Nat) : GS := { ins := ⟨[(0, (.av (.one (.const (.ptr ⟨0, 0, 0, 0⟩))))), (1, (.av (.one (.rsl (.sl (.int .u8)))))), (2, (.av (.one (.rsl .bool))))], [(some (.one (.int .i64)), true), (some (.one (.int .i64)), true), (some (.one (.const (.slw 3 1))), false), (some (.arr (.int .u8) none), false)]⟩, lend := [.keep, .keep, .keep], outs := rs_Code_Rebuild_o.map fun s => ssOf s.1, its := [.lst (.sl (.int .u8)), .lst .bool, .int, .int, .lst (.int .u8)], ots := [[.int, .int, .int, .lst (.int .u8), .lst (.sl (.int .u8))]], F := rs_Code_Rebuild N }
noncomputable def rs_Code_Rebuild_CA (N : Nat) (f0 : (List (List Int)) → Option (Int × Int)) (f1 : (List (List Int)) × (List Int) × Int × Int × Int × (List Int) → Option (Int × Int × Int × (List Int) × (List (List Int)))) (f2 : Int × Int × Int × (List Int) → Option (Int × Int × (List Int) × (List Int))) (f3 : (List Int) × (List (List Int)) × Int → Option ((List Int))) : Nat → List GS := fun k => tabOf k [(38, [{ rs_even_v1_g N with F := f0 }]), (39, [{ rs_Code_solve_g N with F := f1 }]), (22, [{ rs_Code_Row_g N with F := f2 }]), (40, [{ rs_mixed_v1_g N with F := f3 }])]
theorem rs_Code_Rebuild_CE (N : Nat) : rs_Code_Rebuild_CA N (rs_even_v1 N) (rs_Code_solve N) (rs_Code_Row) (rs_mixed_v1 N) = rs_Code_Rebuild_C N := by kernel_rfl
theorem rs_Code_Rebuild_t (N : Nat) : TabC Try.prog (rs_Code_Rebuild_C N) := tab_ok ⟨⟨rs_even_v1_ok N, trivial⟩, ⟨rs_Code_solve_ok N, trivial⟩, ⟨rs_Code_Row_ok N, trivial⟩, ⟨rs_mixed_v1_ok N, trivial⟩, trivial⟩
theorem rs_Code_Rebuild_i0 : loopsOf rs_Code_Rebuild_c0 = [] := by kernel_rfl
noncomputable def rs_Code_Rebuild_a0 (N : Nat) (f0 : (List (List Int)) → Option (Int × Int)) (f1 : (List (List Int)) × (List Int) × Int × Int × Int × (List Int) → Option (Int × Int × Int × (List Int) × (List (List Int)))) (f2 : Int × Int × Int × (List Int) → Option (Int × Int × (List Int) × (List Int))) (f3 : (List Int) × (List (List Int)) × Int → Option ((List Int))) (next : (List (List Int)) × (List Bool) × (List Bool) × Int × Int × (List (List Int)) × (List Int) → Option (((List (List Int)) × (List Int)))) (x : (List (List Int)) × (List Bool) × (List Bool) × Int × Int × (List (List Int)) × (List Int)) : Option (((List (List Int)) × (List Int))) :=
  (cond (decide (x.2.2.2.2.1 < x.2.2.2.1))
  (cond ((decide ((0 : Int) ≤ x.2.2.2.2.1)) && (decide (x.2.2.2.2.1 < (((List.length x.2.2.1) : Nat) : Int))))
  ((Option.bind
  (cond (List.getD x.2.2.1 (Int.toNat x.2.2.2.2.1) (EK.dflt .bool))
  (cond ((decide ((0 : Int) ≤ x.2.2.2.2.1)) && (decide (x.2.2.2.2.1 < (((List.length x.1) : Nat) : Int))))
  ((let v4 : List (List Int) := ([(List.getD x.1 (Int.toNat x.2.2.2.2.1) (EK.dflt (.sl (.int .u8))))] : List (List Int))
  (cond ((decide (1 ≤ (List.length v4))) && (fits 24 ((List.length x.2.2.2.2.2.1) + (List.length (List.take 1 (List.drop 0 v4))))))
  ((let v6 : List Int := ([x.2.2.2.2.1] : List Int)
  (cond ((decide (1 ≤ (List.length v6))) && (fits 8 ((List.length x.2.2.2.2.2.2) + (List.length (List.take 1 (List.drop 0 v6))))))
  ((some ((x.2.2.2.2.2.1 ++ (List.take 1 (List.drop 0 v4))), (x.2.2.2.2.2.2 ++ (List.take 1 (List.drop 0 v6))))))
  none)))
  none)))
  none)
  (some (x.2.2.2.2.2.1, x.2.2.2.2.2.2)))
  fun r8 =>
  (next (x.1, x.2.1, x.2.2.1, x.2.2.2.1, (wrapF .i64 (x.2.2.2.2.1 + (1 : Int))), r8.1, r8.2))))
  none)
  (some (x.2.2.2.2.2.1, x.2.2.2.2.2.2)))
theorem rs_Code_Rebuild_f0 (N : Nat) (f0 : (List (List Int)) → Option (Int × Int)) (f1 : (List (List Int)) × (List Int) × Int × Int × Int × (List Int) → Option (Int × Int × Int × (List Int) × (List (List Int)))) (f2 : Int × Int × Int × (List Int) → Option (Int × Int × (List Int) × (List Int))) (f3 : (List Int) × (List (List Int)) × Int → Option ((List Int))) (next) (x) : rs_Code_Rebuild_a0 N f0 f1 f2 f3 next x = loopStep Γ (rs_Code_Rebuild_CA N f0 f1 f2 f3) (rs_Code_Rebuild_J N) 0 135 rs_Code_Rebuild_d0 rs_Code_Rebuild_c0 next x := by kernel_rfl
theorem rs_Code_Rebuild_e0 (N : Nat) (next) (x) : rs_Code_Rebuild_b0 N next x = loopStep Γ (rs_Code_Rebuild_C N) (rs_Code_Rebuild_J N) 0 135 rs_Code_Rebuild_d0 rs_Code_Rebuild_c0 next x := by
  rw [← rs_Code_Rebuild_CE N]
  exact Eq.trans (by kernel_rfl) (rs_Code_Rebuild_f0 N (rs_even_v1 N) (rs_Code_solve N) (rs_Code_Row) (rs_mixed_v1 N) next x)
theorem rs_Code_Rebuild_k0 (N : Nat) : LoopOK Try.prog 135 rs_Code_Rebuild_c0 ⟨rs_Code_Rebuild_d0, loopF (rs_Code_Rebuild_b0 N) N⟩ := loop_ok tabOK (rs_Code_Rebuild_t N) mixedOK (J := rs_Code_Rebuild_J N) (cx := 0) (body := rs_Code_Rebuild_c0) (nt := 135) (l := rs_Code_Rebuild_d0) (b := rs_Code_Rebuild_b0 N) (jok_from rs_Code_Rebuild_i0 ⟨trivial, trivial⟩) (rs_Code_Rebuild_e0 N) N
theorem rs_Code_Rebuild_i3 : loopsOf rs_Code_Rebuild_c3 = [] := by kernel_rfl
noncomputable def rs_Code_Rebuild_a3 (N : Nat) (f0 : (List (List Int)) → Option (Int × Int)) (f1 : (List (List Int)) × (List Int) × Int × Int × Int × (List Int) → Option (Int × Int × Int × (List Int) × (List (List Int)))) (f2 : Int × Int × Int × (List Int) → Option (Int × Int × (List Int) × (List Int))) (f3 : (List Int) × (List (List Int)) × Int → Option ((List Int))) (next : (List (List Int)) × Int × (List Bool) × Int × Int × Int × Int × (List Int) × (List (List Int)) × (List (List Int)) → Option ((Int × Int × (List Int) × (List (List Int)) × (List (List Int))))) (x : (List (List Int)) × Int × (List Bool) × Int × Int × Int × Int × (List Int) × (List (List Int)) × (List (List Int))) : Option ((Int × Int × (List Int) × (List (List Int)) × (List (List Int)))) :=
  (cond (decide (x.2.2.2.2.1 < x.2.2.2.1))
  (cond ((decide ((0 : Int) ≤ x.2.2.2.2.1)) && (decide (x.2.2.2.2.1 < (((List.length x.2.2.1) : Nat) : Int))))
  ((cond ((decide ((0 : Int) ≤ x.2.1)) && (fits 1 (Int.toNat x.2.1)))
  ((let v3 : List Int := (List.replicate (Int.toNat x.2.1) (EK.dflt (.int .u8)))
  (Option.bind
  (cond (List.getD x.2.2.1 (Int.toNat x.2.2.2.2.1) (EK.dflt .bool))
  (cond ((decide ((0 : Int) ≤ x.2.2.2.2.1)) && (decide (x.2.2.2.2.1 < (((List.length x.1) : Nat) : Int))))
  ((let v4 : (List Int) := (List.getD x.1 (Int.toNat x.2.2.2.2.1) (EK.dflt (.sl (.int .u8))))
  (cond (decide ((0 + (List.length v3)) ≤ (List.length v3)))
  ((some (x.2.2.2.2.2.1, x.2.2.2.2.2.2.1, x.2.2.2.2.2.2.2.1, (List.take 0 v3 ++ List.take (min (List.length v4) (List.length v3)) v4 ++ List.drop (0 + (min (List.length v4) (List.length v3))) v3))))
  none)))
  none)
  (Option.bind (f2 (x.2.2.2.2.1, x.2.2.2.2.2.1, x.2.2.2.2.2.2.1, x.2.2.2.2.2.2.2.1)) fun r7 =>
  (Option.bind (f3 (r7.2.2.2, x.2.2.2.2.2.2.2.2.1, x.2.1)) fun r8 =>
  (cond (decide ((0 + (List.length v3)) ≤ (List.length v3)))
  ((some (r7.1, r7.2.1, r7.2.2.1, (List.take 0 v3 ++ List.take (min (List.length r8) (List.length v3)) r8 ++ List.drop (0 + (min (List.length r8) (List.length v3))) v3))))
  none))))
  fun r11 =>
  (let v12 : List (List Int) := ([r11.2.2.2] : List (List Int))
  (cond (fits 24 ((List.length x.2.2.2.2.2.2.2.2.2) + (List.length v12)))
  ((next (x.1, x.2.1, x.2.2.1, x.2.2.2.1, (wrapF .i64 (x.2.2.2.2.1 + (1 : Int))), r11.1, r11.2.1, r11.2.2.1, x.2.2.2.2.2.2.2.2.1, (x.2.2.2.2.2.2.2.2.2 ++ v12))))
  none)))))
  none))
  none)
  (some (x.2.2.2.2.2.1, x.2.2.2.2.2.2.1, x.2.2.2.2.2.2.2.1, x.2.2.2.2.2.2.2.2.1, x.2.2.2.2.2.2.2.2.2)))
theorem rs_Code_Rebuild_f3 (N : Nat) (f0 : (List (List Int)) → Option (Int × Int)) (f1 : (List (List Int)) × (List Int) × Int × Int × Int × (List Int) → Option (Int × Int × Int × (List Int) × (List (List Int)))) (f2 : Int × Int × Int × (List Int) → Option (Int × Int × (List Int) × (List Int))) (f3 : (List Int) × (List (List Int)) × Int → Option ((List Int))) (next) (x) : rs_Code_Rebuild_a3 N f0 f1 f2 f3 next x = loopStep Γ (rs_Code_Rebuild_CA N f0 f1 f2 f3) (rs_Code_Rebuild_J N) 0 135 rs_Code_Rebuild_d3 rs_Code_Rebuild_c3 next x := by kernel_rfl
theorem rs_Code_Rebuild_e3 (N : Nat) (next) (x) : rs_Code_Rebuild_b3 N next x = loopStep Γ (rs_Code_Rebuild_C N) (rs_Code_Rebuild_J N) 0 135 rs_Code_Rebuild_d3 rs_Code_Rebuild_c3 next x := by
  rw [← rs_Code_Rebuild_CE N]
  exact Eq.trans (by kernel_rfl) (rs_Code_Rebuild_f3 N (rs_even_v1 N) (rs_Code_solve N) (rs_Code_Row) (rs_mixed_v1 N) next x)
theorem rs_Code_Rebuild_k3 (N : Nat) : LoopOK Try.prog 135 rs_Code_Rebuild_c3 ⟨rs_Code_Rebuild_d3, loopF (rs_Code_Rebuild_b3 N) N⟩ := loop_ok tabOK (rs_Code_Rebuild_t N) mixedOK (J := rs_Code_Rebuild_J N) (cx := 0) (body := rs_Code_Rebuild_c3) (nt := 135) (l := rs_Code_Rebuild_d3) (b := rs_Code_Rebuild_b3 N) (jok_from rs_Code_Rebuild_i3 ⟨trivial, trivial⟩) (rs_Code_Rebuild_e3 N) N
theorem rs_Code_Rebuild_i : loopsOf rs_Code_Rebuild_c = [(0, rs_Code_Rebuild_c0), (3, rs_Code_Rebuild_c3)] := by kernel_rfl
noncomputable def rs_Code_Rebuild_a (N : Nat) (f0 : (List (List Int)) → Option (Int × Int)) (f1 : (List (List Int)) × (List Int) × Int × Int × Int × (List Int) → Option (Int × Int × Int × (List Int) × (List (List Int)))) (f2 : Int × Int × Int × (List Int) → Option (Int × Int × (List Int) × (List Int))) (f3 : (List Int) × (List (List Int)) × Int → Option ((List Int))) (x : (List (List Int)) × (List Bool) × Int × Int × (List Int)) : Option (Int × Int × Int × (List Int) × (List (List Int))) :=
  (Option.bind
  (cond (!(decide ((((List.length x.1) : Nat) : Int) = (wrapF .i64 (x.2.2.1 + x.2.2.2.1)))))
  (some true)
  (some (!(decide ((((List.length x.2.1) : Nat) : Int) = (wrapF .i64 (x.2.2.1 + x.2.2.2.1)))))))
  fun r7 =>
  (cond r7
  (some ((2 : Int), x.2.2.1, x.2.2.2.1, x.2.2.2.2, ([] : List (List Int))))
  (Option.bind (rs_Code_Rebuild_l0 N (x.1, x.2.1, x.2.1, (((List.length x.2.1) : Nat) : Int), (0 : Int), ([] : List (List Int)), ([] : List Int))) fun r9 =>
  (Option.bind (f0 r9.1) fun r10 =>
  (cond (!(decide (r10.2 = (0 : Int))))
  (some (r10.2, x.2.2.1, x.2.2.2.1, x.2.2.2.2, ([] : List (List Int))))
  (cond (decide ((((List.length r9.1) : Nat) : Int) < x.2.2.1))
  (some ((30 : Int), x.2.2.1, x.2.2.2.1, x.2.2.2.2, ([] : List (List Int))))
  (cond ((decide ((0 : Int) ≤ x.2.2.1)) && (decide (x.2.2.1 ≤ (((List.length r9.1) : Nat) : Int))))
  ((let v14 : Nat := (Int.toNat x.2.2.1)
  (cond ((decide ((0 : Int) ≤ x.2.2.1)) && (decide (x.2.2.1 ≤ (((List.length r9.2) : Nat) : Int))))
  ((let v15 : Nat := (Int.toNat x.2.2.1)
  (cond (((decide ((0 + v14) ≤ (List.length r9.1))) && ((decide ((0 + v15) ≤ (List.length r9.2))) && true)) && true)
  (Option.bind (f1 ((List.take v14 (List.drop 0 r9.1)), (List.take v15 (List.drop 0 r9.2)), r10.1, x.2.2.1, x.2.2.2.1, x.2.2.2.2)) fun r16 =>
  (cond (!(decide (r16.1 = (0 : Int))))
  (some (r16.1, r16.2.1, r16.2.2.1, r16.2.2.2.1, ([] : List (List Int))))
  (Option.bind (rs_Code_Rebuild_l3 N (x.1, r10.1, x.2.1, (((List.length x.2.1) : Nat) : Int), (0 : Int), r16.2.1, r16.2.2.1, r16.2.2.2.1, r16.2.2.2.2, ([] : List (List Int)))) fun r19 =>
  (some ((0 : Int), r19.1, r19.2.1, r19.2.2.1, r19.2.2.2.2)))))
  none)))
  none)))
  none)))))))
theorem rs_Code_Rebuild_f (N : Nat) (f0 : (List (List Int)) → Option (Int × Int)) (f1 : (List (List Int)) × (List Int) × Int × Int × Int × (List Int) → Option (Int × Int × Int × (List Int) × (List (List Int)))) (f2 : Int × Int × Int × (List Int) → Option (Int × Int × (List Int) × (List Int))) (f3 : (List Int) × (List (List Int)) × Int → Option ((List Int))) (x) : rs_Code_Rebuild_a N f0 f1 f2 f3 x = fnStep Γ (rs_Code_Rebuild_CA N f0 f1 f2 f3) (rs_Code_Rebuild_J N) 135 Try.f15.results.toList (rs_Code_Rebuild_g N) rs_Code_Rebuild_o rs_Code_Rebuild_c x := by kernel_rfl
theorem rs_Code_Rebuild_e (N : Nat) (x) : (rs_Code_Rebuild_g N).F x = fnStep Γ (rs_Code_Rebuild_C N) (rs_Code_Rebuild_J N) 135 Try.f15.results.toList (rs_Code_Rebuild_g N) rs_Code_Rebuild_o rs_Code_Rebuild_c x := by
  rw [← rs_Code_Rebuild_CE N]
  exact Eq.trans (by kernel_rfl) (rs_Code_Rebuild_f N (rs_even_v1 N) (rs_Code_solve N) (rs_Code_Row) (rs_mixed_v1 N) x)
theorem rs_Code_Rebuild_y : Try.f15.body = some rs_Code_Rebuild_c := by kernel_rfl
theorem rs_Code_Rebuild_n : (Try.f15.name == "runtime.NumGoroutine") = false := by kernel_rfl
theorem rs_Code_Rebuild_ok (N : Nat) : FnDoes Try.prog 15 (rs_Code_Rebuild_g N) := fn_ok tabOK (rs_Code_Rebuild_t N) mixedOK (J := rs_Code_Rebuild_J N) (body := rs_Code_Rebuild_c) Try.func15 rs_Code_Rebuild_y rs_Code_Rebuild_n Try.ntmps15 (jok_from rs_Code_Rebuild_i ⟨⟨.inr ⟨_, rfl, rs_Code_Rebuild_k0 N⟩, .inr ⟨_, rfl, rs_Code_Rebuild_k3 N⟩, trivial⟩, trivial⟩) rfl rfl (le_of_ble rfl) (rs_Code_Rebuild_e N)
noncomputable def granaryref03_Same_c : Code := codeOf Try.f17.body
noncomputable def granaryref03_Same_c0 : Code := codeOf (getLoop 0 granaryref03_Same_c)
def granaryref03_Same_d0 : LD := { ins := ⟨[(0, (.av (.one (.rsl (.sl (.int .u8)))))), (1, (.av (.one (.rsl (.sl (.int .u8)))))), (5, (.av (.one (.int .i64))))], []⟩, mov := [], wr := [], outs := [(.ret, ⟨[(4, (.av (.one (.const (.bool false)))))], []⟩), (.exit 0, ⟨[], []⟩)], its := [.lst (.sl (.int .u8)), .lst (.sl (.int .u8)), .int], ots := [[], []] }
noncomputable def granaryref03_Same_J (N : Nat) : Nat → Hint := fun cx => hintOf cx [(0, { reg := fun k => assoc0 k [], cnd := fun k => assoc0 k [], loop := fun k => assoc0 k [(0, ⟨granaryref03_Same_d0, loopF (granaryref03_Same_b0 N) N⟩)], nil := fun k => assoc0 k [], unr := fun k => assocN k [], blk := fun k => assoc0 k [] })]
noncomputable def granaryref03_Same_C (N : Nat) : Nat → List GS := fun k => tabOf k []
def granaryref03_Same_o : List (Shp × List Nat) := [(⟨[(0, (.av (.one .bool)))], []⟩, [])]
noncomputable def granaryref03_Same_g (N : Nat) : GS := { ins := ⟨[(0, (.av (.one (.rsl (.sl (.int .u8)))))), (1, (.av (.one (.rsl (.sl (.int .u8))))))], []⟩, lend := [.lend (.sl (.int .u8)), .lend (.sl (.int .u8))], outs := granaryref03_Same_o.map fun s => ssOf s.1, its := [.lst (.sl (.int .u8)), .lst (.sl (.int .u8))], ots := [[.bool]], F := granaryref03_Same N }
theorem granaryref03_Same_t (N : Nat) : TabC Try.prog (granaryref03_Same_C N) := tab_ok trivial
theorem granaryref03_Same_i0 : loopsOf granaryref03_Same_c0 = [] := by kernel_rfl
theorem granaryref03_Same_e0 (N : Nat) (next) (x) : granaryref03_Same_b0 N next x = loopStep Γ (granaryref03_Same_C N) (granaryref03_Same_J N) 0 28 granaryref03_Same_d0 granaryref03_Same_c0 next x := by kernel_rfl
theorem granaryref03_Same_k0 (N : Nat) : LoopOK Try.prog 28 granaryref03_Same_c0 ⟨granaryref03_Same_d0, loopF (granaryref03_Same_b0 N) N⟩ := loop_ok tabOK (granaryref03_Same_t N) mixedOK (J := granaryref03_Same_J N) (cx := 0) (body := granaryref03_Same_c0) (nt := 28) (l := granaryref03_Same_d0) (b := granaryref03_Same_b0 N) (jok_from granaryref03_Same_i0 ⟨trivial, trivial⟩) (granaryref03_Same_e0 N) N
theorem granaryref03_Same_i : loopsOf granaryref03_Same_c = [(0, granaryref03_Same_c0)] := by kernel_rfl
theorem granaryref03_Same_e (N : Nat) (x) : (granaryref03_Same_g N).F x = fnStep Γ (granaryref03_Same_C N) (granaryref03_Same_J N) 28 Try.f17.results.toList (granaryref03_Same_g N) granaryref03_Same_o granaryref03_Same_c x := by kernel_rfl
theorem granaryref03_Same_y : Try.f17.body = some granaryref03_Same_c := by kernel_rfl
theorem granaryref03_Same_n : (Try.f17.name == "runtime.NumGoroutine") = false := by kernel_rfl
theorem granaryref03_Same_ok (N : Nat) : FnDoes Try.prog 17 (granaryref03_Same_g N) := fn_ok tabOK (granaryref03_Same_t N) mixedOK (J := granaryref03_Same_J N) (body := granaryref03_Same_c) Try.func17 granaryref03_Same_y granaryref03_Same_n Try.ntmps17 (jok_from granaryref03_Same_i ⟨⟨.inr ⟨_, rfl, granaryref03_Same_k0 N⟩, trivial⟩, trivial⟩) rfl rfl (le_of_ble rfl) (granaryref03_Same_e N)
noncomputable def granarylaw03_live_c : Code := codeOf Try.f13.body
noncomputable def granarylaw03_live_J (N : Nat) : Nat → Hint := fun cx => hintOf cx [(0, { reg := fun k => assoc0 k [(5, ⟨⟨[(42, (.av (.one .bool)))], [(.keep, true), (.keep, true), (.keep, false), (.keep, false), (.dead, false), (.dead, false), (.dead, false), (.keep, false)]⟩, [], [], [.bool]⟩), (9, ⟨⟨[(0, (.av (.one .bool)))], [(.keep, true), (.keep, true), (.keep, false), (.keep, false), (.dead, false), (.dead, false), (.dead, false), (.keep, false), (.dead, false), (.dead, false), (.dead, false), (.dead, false), (.keep, false), (.dead, false), (.dead, false), (.dead, false), (.keep, false)]⟩, [], [], [.bool]⟩)], cnd := fun k => assoc0 k [], loop := fun k => assoc0 k [], nil := fun k => assoc0 k [(24, (.sl (.int .u8))), (25, (.arr 2 .unit)), (47, (.sl (.int .u8))), (49, (.arr 6 .unit)), (55, (.sl (.int .u8))), (57, (.arr 6 .unit)), (68, (.sl (.int .u8)))], unr := fun k => assocN k [], blk := fun k => assoc0 k [] })]
noncomputable def granarylaw03_live_C (N : Nat) : Nat → List GS := fun k => tabOf k [(36, [rs_New_g N]), (18, [granarylaw03_num_g N]), (24, [rs_Code_Encode_g N]), (15, [rs_Code_Rebuild_g N]), (17, [granaryref03_Same_g N])]
def granarylaw03_live_o : List (Shp × List Nat) := [(⟨[(0, (.av (.one .bool)))], []⟩, [])]
noncomputable def granarylaw03_live_g (N : Nat) : GS := { ins := ⟨[], []⟩, lend := [], outs := granarylaw03_live_o.map fun s => ssOf s.1, its := [], ots := [[.bool]], F := granarylaw03_live N }
noncomputable def granarylaw03_live_CA (N : Nat) (f0 : Int × Int → Option ((Unit) ⊕ (Int × Int × (List Int)))) (f1 : Int → Option (Int)) (f2 : (List (List Int)) × Int × Int × (List Int) → Option (Int × Int × Int × (List Int) × (List (List Int)))) (f3 : (List (List Int)) × (List Bool) × Int × Int × (List Int) → Option (Int × Int × Int × (List Int) × (List (List Int)))) (f4 : (List (List Int)) × (List (List Int)) → Option (Bool)) : Nat → List GS := fun k => tabOf k [(36, [{ rs_New_g N with F := f0 }]), (18, [{ granarylaw03_num_g N with F := f1 }]), (24, [{ rs_Code_Encode_g N with F := f2 }]), (15, [{ rs_Code_Rebuild_g N with F := f3 }]), (17, [{ granaryref03_Same_g N with F := f4 }])]
theorem granarylaw03_live_CE (N : Nat) : granarylaw03_live_CA N (rs_New N) (granarylaw03_num) (rs_Code_Encode N) (rs_Code_Rebuild N) (granaryref03_Same N) = granarylaw03_live_C N := by kernel_rfl
theorem granarylaw03_live_t (N : Nat) : TabC Try.prog (granarylaw03_live_C N) := tab_ok ⟨⟨rs_New_ok N, trivial⟩, ⟨granarylaw03_num_ok N, trivial⟩, ⟨rs_Code_Encode_ok N, trivial⟩, ⟨rs_Code_Rebuild_ok N, trivial⟩, ⟨granaryref03_Same_ok N, trivial⟩, trivial⟩
theorem granarylaw03_live_i : loopsOf granarylaw03_live_c = [] := by kernel_rfl
noncomputable def granarylaw03_live_a (N : Nat) (f0 : Int × Int → Option ((Unit) ⊕ (Int × Int × (List Int)))) (f1 : Int → Option (Int)) (f2 : (List (List Int)) × Int × Int × (List Int) → Option (Int × Int × Int × (List Int) × (List (List Int)))) (f3 : (List (List Int)) × (List Bool) × Int × Int × (List Int) → Option (Int × Int × Int × (List Int) × (List (List Int)))) (f4 : (List (List Int)) × (List (List Int)) → Option (Bool)) (x : Unit) : Option (Bool) :=
  (Option.bind (f0 ((2 : Int), (1 : Int))) fun r1 =>
  (match r1 with
  | .inl y2 =>
  (Option.bind (f1 (2 : Int)) fun r4 =>
  (cond (!(decide (r4 = (0 : Int))))
  (some false)
  (some false)))
  | .inr z3 =>
  (Option.bind (f1 (0 : Int)) fun r6 =>
  (cond (!(decide (r6 = (0 : Int))))
  (some false)
  (let v8 : List Int := ([(1 : Int)] : List Int)
  (let v9 : List Int := ([(1 : Int)] : List Int)
  (cond (((decide (1 ≤ (List.length v8))) && ((decide (1 ≤ (List.length v9))) && true)) && true)
  ((Option.bind (f2 (([(List.take 1 (List.drop 0 v8)), (List.take 1 (List.drop 0 v9))] : List (List Int)), z3.1, z3.2.1, z3.2.2)) fun r11 =>
  (Option.bind
  (Option.bind (f1 r11.1) fun r12 =>
  (cond (!(decide (r12 = (0 : Int))))
  (some true)
  (cond (!(decide ((((List.length r11.2.2.2.2) : Nat) : Int) = (1 : Int))))
  (some true)
  (cond (decide ((0 : Int) < (((List.length r11.2.2.2.2) : Nat) : Int)))
  ((cond (decide (0 < (List.length r11.2.2.2.2)))
  ((some (!(decide ((List.map (fun (n : Int) => UInt8.ofNat n.toNat) (List.getD r11.2.2.2.2 0 (EK.dflt (.sl (.int .u8))))) = ([122] : List UInt8))))))
  none))
  none))))
  fun r19 =>
  (cond r19
  (some false)
  (let v20 : List Int := ([(1 : Int)] : List Int)
  (let v21 : List Int := ([(122 : Int)] : List Int)
  (cond (((decide (1 ≤ (List.length v20))) && ((decide (1 ≤ (List.length v21))) && true)) && true)
  ((let v23 : List Bool := ([false, true, true] : List Bool)
  (cond (((decide (3 ≤ (List.length v23))) && true) && true)
  (Option.bind (f3 (([([] : List Int), (List.take 1 (List.drop 0 v20)), (List.take 1 (List.drop 0 v21))] : List (List Int)), (List.take 3 (List.drop 0 v23)), r11.2.1, r11.2.2.1, r11.2.2.2.1)) fun r24 =>
  (let v25 : List Int := ([(122 : Int)] : List Int)
  (cond (((decide (1 ≤ (List.length v25))) && true) && true)
  ((let v27 : List Bool := ([false, false, true] : List Bool)
  (cond (((decide (3 ≤ (List.length v27))) && true) && true)
  (Option.bind (f3 (([([] : List Int), ([] : List Int), (List.take 1 (List.drop 0 v25))] : List (List Int)), (List.take 3 (List.drop 0 v27)), r24.2.1, r24.2.2.1, r24.2.2.2.1)) fun r28 =>
  (Option.bind
  (Option.bind (f1 r24.1) fun r29 =>
  (cond (decide (r29 = (0 : Int)))
  (let v31 : List Int := ([(1 : Int)] : List Int)
  (let v32 : List Int := ([(1 : Int)] : List Int)
  (let v33 : List Int := ([(122 : Int)] : List Int)
  (cond (((decide (1 ≤ (List.length v31))) && ((decide (1 ≤ (List.length v32))) && ((decide (1 ≤ (List.length v33))) && true))) && true)
  ((Option.bind (f4 (r24.2.2.2.2, ([(List.take 1 (List.drop 0 v31)), (List.take 1 (List.drop 0 v32)), (List.take 1 (List.drop 0 v33))] : List (List Int)))) fun r35 =>
  (cond r35
  (Option.bind (f1 r28.1) fun r36 =>
  (some (decide (r36 = (30 : Int)))))
  (some false))))
  none))))
  (some false)))
  fun r38 =>
  (some r38)))
  none)))
  none)))
  none)))
  none)))))))
  none)))))))
theorem granarylaw03_live_f (N : Nat) (f0 : Int × Int → Option ((Unit) ⊕ (Int × Int × (List Int)))) (f1 : Int → Option (Int)) (f2 : (List (List Int)) × Int × Int × (List Int) → Option (Int × Int × Int × (List Int) × (List (List Int)))) (f3 : (List (List Int)) × (List Bool) × Int × Int × (List Int) → Option (Int × Int × Int × (List Int) × (List (List Int)))) (f4 : (List (List Int)) × (List (List Int)) → Option (Bool)) (x) : granarylaw03_live_a N f0 f1 f2 f3 f4 x = fnStep Γ (granarylaw03_live_CA N f0 f1 f2 f3 f4) (granarylaw03_live_J N) 76 Try.f13.results.toList (granarylaw03_live_g N) granarylaw03_live_o granarylaw03_live_c x := by kernel_rfl
theorem granarylaw03_live_e (N : Nat) (x) : (granarylaw03_live_g N).F x = fnStep Γ (granarylaw03_live_C N) (granarylaw03_live_J N) 76 Try.f13.results.toList (granarylaw03_live_g N) granarylaw03_live_o granarylaw03_live_c x := by
  rw [← granarylaw03_live_CE N]
  exact Eq.trans (by kernel_rfl) (granarylaw03_live_f N (rs_New N) (granarylaw03_num) (rs_Code_Encode N) (rs_Code_Rebuild N) (granaryref03_Same N) x)
theorem granarylaw03_live_y : Try.f13.body = some granarylaw03_live_c := by kernel_rfl
theorem granarylaw03_live_n : (Try.f13.name == "runtime.NumGoroutine") = false := by kernel_rfl
theorem granarylaw03_live_ok (N : Nat) : FnDoes Try.prog 13 (granarylaw03_live_g N) := fn_ok tabOK (granarylaw03_live_t N) mixedOK (J := granarylaw03_live_J N) (body := granarylaw03_live_c) Try.func13 granarylaw03_live_y granarylaw03_live_n Try.ntmps13 (jok_from granarylaw03_live_i ⟨trivial, trivial⟩) rfl rfl (le_of_ble rfl) (granarylaw03_live_e N)
noncomputable def rs_Code_Encode_v1_c : Code := codeOf Try.f24.body
noncomputable def rs_Code_Encode_v1_J (N : Nat) : Nat → Hint := fun cx => hintOf cx []
noncomputable def rs_Code_Encode_v1_C (N : Nat) : Nat → List GS := fun k => tabOf k []
def rs_Code_Encode_v1_o : List (Shp × List Nat) := [(⟨[(0, (.tup [(.one (.const .nils)), (.one (.const (.int .i64 (7 : Int))))]))], []⟩, [])]
noncomputable def rs_Code_Encode_v1_g (N : Nat) : GS := { ins := ⟨[(0, (.av (.one (.const .nilp)))), (1, (.av (.one (.rsl (.sl (.int .u8))))))], []⟩, lend := [.keep, .keep], outs := rs_Code_Encode_v1_o.map fun s => ssOf s.1, its := [.lst (.sl (.int .u8))], ots := [[]], F := rs_Code_Encode_v1 }
theorem rs_Code_Encode_v1_t (N : Nat) : TabC Try.prog (rs_Code_Encode_v1_C N) := tab_ok trivial
theorem rs_Code_Encode_v1_i : loopsOf rs_Code_Encode_v1_c = [(0, codeOf (getLoop 0 rs_Code_Encode_v1_c))] := by kernel_rfl
theorem rs_Code_Encode_v1_e (N : Nat) (x) : (rs_Code_Encode_v1_g N).F x = fnStep Γ (rs_Code_Encode_v1_C N) (rs_Code_Encode_v1_J N) 45 Try.f24.results.toList (rs_Code_Encode_v1_g N) rs_Code_Encode_v1_o rs_Code_Encode_v1_c x := by kernel_rfl
theorem rs_Code_Encode_v1_y : Try.f24.body = some rs_Code_Encode_v1_c := by kernel_rfl
theorem rs_Code_Encode_v1_n : (Try.f24.name == "runtime.NumGoroutine") = false := by kernel_rfl
theorem rs_Code_Encode_v1_ok (N : Nat) : FnDoes Try.prog 24 (rs_Code_Encode_v1_g N) := fn_ok tabOK (rs_Code_Encode_v1_t N) mixedOK (J := rs_Code_Encode_v1_J N) (body := rs_Code_Encode_v1_c) Try.func24 rs_Code_Encode_v1_y rs_Code_Encode_v1_n Try.ntmps24 (jok_from rs_Code_Encode_v1_i trivial) rfl rfl (le_of_ble rfl) (rs_Code_Encode_v1_e N)
noncomputable def rs_Code_Check_c : Code := codeOf Try.f26.body
noncomputable def rs_Code_Check_J (N : Nat) : Nat → Hint := fun cx => hintOf cx []
noncomputable def rs_Code_Check_C (N : Nat) : Nat → List GS := fun k => tabOf k []
def rs_Code_Check_o : List (Shp × List Nat) := [(⟨[(0, (.tup [(.one (.const (.bool false))), (.one (.const (.int .i64 (7 : Int))))]))], []⟩, [])]
noncomputable def rs_Code_Check_g (N : Nat) : GS := { ins := ⟨[(0, (.av (.one (.const .nilp)))), (1, (.av (.one (.rsl (.sl (.int .u8))))))], []⟩, lend := [.keep, .keep], outs := rs_Code_Check_o.map fun s => ssOf s.1, its := [.lst (.sl (.int .u8))], ots := [[]], F := rs_Code_Check }
theorem rs_Code_Check_t (N : Nat) : TabC Try.prog (rs_Code_Check_C N) := tab_ok trivial
theorem rs_Code_Check_i : loopsOf rs_Code_Check_c = [(0, codeOf (getLoop 0 rs_Code_Check_c))] := by kernel_rfl
theorem rs_Code_Check_e (N : Nat) (x) : (rs_Code_Check_g N).F x = fnStep Γ (rs_Code_Check_C N) (rs_Code_Check_J N) 66 Try.f26.results.toList (rs_Code_Check_g N) rs_Code_Check_o rs_Code_Check_c x := by kernel_rfl
theorem rs_Code_Check_y : Try.f26.body = some rs_Code_Check_c := by kernel_rfl
theorem rs_Code_Check_n : (Try.f26.name == "runtime.NumGoroutine") = false := by kernel_rfl
theorem rs_Code_Check_ok (N : Nat) : FnDoes Try.prog 26 (rs_Code_Check_g N) := fn_ok tabOK (rs_Code_Check_t N) mixedOK (J := rs_Code_Check_J N) (body := rs_Code_Check_c) Try.func26 rs_Code_Check_y rs_Code_Check_n Try.ntmps26 (jok_from rs_Code_Check_i trivial) rfl rfl (le_of_ble rfl) (rs_Code_Check_e N)
noncomputable def rs_Code_Rebuild_v1_c : Code := codeOf Try.f15.body
noncomputable def rs_Code_Rebuild_v1_J (N : Nat) : Nat → Hint := fun cx => hintOf cx []
noncomputable def rs_Code_Rebuild_v1_C (N : Nat) : Nat → List GS := fun k => tabOf k []
def rs_Code_Rebuild_v1_o : List (Shp × List Nat) := [(⟨[(0, (.tup [(.one (.const .nils)), (.one (.const (.int .i64 (7 : Int))))]))], []⟩, [])]
noncomputable def rs_Code_Rebuild_v1_g (N : Nat) : GS := { ins := ⟨[(0, (.av (.one (.const .nilp)))), (1, (.av (.one (.rsl (.sl (.int .u8)))))), (2, (.av (.one (.rsl .bool))))], []⟩, lend := [.keep, .keep, .keep], outs := rs_Code_Rebuild_v1_o.map fun s => ssOf s.1, its := [.lst (.sl (.int .u8)), .lst .bool], ots := [[]], F := rs_Code_Rebuild_v1 }
theorem rs_Code_Rebuild_v1_t (N : Nat) : TabC Try.prog (rs_Code_Rebuild_v1_C N) := tab_ok trivial
theorem rs_Code_Rebuild_v1_i : loopsOf rs_Code_Rebuild_v1_c = [(0, codeOf (getLoop 0 rs_Code_Rebuild_v1_c)), (3, codeOf (getLoop 3 rs_Code_Rebuild_v1_c))] := by kernel_rfl
theorem rs_Code_Rebuild_v1_e (N : Nat) (x) : (rs_Code_Rebuild_v1_g N).F x = fnStep Γ (rs_Code_Rebuild_v1_C N) (rs_Code_Rebuild_v1_J N) 135 Try.f15.results.toList (rs_Code_Rebuild_v1_g N) rs_Code_Rebuild_v1_o rs_Code_Rebuild_v1_c x := by kernel_rfl
theorem rs_Code_Rebuild_v1_y : Try.f15.body = some rs_Code_Rebuild_v1_c := by kernel_rfl
theorem rs_Code_Rebuild_v1_n : (Try.f15.name == "runtime.NumGoroutine") = false := by kernel_rfl
theorem rs_Code_Rebuild_v1_ok (N : Nat) : FnDoes Try.prog 15 (rs_Code_Rebuild_v1_g N) := fn_ok tabOK (rs_Code_Rebuild_v1_t N) mixedOK (J := rs_Code_Rebuild_v1_J N) (body := rs_Code_Rebuild_v1_c) Try.func15 rs_Code_Rebuild_v1_y rs_Code_Rebuild_v1_n Try.ntmps15 (jok_from rs_Code_Rebuild_v1_i trivial) rfl rfl (le_of_ble rfl) (rs_Code_Rebuild_v1_e N)
noncomputable def rs_Code_Update_c : Code := codeOf Try.f29.body
noncomputable def rs_Code_Update_J (N : Nat) : Nat → Hint := fun cx => hintOf cx []
noncomputable def rs_Code_Update_C (N : Nat) : Nat → List GS := fun k => tabOf k []
def rs_Code_Update_o : List (Shp × List Nat) := [(⟨[(0, (.tup [(.one (.const .nils)), (.one (.const (.int .i64 (7 : Int))))]))], []⟩, [])]
noncomputable def rs_Code_Update_g (N : Nat) : GS := { ins := ⟨[(0, (.av (.one (.const .nilp)))), (1, (.av (.one (.rsl (.sl (.int .u8)))))), (2, (.av (.one (.int .i64)))), (3, (.av (.one (.rsl (.int .u8))))), (4, (.av (.one (.rsl (.int .u8)))))], []⟩, lend := [.keep, .keep, .keep, .keep, .keep], outs := rs_Code_Update_o.map fun s => ssOf s.1, its := [.lst (.sl (.int .u8)), .int, .lst (.int .u8), .lst (.int .u8)], ots := [[]], F := rs_Code_Update }
theorem rs_Code_Update_t (N : Nat) : TabC Try.prog (rs_Code_Update_C N) := tab_ok trivial
theorem rs_Code_Update_i : loopsOf rs_Code_Update_c = [(0, codeOf (getLoop 0 rs_Code_Update_c))] := by kernel_rfl
theorem rs_Code_Update_e (N : Nat) (x) : (rs_Code_Update_g N).F x = fnStep Γ (rs_Code_Update_C N) (rs_Code_Update_J N) 88 Try.f29.results.toList (rs_Code_Update_g N) rs_Code_Update_o rs_Code_Update_c x := by kernel_rfl
theorem rs_Code_Update_y : Try.f29.body = some rs_Code_Update_c := by kernel_rfl
theorem rs_Code_Update_n : (Try.f29.name == "runtime.NumGoroutine") = false := by kernel_rfl
theorem rs_Code_Update_ok (N : Nat) : FnDoes Try.prog 29 (rs_Code_Update_g N) := fn_ok tabOK (rs_Code_Update_t N) mixedOK (J := rs_Code_Update_J N) (body := rs_Code_Update_c) Try.func29 rs_Code_Update_y rs_Code_Update_n Try.ntmps29 (jok_from rs_Code_Update_i trivial) rfl rfl (le_of_ble rfl) (rs_Code_Update_e N)
noncomputable def rs_Code_Split_c : Code := codeOf Try.f31.body
noncomputable def rs_Code_Split_J (N : Nat) : Nat → Hint := fun cx => hintOf cx []
noncomputable def rs_Code_Split_C (N : Nat) : Nat → List GS := fun k => tabOf k []
def rs_Code_Split_o : List (Shp × List Nat) := [(⟨[(0, (.tup [(.one (.const .nils)), (.one (.const (.int .i64 (7 : Int))))]))], []⟩, [])]
noncomputable def rs_Code_Split_g (N : Nat) : GS := { ins := ⟨[(0, (.av (.one (.const .nilp)))), (1, (.av (.one (.rsl (.int .u8)))))], []⟩, lend := [.keep, .keep], outs := rs_Code_Split_o.map fun s => ssOf s.1, its := [.lst (.int .u8)], ots := [[]], F := rs_Code_Split }
theorem rs_Code_Split_t (N : Nat) : TabC Try.prog (rs_Code_Split_C N) := tab_ok trivial
theorem rs_Code_Split_i : loopsOf rs_Code_Split_c = [(0, codeOf (getLoop 0 rs_Code_Split_c))] := by kernel_rfl
theorem rs_Code_Split_e (N : Nat) (x) : (rs_Code_Split_g N).F x = fnStep Γ (rs_Code_Split_C N) (rs_Code_Split_J N) 52 Try.f31.results.toList (rs_Code_Split_g N) rs_Code_Split_o rs_Code_Split_c x := by kernel_rfl
theorem rs_Code_Split_y : Try.f31.body = some rs_Code_Split_c := by kernel_rfl
theorem rs_Code_Split_n : (Try.f31.name == "runtime.NumGoroutine") = false := by kernel_rfl
theorem rs_Code_Split_ok (N : Nat) : FnDoes Try.prog 31 (rs_Code_Split_g N) := fn_ok tabOK (rs_Code_Split_t N) mixedOK (J := rs_Code_Split_J N) (body := rs_Code_Split_c) Try.func31 rs_Code_Split_y rs_Code_Split_n Try.ntmps31 (jok_from rs_Code_Split_i trivial) rfl rfl (le_of_ble rfl) (rs_Code_Split_e N)
noncomputable def rs_Code_Join_c : Code := codeOf Try.f33.body
noncomputable def rs_Code_Join_J (N : Nat) : Nat → Hint := fun cx => hintOf cx []
noncomputable def rs_Code_Join_C (N : Nat) : Nat → List GS := fun k => tabOf k []
def rs_Code_Join_o : List (Shp × List Nat) := [(⟨[(0, (.tup [(.one (.const .nils)), (.one (.const (.int .i64 (7 : Int))))]))], []⟩, [])]
noncomputable def rs_Code_Join_g (N : Nat) : GS := { ins := ⟨[(0, (.av (.one (.const .nilp)))), (1, (.av (.one (.rsl (.sl (.int .u8)))))), (2, (.av (.one (.int .i64))))], []⟩, lend := [.keep, .keep, .keep], outs := rs_Code_Join_o.map fun s => ssOf s.1, its := [.lst (.sl (.int .u8)), .int], ots := [[]], F := rs_Code_Join }
theorem rs_Code_Join_t (N : Nat) : TabC Try.prog (rs_Code_Join_C N) := tab_ok trivial
theorem rs_Code_Join_i : loopsOf rs_Code_Join_c = [(0, codeOf (getLoop 0 rs_Code_Join_c))] := by kernel_rfl
theorem rs_Code_Join_e (N : Nat) (x) : (rs_Code_Join_g N).F x = fnStep Γ (rs_Code_Join_C N) (rs_Code_Join_J N) 49 Try.f33.results.toList (rs_Code_Join_g N) rs_Code_Join_o rs_Code_Join_c x := by kernel_rfl
theorem rs_Code_Join_y : Try.f33.body = some rs_Code_Join_c := by kernel_rfl
theorem rs_Code_Join_n : (Try.f33.name == "runtime.NumGoroutine") = false := by kernel_rfl
theorem rs_Code_Join_ok (N : Nat) : FnDoes Try.prog 33 (rs_Code_Join_g N) := fn_ok tabOK (rs_Code_Join_t N) mixedOK (J := rs_Code_Join_J N) (body := rs_Code_Join_c) Try.func33 rs_Code_Join_y rs_Code_Join_n Try.ntmps33 (jok_from rs_Code_Join_i trivial) rfl rfl (le_of_ble rfl) (rs_Code_Join_e N)
noncomputable def rs_Code_Data_c : Code := codeOf Try.f20.body
noncomputable def rs_Code_Data_J (N : Nat) : Nat → Hint := fun cx => hintOf cx []
noncomputable def rs_Code_Data_C (N : Nat) : Nat → List GS := fun k => tabOf k []
def rs_Code_Data_o : List (Shp × List Nat) := [(⟨[(0, (.av (.one (.const (.int .i64 (0 : Int))))))], []⟩, [])]
noncomputable def rs_Code_Data_g (N : Nat) : GS := { ins := ⟨[(0, (.av (.one (.const .nilp))))], []⟩, lend := [.keep], outs := rs_Code_Data_o.map fun s => ssOf s.1, its := [], ots := [[]], F := rs_Code_Data }
theorem rs_Code_Data_t (N : Nat) : TabC Try.prog (rs_Code_Data_C N) := tab_ok trivial
theorem rs_Code_Data_i : loopsOf rs_Code_Data_c = [] := by kernel_rfl
theorem rs_Code_Data_e (N : Nat) (x) : (rs_Code_Data_g N).F x = fnStep Γ (rs_Code_Data_C N) (rs_Code_Data_J N) 9 Try.f20.results.toList (rs_Code_Data_g N) rs_Code_Data_o rs_Code_Data_c x := by kernel_rfl
theorem rs_Code_Data_y : Try.f20.body = some rs_Code_Data_c := by kernel_rfl
theorem rs_Code_Data_n : (Try.f20.name == "runtime.NumGoroutine") = false := by kernel_rfl
theorem rs_Code_Data_ok (N : Nat) : FnDoes Try.prog 20 (rs_Code_Data_g N) := fn_ok tabOK (rs_Code_Data_t N) mixedOK (J := rs_Code_Data_J N) (body := rs_Code_Data_c) Try.func20 rs_Code_Data_y rs_Code_Data_n Try.ntmps20 (jok_from rs_Code_Data_i trivial) rfl rfl (le_of_ble rfl) (rs_Code_Data_e N)
noncomputable def rs_Code_Parity_c : Code := codeOf Try.f21.body
noncomputable def rs_Code_Parity_J (N : Nat) : Nat → Hint := fun cx => hintOf cx []
noncomputable def rs_Code_Parity_C (N : Nat) : Nat → List GS := fun k => tabOf k []
def rs_Code_Parity_o : List (Shp × List Nat) := [(⟨[(0, (.av (.one (.const (.int .i64 (0 : Int))))))], []⟩, [])]
noncomputable def rs_Code_Parity_g (N : Nat) : GS := { ins := ⟨[(0, (.av (.one (.const .nilp))))], []⟩, lend := [.keep], outs := rs_Code_Parity_o.map fun s => ssOf s.1, its := [], ots := [[]], F := rs_Code_Parity }
theorem rs_Code_Parity_t (N : Nat) : TabC Try.prog (rs_Code_Parity_C N) := tab_ok trivial
theorem rs_Code_Parity_i : loopsOf rs_Code_Parity_c = [] := by kernel_rfl
theorem rs_Code_Parity_e (N : Nat) (x) : (rs_Code_Parity_g N).F x = fnStep Γ (rs_Code_Parity_C N) (rs_Code_Parity_J N) 9 Try.f21.results.toList (rs_Code_Parity_g N) rs_Code_Parity_o rs_Code_Parity_c x := by kernel_rfl
theorem rs_Code_Parity_y : Try.f21.body = some rs_Code_Parity_c := by kernel_rfl
theorem rs_Code_Parity_n : (Try.f21.name == "runtime.NumGoroutine") = false := by kernel_rfl
theorem rs_Code_Parity_ok (N : Nat) : FnDoes Try.prog 21 (rs_Code_Parity_g N) := fn_ok tabOK (rs_Code_Parity_t N) mixedOK (J := rs_Code_Parity_J N) (body := rs_Code_Parity_c) Try.func21 rs_Code_Parity_y rs_Code_Parity_n Try.ntmps21 (jok_from rs_Code_Parity_i trivial) rfl rfl (le_of_ble rfl) (rs_Code_Parity_e N)
noncomputable def rs_Code_Row_v1_c : Code := codeOf Try.f22.body
noncomputable def rs_Code_Row_v1_J (N : Nat) : Nat → Hint := fun cx => hintOf cx [(0, { reg := fun k => assoc0 k [], cnd := fun k => assoc0 k [], loop := fun k => assoc0 k [], nil := fun k => assoc0 k [], unr := fun k => assocN k [], blk := fun k => assoc0 k [] })]
noncomputable def rs_Code_Row_v1_C (N : Nat) : Nat → List GS := fun k => tabOf k []
def rs_Code_Row_v1_o : List (Shp × List Nat) := [(⟨[(0, (.av (.one (.const .nils))))], []⟩, [])]
noncomputable def rs_Code_Row_v1_g (N : Nat) : GS := { ins := ⟨[(0, (.av (.one (.const .nilp)))), (1, (.av (.one (.int .i64))))], []⟩, lend := [.keep, .keep], outs := rs_Code_Row_v1_o.map fun s => ssOf s.1, its := [.int], ots := [[]], F := rs_Code_Row_v1 }
theorem rs_Code_Row_v1_t (N : Nat) : TabC Try.prog (rs_Code_Row_v1_C N) := tab_ok trivial
theorem rs_Code_Row_v1_i : loopsOf rs_Code_Row_v1_c = [] := by kernel_rfl
theorem rs_Code_Row_v1_e (N : Nat) (x) : (rs_Code_Row_v1_g N).F x = fnStep Γ (rs_Code_Row_v1_C N) (rs_Code_Row_v1_J N) 51 Try.f22.results.toList (rs_Code_Row_v1_g N) rs_Code_Row_v1_o rs_Code_Row_v1_c x := by kernel_rfl
theorem rs_Code_Row_v1_y : Try.f22.body = some rs_Code_Row_v1_c := by kernel_rfl
theorem rs_Code_Row_v1_n : (Try.f22.name == "runtime.NumGoroutine") = false := by kernel_rfl
theorem rs_Code_Row_v1_ok (N : Nat) : FnDoes Try.prog 22 (rs_Code_Row_v1_g N) := fn_ok tabOK (rs_Code_Row_v1_t N) mixedOK (J := rs_Code_Row_v1_J N) (body := rs_Code_Row_v1_c) Try.func22 rs_Code_Row_v1_y rs_Code_Row_v1_n Try.ntmps22 (jok_from rs_Code_Row_v1_i ⟨trivial, trivial⟩) rfl rfl (le_of_ble rfl) (rs_Code_Row_v1_e N)
end Go.Rf.W
