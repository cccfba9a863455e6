/-
  The printed functions are what the program does.
-/
import Derived.Test.YtoabbnfjnjbjfaaRsK0
set_option linter.unusedVariables false
set_option maxRecDepth 100000
namespace Go.Rf.W
open Go Go.Rf Go.Proofs
noncomputable def rs_Code_Rebuild_c : Code := codeOf Try.f15.body
noncomputable def rs_Code_Rebuild_c0 : Code := codeOf (getLoop 0 rs_Code_Rebuild_c)
noncomputable def rs_Code_Rebuild_c3 : Code := codeOf (getLoop 3 rs_Code_Rebuild_c)
def rs_Code_Rebuild_d0 : LD := { ins := ⟨[(0, (.av (.one (.const (.ptr ⟨0, 0, 0, 0⟩))))), (1, (.av (.one (.rsl (.sl (.int .u8)))))), (2, (.av (.one (.rsl .bool)))), (8, (.av (.one (.const (.slw 4 1))))), (9, (.av (.one (.const (.slw 5 1))))), (47, (.av (.one (.rsl .bool)))), (48, (.av (.one (.int .i64)))), (49, (.av (.one (.int .i64))))], [(.keep, false), (.keep, false), (.keep, false), (.keep, false), (.sh (.arr (.sl (.int .u8)) none), false), (.sh (.arr (.int .i64) none), false)]⟩, mov := [4, 5], wr := [], outs := [(.exit 0, ⟨[(8, (.av (.one (.const (.slw 6 1))))), (9, (.av (.one (.const (.slw 7 1)))))], [(.keep, false), (.keep, false), (.keep, false), (.keep, false), (.dead, false), (.dead, false), (.sh (.arr (.sl (.int .u8)) none), false), (.sh (.arr (.int .i64) none), false)]⟩)], its := [.lst (.sl (.int .u8)), .lst .bool, .lst .bool, .int, .int, .lst (.sl (.int .u8)), .lst (.int .i64)], ots := [[.lst (.sl (.int .u8)), .lst (.int .i64)]] }
def rs_Code_Rebuild_d3 : LD := { ins := ⟨[(0, (.av (.one (.const (.ptr ⟨0, 0, 0, 0⟩))))), (1, (.av (.one (.rsl (.sl (.int .u8)))))), (12, (.av (.one (.int .i64)))), (14, (.av (.one (.const (.slw 8 1))))), (15, (.av (.one (.const (.slw 9 1))))), (105, (.av (.one (.rsl .bool)))), (106, (.av (.one (.int .i64)))), (107, (.av (.one (.int .i64))))], [(.sh (.one (.int .i64)), true), (.sh (.one (.int .i64)), true), (.sh (.one (.const (.slw 3 1))), false), (.sh (.arr (.int .u8) none), false), (.keep, false), (.keep, false), (.keep, false), (.keep, false), (.sh (.arr (.sl (.int .u8)) none), false), (.sh (.arr (.sl (.int .u8)) none), false)]⟩, mov := [9], wr := [0, 1, 2, 3, 8], outs := [(.exit 3, ⟨[(15, (.av (.one (.const (.slw 10 1)))))], [(.sh (.one (.int .i64)), true), (.sh (.one (.int .i64)), true), (.sh (.one (.const (.slw 3 1))), false), (.sh (.arr (.int .u8) none), false), (.keep, false), (.keep, false), (.keep, false), (.keep, false), (.sh (.arr (.sl (.int .u8)) none), false), (.dead, false), (.sh (.arr (.sl (.int .u8)) none), false)]⟩)], its := [.lst (.sl (.int .u8)), .int, .lst .bool, .int, .int, .int, .int, .lst (.int .u8), .lst (.sl (.int .u8)), .lst (.sl (.int .u8))], ots := [[.int, .int, .lst (.int .u8), .lst (.sl (.int .u8)), .lst (.sl (.int .u8))]] }
noncomputable def rs_Code_Rebuild_J (N : Nat) : Nat → Hint := fun cx => hintOf cx [(0, { reg := fun k => assoc0 k [(3, ⟨⟨[(46, (.av (.one .bool)))], [(.keep, true), (.keep, true), (.keep, false), (.keep, false)]⟩, [], [], [.bool]⟩)], cnd := fun k => assoc0 k [(54, ⟨[4, 5], [], [(.normal, ⟨[(8, (.av (.one (.const (.slw 6 1))))), (9, (.av (.one (.const (.slw 7 1)))))], [(.dead, false), (.dead, false), (.dead, false), (.dead, false), (.dead, false), (.dead, false), (.sh (.arr (.sl (.int .u8)) none), false), (.sh (.arr (.int .i64) none), false)]⟩)], [[.lst (.sl (.int .u8)), .lst (.int .i64)]]⟩), (114, ⟨[], [0, 1, 2, 3, 10], [(.normal, ⟨[], [(.sh (.one (.int .i64)), true), (.sh (.one (.int .i64)), true), (.sh (.one (.const (.slw 3 1))), false), (.sh (.arr (.int .u8) none), false), (.dead, false), (.dead, false), (.dead, false), (.dead, false), (.keep, false), (.keep, false), (.sh (.arr (.int .u8) none), false)]⟩)], [[.int, .int, .lst (.int .u8), .lst (.int .u8)]]⟩)], loop := fun k => assoc0 k [(0, ⟨rs_Code_Rebuild_d0, loopF (rs_Code_Rebuild_b0 N) N⟩), (3, ⟨rs_Code_Rebuild_d3, loopF (rs_Code_Rebuild_b3 N) N⟩)], nil := fun k => assoc0 k [(99, (.arr 6 .unit)), (131, (.sl (.int .u8)))], unr := fun k => assocN k [], blk := fun k => assoc0 k [] })]
noncomputable def rs_Code_Rebuild_C (N : Nat) : Nat → List GS := fun k => tabOf k [(38, [rs_even_v1_g N]), (39, [rs_Code_solve_g N]), (22, [rs_Code_Row_g N]), (40, [rs_mixed_v1_g N])]
def rs_Code_Rebuild_o : List (Shp × List Nat) := [(⟨[(0, (.tup [(.one (.const (.slw 4 1))), (.one (.int .i64))]))], [(.sh (.one (.int .i64)), true), (.sh (.one (.int .i64)), true), (.sh (.one (.const (.slw 3 1))), false), (.sh (.arr (.int .u8) none), false), (.sh (.arr (.sl (.int .u8)) none), false)]⟩, [])]
noncomputable def rs_Code_Rebuild_g (N : Nat) : GS := { ins := ⟨[(0, (.av (.one (.const (.ptr ⟨0, 0, 0, 0⟩))))), (1, (.av (.one (.rsl (.sl (.int .u8)))))), (2, (.av (.one (.rsl .bool))))], [(some (.one (.int .i64)), true), (some (.one (.int .i64)), true), (some (.one (.const (.slw 3 1))), false), (some (.arr (.int .u8) none), false)]⟩, lend := [.keep, .keep, .keep], outs := rs_Code_Rebuild_o.map fun s => ssOf s.1, its := [.lst (.sl (.int .u8)), .lst .bool, .int, .int, .lst (.int .u8)], ots := [[.int, .int, .int, .lst (.int .u8), .lst (.sl (.int .u8))]], F := rs_Code_Rebuild N }
noncomputable def rs_Code_Rebuild_CA (N : Nat) (f0 : (List (List Int)) → Option (Int × Int)) (f1 : (List (List Int)) × (List Int) × Int × Int × Int × (List Int) → Option (Int × Int × Int × (List Int) × (List (List Int)))) (f2 : Int × Int × Int × (List Int) → Option (Int × Int × (List Int) × (List Int))) (f3 : (List Int) × (List (List Int)) × Int → Option ((List Int))) : Nat → List GS := fun k => tabOf k [(38, [{ rs_even_v1_g N with F := f0 }]), (39, [{ rs_Code_solve_g N with F := f1 }]), (22, [{ rs_Code_Row_g N with F := f2 }]), (40, [{ rs_mixed_v1_g N with F := f3 }])]
theorem rs_Code_Rebuild_CE (N : Nat) : rs_Code_Rebuild_CA N (rs_even_v1 N) (rs_Code_solve N) (rs_Code_Row) (rs_mixed_v1 N) = rs_Code_Rebuild_C N := by kernel_rfl
theorem rs_Code_Rebuild_t (N : Nat) : TabC Try.prog (rs_Code_Rebuild_C N) := tab_ok ⟨⟨rs_even_v1_ok N, trivial⟩, ⟨rs_Code_solve_ok N, trivial⟩, ⟨rs_Code_Row_ok N, trivial⟩, ⟨rs_mixed_v1_ok N, trivial⟩, trivial⟩
theorem rs_Code_Rebuild_i0 : loopsOf rs_Code_Rebuild_c0 = [] := by kernel_rfl
noncomputable def rs_Code_Rebuild_a0 (N : Nat) (f0 : (List (List Int)) → Option (Int × Int)) (f1 : (List (List Int)) × (List Int) × Int × Int × Int × (List Int) → Option (Int × Int × Int × (List Int) × (List (List Int)))) (f2 : Int × Int × Int × (List Int) → Option (Int × Int × (List Int) × (List Int))) (f3 : (List Int) × (List (List Int)) × Int → Option ((List Int))) (next : (List (List Int)) × (List Bool) × (List Bool) × Int × Int × (List (List Int)) × (List Int) → Option (((List (List Int)) × (List Int)))) (x : (List (List Int)) × (List Bool) × (List Bool) × Int × Int × (List (List Int)) × (List Int)) : Option (((List (List Int)) × (List Int))) :=
  (cond (decide (x.2.2.2.2.1 < x.2.2.2.1))
  (cond ((decide ((0 : Int) ≤ x.2.2.2.2.1)) && (decide (x.2.2.2.2.1 < (((List.length x.2.2.1) : Nat) : Int))))
  ((Option.bind
  (cond (List.getD x.2.2.1 (Int.toNat x.2.2.2.2.1) (EK.dflt .bool))
  (cond ((decide ((0 : Int) ≤ x.2.2.2.2.1)) && (decide (x.2.2.2.2.1 < (((List.length x.1) : Nat) : Int))))
  ((let v4 : List (List Int) := ([(List.getD x.1 (Int.toNat x.2.2.2.2.1) (EK.dflt (.sl (.int .u8))))] : List (List Int))
  (cond ((decide (1 ≤ (List.length v4))) && (fits 24 ((List.length x.2.2.2.2.2.1) + (List.length (List.take 1 (List.drop 0 v4))))))
  ((let v6 : List Int := ([x.2.2.2.2.1] : List Int)
  (cond ((decide (1 ≤ (List.length v6))) && (fits 8 ((List.length x.2.2.2.2.2.2) + (List.length (List.take 1 (List.drop 0 v6))))))
  ((some ((x.2.2.2.2.2.1 ++ (List.take 1 (List.drop 0 v4))), (x.2.2.2.2.2.2 ++ (List.take 1 (List.drop 0 v6))))))
  none)))
  none)))
  none)
  (some (x.2.2.2.2.2.1, x.2.2.2.2.2.2)))
  fun r8 =>
  (next (x.1, x.2.1, x.2.2.1, x.2.2.2.1, (wrapF .i64 (x.2.2.2.2.1 + (1 : Int))), r8.1, r8.2))))
  none)
  (some (x.2.2.2.2.2.1, x.2.2.2.2.2.2)))
theorem rs_Code_Rebuild_f0 (N : Nat) (f0 : (List (List Int)) → Option (Int × Int)) (f1 : (List (List Int)) × (List Int) × Int × Int × Int × (List Int) → Option (Int × Int × Int × (List Int) × (List (List Int)))) (f2 : Int × Int × Int × (List Int) → Option (Int × Int × (List Int) × (List Int))) (f3 : (List Int) × (List (List Int)) × Int → Option ((List Int))) (next) (x) : rs_Code_Rebuild_a0 N f0 f1 f2 f3 next x = loopStep Γ (rs_Code_Rebuild_CA N f0 f1 f2 f3) (rs_Code_Rebuild_J N) 0 135 rs_Code_Rebuild_d0 rs_Code_Rebuild_c0 next x := by kernel_rfl
theorem rs_Code_Rebuild_e0 (N : Nat) (next) (x) : rs_Code_Rebuild_b0 N next x = loopStep Γ (rs_Code_Rebuild_C N) (rs_Code_Rebuild_J N) 0 135 rs_Code_Rebuild_d0 rs_Code_Rebuild_c0 next x := by
  rw [← rs_Code_Rebuild_CE N]
  exact Eq.trans (by kernel_rfl) (rs_Code_Rebuild_f0 N (rs_even_v1 N) (rs_Code_solve N) (rs_Code_Row) (rs_mixed_v1 N) next x)
theorem rs_Code_Rebuild_k0 (N : Nat) : LoopOK Try.prog 135 rs_Code_Rebuild_c0 ⟨rs_Code_Rebuild_d0, loopF (rs_Code_Rebuild_b0 N) N⟩ := loop_ok tabOK (rs_Code_Rebuild_t N) mixedOK (J := rs_Code_Rebuild_J N) (cx := 0) (body := rs_Code_Rebuild_c0) (nt := 135) (l := rs_Code_Rebuild_d0) (b := rs_Code_Rebuild_b0 N) (jok_from rs_Code_Rebuild_i0 ⟨trivial, trivial⟩) (rs_Code_Rebuild_e0 N) N
theorem rs_Code_Rebuild_i3 : loopsOf rs_Code_Rebuild_c3 = [] := by kernel_rfl
noncomputable def rs_Code_Rebuild_a3 (N : Nat) (f0 : (List (List Int)) → Option (Int × Int)) (f1 : (List (List Int)) × (List Int) × Int × Int × Int × (List Int) → Option (Int × Int × Int × (List Int) × (List (List Int)))) (f2 : Int × Int × Int × (List Int) → Option (Int × Int × (List Int) × (List Int))) (f3 : (List Int) × (List (List Int)) × Int → Option ((List Int))) (next : (List (List Int)) × Int × (List Bool) × Int × Int × Int × Int × (List Int) × (List (List Int)) × (List (List Int)) → Option ((Int × Int × (List Int) × (List (List Int)) × (List (List Int))))) (x : (List (List Int)) × Int × (List Bool) × Int × Int × Int × Int × (List Int) × (List (List Int)) × (List (List Int))) : Option ((Int × Int × (List Int) × (List (List Int)) × (List (List Int)))) :=
  (cond (decide (x.2.2.2.2.1 < x.2.2.2.1))
  (cond ((decide ((0 : Int) ≤ x.2.2.2.2.1)) && (decide (x.2.2.2.2.1 < (((List.length x.2.2.1) : Nat) : Int))))
  ((cond ((decide ((0 : Int) ≤ x.2.1)) && (fits 1 (Int.toNat x.2.1)))
  ((let v3 : List Int := (List.replicate (Int.toNat x.2.1) (EK.dflt (.int .u8)))
  (Option.bind
  (cond (List.getD x.2.2.1 (Int.toNat x.2.2.2.2.1) (EK.dflt .bool))
  (cond ((decide ((0 : Int) ≤ x.2.2.2.2.1)) && (decide (x.2.2.2.2.1 < (((List.length x.1) : Nat) : Int))))
  ((let v4 : (List Int) := (List.getD x.1 (Int.toNat x.2.2.2.2.1) (EK.dflt (.sl (.int .u8))))
  (cond (decide ((0 + (List.length v3)) ≤ (List.length v3)))
  ((some (x.2.2.2.2.2.1, x.2.2.2.2.2.2.1, x.2.2.2.2.2.2.2.1, (List.take 0 v3 ++ List.take (min (List.length v4) (List.length v3)) v4 ++ List.drop (0 + (min (List.length v4) (List.length v3))) v3))))
  none)))
  none)
  (Option.bind (f2 (x.2.2.2.2.1, x.2.2.2.2.2.1, x.2.2.2.2.2.2.1, x.2.2.2.2.2.2.2.1)) fun r7 =>
  (Option.bind (f3 (r7.2.2.2, x.2.2.2.2.2.2.2.2.1, x.2.1)) fun r8 =>
  (cond (decide ((0 + (List.length v3)) ≤ (List.length v3)))
  ((some (r7.1, r7.2.1, r7.2.2.1, (List.take 0 v3 ++ List.take (min (List.length r8) (List.length v3)) r8 ++ List.drop (0 + (min (List.length r8) (List.length v3))) v3))))
  none))))
  fun r11 =>
  (let v12 : List (List Int) := ([r11.2.2.2] : List (List Int))
  (cond (fits 24 ((List.length x.2.2.2.2.2.2.2.2.2) + (List.length v12)))
  ((next (x.1, x.2.1, x.2.2.1, x.2.2.2.1, (wrapF .i64 (x.2.2.2.2.1 + (1 : Int))), r11.1, r11.2.1, r11.2.2.1, x.2.2.2.2.2.2.2.2.1, (x.2.2.2.2.2.2.2.2.2 ++ v12))))
  none)))))
  none))
  none)
  (some (x.2.2.2.2.2.1, x.2.2.2.2.2.2.1, x.2.2.2.2.2.2.2.1, x.2.2.2.2.2.2.2.2.1, x.2.2.2.2.2.2.2.2.2)))
theorem rs_Code_Rebuild_f3 (N : Nat) (f0 : (List (List Int)) → Option (Int × Int)) (f1 : (List (List Int)) × (List Int) × Int × Int × Int × (List Int) → Option (Int × Int × Int × (List Int) × (List (List Int)))) (f2 : Int × Int × Int × (List Int) → Option (Int × Int × (List Int) × (List Int))) (f3 : (List Int) × (List (List Int)) × Int → Option ((List Int))) (next) (x) : rs_Code_Rebuild_a3 N f0 f1 f2 f3 next x = loopStep Γ (rs_Code_Rebuild_CA N f0 f1 f2 f3) (rs_Code_Rebuild_J N) 0 135 rs_Code_Rebuild_d3 rs_Code_Rebuild_c3 next x := by kernel_rfl
theorem rs_Code_Rebuild_e3 (N : Nat) (next) (x) : rs_Code_Rebuild_b3 N next x = loopStep Γ (rs_Code_Rebuild_C N) (rs_Code_Rebuild_J N) 0 135 rs_Code_Rebuild_d3 rs_Code_Rebuild_c3 next x := by
  rw [← rs_Code_Rebuild_CE N]
  exact Eq.trans (by kernel_rfl) (rs_Code_Rebuild_f3 N (rs_even_v1 N) (rs_Code_solve N) (rs_Code_Row) (rs_mixed_v1 N) next x)
theorem rs_Code_Rebuild_k3 (N : Nat) : LoopOK Try.prog 135 rs_Code_Rebuild_c3 ⟨rs_Code_Rebuild_d3, loopF (rs_Code_Rebuild_b3 N) N⟩ := loop_ok tabOK (rs_Code_Rebuild_t N) mixedOK (J := rs_Code_Rebuild_J N) (cx := 0) (body := rs_Code_Rebuild_c3) (nt := 135) (l := rs_Code_Rebuild_d3) (b := rs_Code_Rebuild_b3 N) (jok_from rs_Code_Rebuild_i3 ⟨trivial, trivial⟩) (rs_Code_Rebuild_e3 N) N
theorem rs_Code_Rebuild_i : loopsOf rs_Code_Rebuild_c = [(0, rs_Code_Rebuild_c0), (3, rs_Code_Rebuild_c3)] := by kernel_rfl
noncomputable def rs_Code_Rebuild_a (N : Nat) (f0 : (List (List Int)) → Option (Int × Int)) (f1 : (List (List Int)) × (List Int) × Int × Int × Int × (List Int) → Option (Int × Int × Int × (List Int) × (List (List Int)))) (f2 : Int × Int × Int × (List Int) → Option (Int × Int × (List Int) × (List Int))) (f3 : (List Int) × (List (List Int)) × Int → Option ((List Int))) (x : (List (List Int)) × (List Bool) × Int × Int × (List Int)) : Option (Int × Int × Int × (List Int) × (List (List Int))) :=
  (Option.bind
  (cond (!(decide ((((List.length x.1) : Nat) : Int) = (wrapF .i64 (x.2.2.1 + x.2.2.2.1)))))
  (some true)
  (some (!(decide ((((List.length x.2.1) : Nat) : Int) = (wrapF .i64 (x.2.2.1 + x.2.2.2.1)))))))
  fun r7 =>
  (cond r7
  (some ((2 : Int), x.2.2.1, x.2.2.2.1, x.2.2.2.2, ([] : List (List Int))))
  (Option.bind (rs_Code_Rebuild_l0 N (x.1, x.2.1, x.2.1, (((List.length x.2.1) : Nat) : Int), (0 : Int), ([] : List (List Int)), ([] : List Int))) fun r9 =>
  (Option.bind (f0 r9.1) fun r10 =>
  (cond (!(decide (r10.2 = (0 : Int))))
  (some (r10.2, x.2.2.1, x.2.2.2.1, x.2.2.2.2, ([] : List (List Int))))
  (cond (decide ((((List.length r9.1) : Nat) : Int) < x.2.2.1))
  (some ((30 : Int), x.2.2.1, x.2.2.2.1, x.2.2.2.2, ([] : List (List Int))))
  (cond ((decide ((0 : Int) ≤ x.2.2.1)) && (decide (x.2.2.1 ≤ (((List.length r9.1) : Nat) : Int))))
  ((let v14 : Nat := (Int.toNat x.2.2.1)
  (cond ((decide ((0 : Int) ≤ x.2.2.1)) && (decide (x.2.2.1 ≤ (((List.length r9.2) : Nat) : Int))))
  ((let v15 : Nat := (Int.toNat x.2.2.1)
  (cond (((decide ((0 + v14) ≤ (List.length r9.1))) && ((decide ((0 + v15) ≤ (List.length r9.2))) && true)) && true)
  (Option.bind (f1 ((List.take v14 (List.drop 0 r9.1)), (List.take v15 (List.drop 0 r9.2)), r10.1, x.2.2.1, x.2.2.2.1, x.2.2.2.2)) fun r16 =>
  (cond (!(decide (r16.1 = (0 : Int))))
  (some (r16.1, r16.2.1, r16.2.2.1, r16.2.2.2.1, ([] : List (List Int))))
  (Option.bind (rs_Code_Rebuild_l3 N (x.1, r10.1, x.2.1, (((List.length x.2.1) : Nat) : Int), (0 : Int), r16.2.1, r16.2.2.1, r16.2.2.2.1, r16.2.2.2.2, ([] : List (List Int)))) fun r19 =>
  (some ((0 : Int), r19.1, r19.2.1, r19.2.2.1, r19.2.2.2.2)))))
  none)))
  none)))
  none)))))))
theorem rs_Code_Rebuild_f (N : Nat) (f0 : (List (List Int)) → Option (Int × Int)) (f1 : (List (List Int)) × (List Int) × Int × Int × Int × (List Int) → Option (Int × Int × Int × (List Int) × (List (List Int)))) (f2 : Int × Int × Int × (List Int) → Option (Int × Int × (List Int) × (List Int))) (f3 : (List Int) × (List (List Int)) × Int → Option ((List Int))) (x) : rs_Code_Rebuild_a N f0 f1 f2 f3 x = fnStep Γ (rs_Code_Rebuild_CA N f0 f1 f2 f3) (rs_Code_Rebuild_J N) 135 Try.f15.results.toList (rs_Code_Rebuild_g N) rs_Code_Rebuild_o rs_Code_Rebuild_c x := by kernel_rfl
theorem rs_Code_Rebuild_e (N : Nat) (x) : (rs_Code_Rebuild_g N).F x = fnStep Γ (rs_Code_Rebuild_C N) (rs_Code_Rebuild_J N) 135 Try.f15.results.toList (rs_Code_Rebuild_g N) rs_Code_Rebuild_o rs_Code_Rebuild_c x := by
  rw [← rs_Code_Rebuild_CE N]
  exact Eq.trans (by kernel_rfl) (rs_Code_Rebuild_f N (rs_even_v1 N) (rs_Code_solve N) (rs_Code_Row) (rs_mixed_v1 N) x)
theorem rs_Code_Rebuild_y : Try.f15.body = some rs_Code_Rebuild_c := by kernel_rfl
theorem rs_Code_Rebuild_n : (Try.f15.name == "runtime.NumGoroutine") = false := by kernel_rfl
theorem rs_Code_Rebuild_ok (N : Nat) : FnDoes Try.prog 15 (rs_Code_Rebuild_g N) := fn_ok tabOK (rs_Code_Rebuild_t N) mixedOK (J := rs_Code_Rebuild_J N) (body := rs_Code_Rebuild_c) Try.func15 rs_Code_Rebuild_y rs_Code_Rebuild_n Try.ntmps15 (jok_from rs_Code_Rebuild_i ⟨⟨.inr ⟨_, rfl, rs_Code_Rebuild_k0 N⟩, .inr ⟨_, rfl, rs_Code_Rebuild_k3 N⟩, trivial⟩, trivial⟩) rfl rfl (le_of_ble rfl) (rs_Code_Rebuild_e N)
noncomputable def granaryref03_Same_c : Code := codeOf Try.f17.body
noncomputable def granaryref03_Same_c0 : Code := codeOf (getLoop 0 granaryref03_Same_c)
def granaryref03_Same_d0 : LD := { ins := ⟨[(0, (.av (.one (.rsl (.sl (.int .u8)))))), (1, (.av (.one (.rsl (.sl (.int .u8)))))), (5, (.av (.one (.int .i64))))], []⟩, mov := [], wr := [], outs := [(.ret, ⟨[(4, (.av (.one (.const (.bool false)))))], []⟩), (.exit 0, ⟨[], []⟩)], its := [.lst (.sl (.int .u8)), .lst (.sl (.int .u8)), .int], ots := [[], []] }
noncomputable def granaryref03_Same_J (N : Nat) : Nat → Hint := fun cx => hintOf cx [(0, { reg := fun k => assoc0 k [], cnd := fun k => assoc0 k [], loop := fun k => assoc0 k [(0, ⟨granaryref03_Same_d0, loopF (granaryref03_Same_b0 N) N⟩)], nil := fun k => assoc0 k [], unr := fun k => assocN k [], blk := fun k => assoc0 k [] })]
noncomputable def granaryref03_Same_C (N : Nat) : Nat → List GS := fun k => tabOf k []
def granaryref03_Same_o : List (Shp × List Nat) := [(⟨[(0, (.av (.one .bool)))], []⟩, [])]
noncomputable def granaryref03_Same_g (N : Nat) : GS := { ins := ⟨[(0, (.av (.one (.rsl (.sl (.int .u8)))))), (1, (.av (.one (.rsl (.sl (.int .u8))))))], []⟩, lend := [.lend (.sl (.int .u8)), .lend (.sl (.int .u8))], outs := granaryref03_Same_o.map fun s => ssOf s.1, its := [.lst (.sl (.int .u8)), .lst (.sl (.int .u8))], ots := [[.bool]], F := granaryref03_Same N }
theorem granaryref03_Same_t (N : Nat) : TabC Try.prog (granaryref03_Same_C N) := tab_ok trivial
theorem granaryref03_Same_i0 : loopsOf granaryref03_Same_c0 = [] := by kernel_rfl
theorem granaryref03_Same_e0 (N : Nat) (next) (x) : granaryref03_Same_b0 N next x = loopStep Γ (granaryref03_Same_C N) (granaryref03_Same_J N) 0 28 granaryref03_Same_d0 granaryref03_Same_c0 next x := by kernel_rfl
theorem granaryref03_Same_k0 (N : Nat) : LoopOK Try.prog 28 granaryref03_Same_c0 ⟨granaryref03_Same_d0, loopF (granaryref03_Same_b0 N) N⟩ := loop_ok tabOK (granaryref03_Same_t N) mixedOK (J := granaryref03_Same_J N) (cx := 0) (body := granaryref03_Same_c0) (nt := 28) (l := granaryref03_Same_d0) (b := granaryref03_Same_b0 N) (jok_from granaryref03_Same_i0 ⟨trivial, trivial⟩) (granaryref03_Same_e0 N) N
theorem granaryref03_Same_i : loopsOf granaryref03_Same_c = [(0, granaryref03_Same_c0)] := by kernel_rfl
theorem granaryref03_Same_e (N : Nat) (x) : (granaryref03_Same_g N).F x = fnStep Γ (granaryref03_Same_C N) (granaryref03_Same_J N) 28 Try.f17.results.toList (granaryref03_Same_g N) granaryref03_Same_o granaryref03_Same_c x := by kernel_rfl
theorem granaryref03_Same_y : Try.f17.body = some granaryref03_Same_c := by kernel_rfl
theorem granaryref03_Same_n : (Try.f17.name == "runtime.NumGoroutine") = false := by kernel_rfl
theorem granaryref03_Same_ok (N : Nat) : FnDoes Try.prog 17 (granaryref03_Same_g N) := fn_ok tabOK (granaryref03_Same_t N) mixedOK (J := granaryref03_Same_J N) (body := granaryref03_Same_c) Try.func17 granaryref03_Same_y granaryref03_Same_n Try.ntmps17 (jok_from granaryref03_Same_i ⟨⟨.inr ⟨_, rfl, granaryref03_Same_k0 N⟩, trivial⟩, trivial⟩) rfl rfl (le_of_ble rfl) (granaryref03_Same_e N)
noncomputable def granarylaw03_live_c : Code := codeOf Try.f13.body
noncomputable def granarylaw03_live_J (N : Nat) : Nat → Hint := fun cx => hintOf cx [(0, { reg := fun k => assoc0 k [(5, ⟨⟨[(42, (.av (.one .bool)))], [(.keep, true), (.keep, true), (.keep, false), (.keep, false), (.dead, false), (.dead, false), (.dead, false), (.keep, false)]⟩, [], [], [.bool]⟩), (9, ⟨⟨[(0, (.av (.one .bool)))], [(.keep, true), (.keep, true), (.keep, false), (.keep, false), (.dead, false), (.dead, false), (.dead, false), (.keep, false), (.dead, false), (.dead, false), (.dead, false), (.dead, false), (.keep, false), (.dead, false), (.dead, false), (.dead, false), (.keep, false)]⟩, [], [], [.bool]⟩)], cnd := fun k => assoc0 k [], loop := fun k => assoc0 k [], nil := fun k => assoc0 k [(24, (.sl (.int .u8))), (25, (.arr 2 .unit)), (47, (.sl (.int .u8))), (49, (.arr 6 .unit)), (55, (.sl (.int .u8))), (57, (.arr 6 .unit)), (68, (.sl (.int .u8)))], unr := fun k => assocN k [], blk := fun k => assoc0 k [] })]
noncomputable def granarylaw03_live_C (N : Nat) : Nat → List GS := fun k => tabOf k [(36, [rs_New_g N]), (18, [granarylaw03_num_g N]), (24, [rs_Code_Encode_g N]), (15, [rs_Code_Rebuild_g N]), (17, [granaryref03_Same_g N])]
def granarylaw03_live_o : List (Shp × List Nat) := [(⟨[(0, (.av (.one .bool)))], []⟩, [])]
noncomputable def granarylaw03_live_g (N : Nat) : GS := { ins := ⟨[], []⟩, lend := [], outs := granarylaw03_live_o.map fun s => ssOf s.1, its := [], ots := [[.bool]], F := granarylaw03_live N }
noncomputable def granarylaw03_live_CA (N : Nat) (f0 : Int × Int → Option ((Unit) ⊕ (Int × Int × (List Int)))) (f1 : Int → Option (Int)) (f2 : (List (List Int)) × Int × Int × (List Int) → Option (Int × Int × Int × (List Int) × (List (List Int)))) (f3 : (List (List Int)) × (List Bool) × Int × Int × (List Int) → Option (Int × Int × Int × (List Int) × (List (List Int)))) (f4 : (List (List Int)) × (List (List Int)) → Option (Bool)) : Nat → List GS := fun k => tabOf k [(36, [{ rs_New_g N with F := f0 }]), (18, [{ granarylaw03_num_g N with F := f1 }]), (24, [{ rs_Code_Encode_g N with F := f2 }]), (15, [{ rs_Code_Rebuild_g N with F := f3 }]), (17, [{ granaryref03_Same_g N with F := f4 }])]
theorem granarylaw03_live_CE (N : Nat) : granarylaw03_live_CA N (rs_New N) (granarylaw03_num) (rs_Code_Encode N) (rs_Code_Rebuild N) (granaryref03_Same N) = granarylaw03_live_C N := by kernel_rfl
theorem granarylaw03_live_t (N : Nat) : TabC Try.prog (granarylaw03_live_C N) := tab_ok ⟨⟨rs_New_ok N, trivial⟩, ⟨granarylaw03_num_ok N, trivial⟩, ⟨rs_Code_Encode_ok N, trivial⟩, ⟨rs_Code_Rebuild_ok N, trivial⟩, ⟨granaryref03_Same_ok N, trivial⟩, trivial⟩
theorem granarylaw03_live_i : loopsOf granarylaw03_live_c = [] := by kernel_rfl
noncomputable def granarylaw03_live_a (N : Nat) (f0 : Int × Int → Option ((Unit) ⊕ (Int × Int × (List Int)))) (f1 : Int → Option (Int)) (f2 : (List (List Int)) × Int × Int × (List Int) → Option (Int × Int × Int × (List Int) × (List (List Int)))) (f3 : (List (List Int)) × (List Bool) × Int × Int × (List Int) → Option (Int × Int × Int × (List Int) × (List (List Int)))) (f4 : (List (List Int)) × (List (List Int)) → Option (Bool)) (x : Unit) : Option (Bool) :=
  (Option.bind (f0 ((2 : Int), (1 : Int))) fun r1 =>
  (match r1 with
  | .inl y2 =>
  (Option.bind (f1 (2 : Int)) fun r4 =>
  (cond (!(decide (r4 = (0 : Int))))
  (some false)
  (some false)))
  | .inr z3 =>
  (Option.bind (f1 (0 : Int)) fun r6 =>
  (cond (!(decide (r6 = (0 : Int))))
  (some false)
  (let v8 : List Int := ([(1 : Int)] : List Int)
  (let v9 : List Int := ([(1 : Int)] : List Int)
  (cond (((decide (1 ≤ (List.length v8))) && ((decide (1 ≤ (List.length v9))) && true)) && true)
  ((Option.bind (f2 (([(List.take 1 (List.drop 0 v8)), (List.take 1 (List.drop 0 v9))] : List (List Int)), z3.1, z3.2.1, z3.2.2)) fun r11 =>
  (Option.bind
  (Option.bind (f1 r11.1) fun r12 =>
  (cond (!(decide (r12 = (0 : Int))))
  (some true)
  (cond (!(decide ((((List.length r11.2.2.2.2) : Nat) : Int) = (1 : Int))))
  (some true)
  (cond (decide ((0 : Int) < (((List.length r11.2.2.2.2) : Nat) : Int)))
  ((cond (decide (0 < (List.length r11.2.2.2.2)))
  ((some (!(decide ((List.map (fun (n : Int) => UInt8.ofNat n.toNat) (List.getD r11.2.2.2.2 0 (EK.dflt (.sl (.int .u8))))) = ([122] : List UInt8))))))
  none))
  none))))
  fun r19 =>
  (cond r19
  (some false)
  (let v20 : List Int := ([(1 : Int)] : List Int)
  (let v21 : List Int := ([(122 : Int)] : List Int)
  (cond (((decide (1 ≤ (List.length v20))) && ((decide (1 ≤ (List.length v21))) && true)) && true)
  ((let v23 : List Bool := ([false, true, true] : List Bool)
  (cond (((decide (3 ≤ (List.length v23))) && true) && true)
  (Option.bind (f3 (([([] : List Int), (List.take 1 (List.drop 0 v20)), (List.take 1 (List.drop 0 v21))] : List (List Int)), (List.take 3 (List.drop 0 v23)), r11.2.1, r11.2.2.1, r11.2.2.2.1)) fun r24 =>
  (let v25 : List Int := ([(122 : Int)] : List Int)
  (cond (((decide (1 ≤ (List.length v25))) && true) && true)
  ((let v27 : List Bool := ([false, false, true] : List Bool)
  (cond (((decide (3 ≤ (List.length v27))) && true) && true)
  (Option.bind (f3 (([([] : List Int), ([] : List Int), (List.take 1 (List.drop 0 v25))] : List (List Int)), (List.take 3 (List.drop 0 v27)), r24.2.1, r24.2.2.1, r24.2.2.2.1)) fun r28 =>
  (Option.bind
  (Option.bind (f1 r24.1) fun r29 =>
  (cond (decide (r29 = (0 : Int)))
  (let v31 : List Int := ([(1 : Int)] : List Int)
  (let v32 : List Int := ([(1 : Int)] : List Int)
  (let v33 : List Int := ([(122 : Int)] : List Int)
  (cond (((decide (1 ≤ (List.length v31))) && ((decide (1 ≤ (List.length v32))) && ((decide (1 ≤ (List.length v33))) && true))) && true)
  ((Option.bind (f4 (r24.2.2.2.2, ([(List.take 1 (List.drop 0 v31)), (List.take 1 (List.drop 0 v32)), (List.take 1 (List.drop 0 v33))] : List (List Int)))) fun r35 =>
  (cond r35
  (Option.bind (f1 r28.1) fun r36 =>
  (some (decide (r36 = (30 : Int)))))
  (some false))))
  none))))
  (some false)))
  fun r38 =>
  (some r38)))
  none)))
  none)))
  none)))
  none)))))))
  none)))))))
theorem granarylaw03_live_f (N : Nat) (f0 : Int × Int → Option ((Unit) ⊕ (Int × Int × (List Int)))) (f1 : Int → Option (Int)) (f2 : (List (List Int)) × Int × Int × (List Int) → Option (Int × Int × Int × (List Int) × (List (List Int)))) (f3 : (List (List Int)) × (List Bool) × Int × Int × (List Int) → Option (Int × Int × Int × (List Int) × (List (List Int)))) (f4 : (List (List Int)) × (List (List Int)) → Option (Bool)) (x) : granarylaw03_live_a N f0 f1 f2 f3 f4 x = fnStep Γ (granarylaw03_live_CA N f0 f1 f2 f3 f4) (granarylaw03_live_J N) 76 Try.f13.results.toList (granarylaw03_live_g N) granarylaw03_live_o granarylaw03_live_c x := by kernel_rfl
theorem granarylaw03_live_e (N : Nat) (x) : (granarylaw03_live_g N).F x = fnStep Γ (granarylaw03_live_C N) (granarylaw03_live_J N) 76 Try.f13.results.toList (granarylaw03_live_g N) granarylaw03_live_o granarylaw03_live_c x := by
  rw [← granarylaw03_live_CE N]
  exact Eq.trans (by kernel_rfl) (granarylaw03_live_f N (rs_New N) (granarylaw03_num) (rs_Code_Encode N) (rs_Code_Rebuild N) (granaryref03_Same N) x)
theorem granarylaw03_live_y : Try.f13.body = some granarylaw03_live_c := by kernel_rfl
theorem granarylaw03_live_n : (Try.f13.name == "runtime.NumGoroutine") = false := by kernel_rfl
theorem granarylaw03_live_ok (N : Nat) : FnDoes Try.prog 13 (granarylaw03_live_g N) := fn_ok tabOK (granarylaw03_live_t N) mixedOK (J := granarylaw03_live_J N) (body := granarylaw03_live_c) Try.func13 granarylaw03_live_y granarylaw03_live_n Try.ntmps13 (jok_from granarylaw03_live_i ⟨trivial, trivial⟩) rfl rfl (le_of_ble rfl) (granarylaw03_live_e N)
noncomputable def granaryref03_New_c : Code := codeOf Try.f37.body
noncomputable def granaryref03_New_J (N : Nat) : Nat → Hint := fun cx => hintOf cx [(0, { reg := fun k => assoc0 k [(1, ⟨⟨[(19, (.av (.one .bool)))], []⟩, [], [], [.bool]⟩)], cnd := fun k => assoc0 k [], loop := fun k => assoc0 k [], nil := fun k => assoc0 k [], unr := fun k => assocN k [], blk := fun k => assoc0 k [] })]
noncomputable def granaryref03_New_C (N : Nat) : Nat → List GS := fun k => tabOf k []
def granaryref03_New_o : List (Shp × List Nat) := [(⟨[(0, (.tup [(.one (.const .nilp)), (.one (.const (.int .i64 (2 : Int))))]))], []⟩, []), (⟨[(0, (.tup [(.one (.const (.ptr ⟨0, 0, 0, 0⟩))), (.one (.const (.int .i64 (0 : Int))))]))], [(.sh (.one (.int .i64)), true), (.sh (.one (.int .i64)), false)]⟩, [])]
noncomputable def granaryref03_New_g (N : Nat) : GS := { ins := ⟨[(0, (.av (.one (.int .i64)))), (1, (.av (.one (.int .i64))))], []⟩, lend := [.keep, .keep], outs := granaryref03_New_o.map fun s => ssOf s.1, its := [.int, .int], ots := [[], [.int, .int]], F := granaryref03_New }
theorem granaryref03_New_t (N : Nat) : TabC Try.prog (granaryref03_New_C N) := tab_ok trivial
theorem granaryref03_New_i : loopsOf granaryref03_New_c = [] := by kernel_rfl
theorem granaryref03_New_e (N : Nat) (x) : (granaryref03_New_g N).F x = fnStep Γ (granaryref03_New_C N) (granaryref03_New_J N) 24 Try.f37.results.toList (granaryref03_New_g N) granaryref03_New_o granaryref03_New_c x := by kernel_rfl
theorem granaryref03_New_y : Try.f37.body = some granaryref03_New_c := by kernel_rfl
theorem granaryref03_New_n : (Try.f37.name == "runtime.NumGoroutine") = false := by kernel_rfl
theorem granaryref03_New_ok (N : Nat) : FnDoes Try.prog 37 (granaryref03_New_g N) := fn_ok tabOK (granaryref03_New_t N) mixedOK (J := granaryref03_New_J N) (body := granaryref03_New_c) Try.func37 granaryref03_New_y granaryref03_New_n Try.ntmps37 (jok_from granaryref03_New_i ⟨trivial, trivial⟩) rfl rfl (le_of_ble rfl) (granaryref03_New_e N)
noncomputable def granarylaw03_both_c : Code := codeOf Try.f11.body
noncomputable def granarylaw03_both_J (N : Nat) : Nat → Hint := fun cx => hintOf cx [(0, { reg := fun k => assoc0 k [], cnd := fun k => assoc0 k [], loop := fun k => assoc0 k [], nil := fun k => assoc0 k [], unr := fun k => assocN k [], blk := fun k => assoc0 k [] })]
noncomputable def granarylaw03_both_C (N : Nat) : Nat → List GS := fun k => tabOf k [(36, [rs_New_g N]), (37, [granaryref03_New_g N]), (18, [granarylaw03_num_g N])]
def granarylaw03_both_o : List (Shp × List Nat) := [(⟨[(0, (.tup [(.one (.const .nilp)), (.one (.const .nilp)), (.one .bool)]))], []⟩, []), (⟨[(0, (.tup [(.one (.const .nilp)), (.one (.const (.ptr ⟨0, 0, 0, 0⟩))), (.one (.const (.bool false)))]))], [(.sh (.one (.int .i64)), true), (.sh (.one (.int .i64)), false)]⟩, []), (⟨[(0, (.tup [(.one (.const (.ptr ⟨0, 0, 0, 0⟩))), (.one (.const .nilp)), (.one (.const (.bool false)))]))], [(.sh (.one (.int .i64)), true), (.sh (.one (.int .i64)), true), (.sh (.one (.const (.slw 3 1))), false), (.sh (.arr (.int .u8) none), false)]⟩, []), (⟨[(0, (.tup [(.one (.const (.ptr ⟨0, 0, 0, 0⟩))), (.one (.const (.ptr ⟨3, 0, 0, 0⟩))), (.one .bool)]))], [(.sh (.one (.int .i64)), true), (.sh (.one (.int .i64)), true), (.sh (.one (.const (.slw 5 1))), false), (.sh (.one (.int .i64)), true), (.sh (.one (.int .i64)), false), (.sh (.arr (.int .u8) none), false)]⟩, [])]
noncomputable def granarylaw03_both_g (N : Nat) : GS := { ins := ⟨[(0, (.av (.one (.int .i64)))), (1, (.av (.one (.int .i64))))], []⟩, lend := [.keep, .keep], outs := granarylaw03_both_o.map fun s => ssOf s.1, its := [.int, .int], ots := [[.bool], [.int, .int], [.int, .int, .lst (.int .u8)], [.bool, .int, .int, .int, .int, .lst (.int .u8)]], F := granarylaw03_both N }
noncomputable def granarylaw03_both_CA (N : Nat) (f0 : Int × Int → Option ((Unit) ⊕ (Int × Int × (List Int)))) (f1 : Int × Int → Option ((Unit) ⊕ (Int × Int))) (f2 : Int → Option (Int)) : Nat → List GS := fun k => tabOf k [(36, [{ rs_New_g N with F := f0 }]), (37, [{ granaryref03_New_g N with F := f1 }]), (18, [{ granarylaw03_num_g N with F := f2 }])]
theorem granarylaw03_both_CE (N : Nat) : granarylaw03_both_CA N (rs_New N) (granaryref03_New) (granarylaw03_num) = granarylaw03_both_C N := by kernel_rfl
theorem granarylaw03_both_t (N : Nat) : TabC Try.prog (granarylaw03_both_C N) := tab_ok ⟨⟨rs_New_ok N, trivial⟩, ⟨granaryref03_New_ok N, trivial⟩, ⟨granarylaw03_num_ok N, trivial⟩, trivial⟩
theorem granarylaw03_both_i : loopsOf granarylaw03_both_c = [] := by kernel_rfl
noncomputable def granarylaw03_both_a (N : Nat) (f0 : Int × Int → Option ((Unit) ⊕ (Int × Int × (List Int)))) (f1 : Int × Int → Option ((Unit) ⊕ (Int × Int))) (f2 : Int → Option (Int)) (x : Int × Int) : Option ((Bool) ⊕ (Int × Int) ⊕ (Int × Int × (List Int)) ⊕ (Bool × Int × Int × Int × Int × (List Int))) :=
  (Option.bind (f0 (x.1, x.2)) fun r1 =>
  (match r1 with
  | .inl y2 =>
  (Option.bind (f1 (x.1, x.2)) fun r4 =>
  (match r4 with
  | .inl y5 =>
  (Option.bind (f2 (2 : Int)) fun r7 =>
  (cond (decide (r7 = (2 : Int)))
  (some (.inl true))
  (some (.inl false))))
  | .inr z6 =>
  (Option.bind (f2 (2 : Int)) fun r9 =>
  (cond (decide (r9 = (0 : Int)))
  (some (.inr (.inl (z6.1, z6.2))))
  (some (.inr (.inl (z6.1, z6.2))))))))
  | .inr z3 =>
  (Option.bind (f1 (x.1, x.2)) fun r11 =>
  (match r11 with
  | .inl y12 =>
  (Option.bind (f2 (0 : Int)) fun r14 =>
  (cond (decide (r14 = (2 : Int)))
  (some (.inr (.inr (.inl (z3.1, z3.2.1, z3.2.2)))))
  (some (.inr (.inr (.inl (z3.1, z3.2.1, z3.2.2)))))))
  | .inr z13 =>
  (Option.bind (f2 (0 : Int)) fun r16 =>
  (cond (decide (r16 = (0 : Int)))
  (some (.inr (.inr (.inr ((true, z3.1, z3.2.1, z13.1, z13.2, z3.2.2))))))
  (some (.inr (.inr (.inr ((false, z3.1, z3.2.1, z13.1, z13.2, z3.2.2))))))))))))
theorem granarylaw03_both_f (N : Nat) (f0 : Int × Int → Option ((Unit) ⊕ (Int × Int × (List Int)))) (f1 : Int × Int → Option ((Unit) ⊕ (Int × Int))) (f2 : Int → Option (Int)) (x) : granarylaw03_both_a N f0 f1 f2 x = fnStep Γ (granarylaw03_both_CA N f0 f1 f2) (granarylaw03_both_J N) 36 Try.f11.results.toList (granarylaw03_both_g N) granarylaw03_both_o granarylaw03_both_c x := by kernel_rfl
theorem granarylaw03_both_e (N : Nat) (x) : (granarylaw03_both_g N).F x = fnStep Γ (granarylaw03_both_C N) (granarylaw03_both_J N) 36 Try.f11.results.toList (granarylaw03_both_g N) granarylaw03_both_o granarylaw03_both_c x := by
  rw [← granarylaw03_both_CE N]
  exact Eq.trans (by kernel_rfl) (granarylaw03_both_f N (rs_New N) (granaryref03_New) (granarylaw03_num) x)
theorem granarylaw03_both_y : Try.f11.body = some granarylaw03_both_c := by kernel_rfl
theorem granarylaw03_both_n : (Try.f11.name == "runtime.NumGoroutine") = false := by kernel_rfl
theorem granarylaw03_both_ok (N : Nat) : FnDoes Try.prog 11 (granarylaw03_both_g N) := fn_ok tabOK (granarylaw03_both_t N) mixedOK (J := granarylaw03_both_J N) (body := granarylaw03_both_c) Try.func11 granarylaw03_both_y granarylaw03_both_n Try.ntmps11 (jok_from granarylaw03_both_i ⟨trivial, trivial⟩) rfl rfl (le_of_ble rfl) (granarylaw03_both_e N)
noncomputable def granaryref02_Mul_c : Code := codeOf Try.f48.body
noncomputable def granaryref02_Mul_c0 : Code := codeOf (getLoop 0 granaryref02_Mul_c)
def granaryref02_Mul_d0 : LD := { ins := ⟨[(1, (.av (.one (.int .u8)))), (5, (.av (.one (.int .i64)))), (6, (.av (.one (.int .i64)))), (7, (.av (.one (.int .i64))))], []⟩, mov := [], wr := [], outs := [(.exit 0, ⟨[(5, (.av (.one (.int .i64))))], []⟩)], its := [.int, .int, .int, .int], ots := [[.int]] }
noncomputable def granaryref02_Mul_J (N : Nat) : Nat → Hint := fun cx => hintOf cx [(0, { reg := fun k => assoc0 k [], cnd := fun k => assoc0 k [(19, ⟨[], [], [(.normal, ⟨[(5, (.av (.one (.int .i64))))], []⟩)], [[.int]]⟩), (26, ⟨[], [], [(.normal, ⟨[(6, (.av (.one (.int .i64))))], []⟩)], [[.int]]⟩)], loop := fun k => assoc0 k [(0, ⟨granaryref02_Mul_d0, loopF (granaryref02_Mul_b0 N) N⟩)], nil := fun k => assoc0 k [], unr := fun k => assocN k [], blk := fun k => assoc0 k [] })]
noncomputable def granaryref02_Mul_C (N : Nat) : Nat → List GS := fun k => tabOf k []
def granaryref02_Mul_o : List (Shp × List Nat) := [(⟨[(0, (.av (.one (.int .u8))))], []⟩, [])]
noncomputable def granaryref02_Mul_g (N : Nat) : GS := { ins := ⟨[(0, (.av (.one (.int .u8)))), (1, (.av (.one (.int .u8))))], []⟩, lend := [.keep, .keep], outs := granaryref02_Mul_o.map fun s => ssOf s.1, its := [.int, .int], ots := [[.int]], F := granaryref02_Mul N }
theorem granaryref02_Mul_t (N : Nat) : TabC Try.prog (granaryref02_Mul_C N) := tab_ok trivial
theorem granaryref02_Mul_i0 : loopsOf granaryref02_Mul_c0 = [] := by kernel_rfl
theorem granaryref02_Mul_e0 (N : Nat) (next) (x) : granaryref02_Mul_b0 N next x = loopStep Γ (granaryref02_Mul_C N) (granaryref02_Mul_J N) 0 31 granaryref02_Mul_d0 granaryref02_Mul_c0 next x := by kernel_rfl
theorem granaryref02_Mul_k0 (N : Nat) : LoopOK Try.prog 31 granaryref02_Mul_c0 ⟨granaryref02_Mul_d0, loopF (granaryref02_Mul_b0 N) N⟩ := loop_ok tabOK (granaryref02_Mul_t N) mixedOK (J := granaryref02_Mul_J N) (cx := 0) (body := granaryref02_Mul_c0) (nt := 31) (l := granaryref02_Mul_d0) (b := granaryref02_Mul_b0 N) (jok_from granaryref02_Mul_i0 ⟨trivial, trivial⟩) (granaryref02_Mul_e0 N) N
theorem granaryref02_Mul_i : loopsOf granaryref02_Mul_c = [(0, granaryref02_Mul_c0)] := by kernel_rfl
theorem granaryref02_Mul_e (N : Nat) (x) : (granaryref02_Mul_g N).F x = fnStep Γ (granaryref02_Mul_C N) (granaryref02_Mul_J N) 31 Try.f48.results.toList (granaryref02_Mul_g N) granaryref02_Mul_o granaryref02_Mul_c x := by kernel_rfl
theorem granaryref02_Mul_y : Try.f48.body = some granaryref02_Mul_c := by kernel_rfl
theorem granaryref02_Mul_n : (Try.f48.name == "runtime.NumGoroutine") = false := by kernel_rfl
theorem granaryref02_Mul_ok (N : Nat) : FnDoes Try.prog 48 (granaryref02_Mul_g N) := fn_ok tabOK (granaryref02_Mul_t N) mixedOK (J := granaryref02_Mul_J N) (body := granaryref02_Mul_c) Try.func48 granaryref02_Mul_y granaryref02_Mul_n Try.ntmps48 (jok_from granaryref02_Mul_i ⟨⟨.inr ⟨_, rfl, granaryref02_Mul_k0 N⟩, trivial⟩, trivial⟩) rfl rfl (le_of_ble rfl) (granaryref02_Mul_e N)
noncomputable def granaryref02_power_c : Code := codeOf Try.f56.body
noncomputable def granaryref02_power_c0 : Code := codeOf (getLoop 0 granaryref02_power_c)
def granaryref02_power_d0 : LD := { ins := ⟨[(0, (.av (.one (.int .u8)))), (1, (.av (.one (.int .i64)))), (5, (.av (.one (.int .u8)))), (6, (.av (.one (.int .i64))))], []⟩, mov := [], wr := [], outs := [(.exit 0, ⟨[(5, (.av (.one (.int .u8))))], []⟩)], its := [.int, .int, .int, .int], ots := [[.int]] }
noncomputable def granaryref02_power_J (N : Nat) : Nat → Hint := fun cx => hintOf cx [(0, { reg := fun k => assoc0 k [], cnd := fun k => assoc0 k [], loop := fun k => assoc0 k [(0, ⟨granaryref02_power_d0, loopF (granaryref02_power_b0 N) N⟩)], nil := fun k => assoc0 k [], unr := fun k => assocN k [], blk := fun k => assoc0 k [] })]
noncomputable def granaryref02_power_C (N : Nat) : Nat → List GS := fun k => tabOf k [(48, [granaryref02_Mul_g N])]
def granaryref02_power_o : List (Shp × List Nat) := [(⟨[(0, (.av (.one (.int .u8))))], []⟩, [])]
noncomputable def granaryref02_power_g (N : Nat) : GS := { ins := ⟨[(0, (.av (.one (.int .u8)))), (1, (.av (.one (.int .i64))))], []⟩, lend := [.keep, .keep], outs := granaryref02_power_o.map fun s => ssOf s.1, its := [.int, .int], ots := [[.int]], F := granaryref02_power N }
noncomputable def granaryref02_power_CA (N : Nat) (f0 : Int × Int → Option (Int)) : Nat → List GS := fun k => tabOf k [(48, [{ granaryref02_Mul_g N with F := f0 }])]
theorem granaryref02_power_CE (N : Nat) : granaryref02_power_CA N (granaryref02_Mul N) = granaryref02_power_C N := by kernel_rfl
theorem granaryref02_power_t (N : Nat) : TabC Try.prog (granaryref02_power_C N) := tab_ok ⟨⟨granaryref02_Mul_ok N, trivial⟩, trivial⟩
theorem granaryref02_power_i0 : loopsOf granaryref02_power_c0 = [] := by kernel_rfl
noncomputable def granaryref02_power_a0 (N : Nat) (f0 : Int × Int → Option (Int)) (next : Int × Int × Int × Int → Option (Int)) (x : Int × Int × Int × Int) : Option (Int) :=
  (cond (decide (x.2.2.2 < x.2.1))
  (Option.bind (f0 (x.2.2.1, x.1)) fun r2 =>
  (next (x.1, x.2.1, r2, (wrapF .i64 (x.2.2.2 + (1 : Int))))))
  (some x.2.2.1))
theorem granaryref02_power_f0 (N : Nat) (f0 : Int × Int → Option (Int)) (next) (x) : granaryref02_power_a0 N f0 next x = loopStep Γ (granaryref02_power_CA N f0) (granaryref02_power_J N) 0 16 granaryref02_power_d0 granaryref02_power_c0 next x := by kernel_rfl
theorem granaryref02_power_e0 (N : Nat) (next) (x) : granaryref02_power_b0 N next x = loopStep Γ (granaryref02_power_C N) (granaryref02_power_J N) 0 16 granaryref02_power_d0 granaryref02_power_c0 next x := by
  rw [← granaryref02_power_CE N]
  exact Eq.trans (by kernel_rfl) (granaryref02_power_f0 N (granaryref02_Mul N) next x)
theorem granaryref02_power_k0 (N : Nat) : LoopOK Try.prog 16 granaryref02_power_c0 ⟨granaryref02_power_d0, loopF (granaryref02_power_b0 N) N⟩ := loop_ok tabOK (granaryref02_power_t N) mixedOK (J := granaryref02_power_J N) (cx := 0) (body := granaryref02_power_c0) (nt := 16) (l := granaryref02_power_d0) (b := granaryref02_power_b0 N) (jok_from granaryref02_power_i0 ⟨trivial, trivial⟩) (granaryref02_power_e0 N) N
theorem granaryref02_power_i : loopsOf granaryref02_power_c = [(0, granaryref02_power_c0)] := by kernel_rfl
noncomputable def granaryref02_power_a (N : Nat) (f0 : Int × Int → Option (Int)) (x : Int × Int) : Option (Int) :=
  (Option.bind (granaryref02_power_l0 N (x.1, x.2, (1 : Int), (0 : Int))) fun r1 =>
  (some r1))
theorem granaryref02_power_f (N : Nat) (f0 : Int × Int → Option (Int)) (x) : granaryref02_power_a N f0 x = fnStep Γ (granaryref02_power_CA N f0) (granaryref02_power_J N) 16 Try.f56.results.toList (granaryref02_power_g N) granaryref02_power_o granaryref02_power_c x := by kernel_rfl
theorem granaryref02_power_e (N : Nat) (x) : (granaryref02_power_g N).F x = fnStep Γ (granaryref02_power_C N) (granaryref02_power_J N) 16 Try.f56.results.toList (granaryref02_power_g N) granaryref02_power_o granaryref02_power_c x := by
  rw [← granaryref02_power_CE N]
  exact Eq.trans (by kernel_rfl) (granaryref02_power_f N (granaryref02_Mul N) x)
theorem granaryref02_power_y : Try.f56.body = some granaryref02_power_c := by kernel_rfl
theorem granaryref02_power_n : (Try.f56.name == "runtime.NumGoroutine") = false := by kernel_rfl
theorem granaryref02_power_ok (N : Nat) : FnDoes Try.prog 56 (granaryref02_power_g N) := fn_ok tabOK (granaryref02_power_t N) mixedOK (J := granaryref02_power_J N) (body := granaryref02_power_c) Try.func56 granaryref02_power_y granaryref02_power_n Try.ntmps56 (jok_from granaryref02_power_i ⟨⟨.inr ⟨_, rfl, granaryref02_power_k0 N⟩, trivial⟩, trivial⟩) rfl rfl (le_of_ble rfl) (granaryref02_power_e N)
noncomputable def granaryref02_Inv_c : Code := codeOf Try.f44.body
noncomputable def granaryref02_Inv_J (N : Nat) : Nat → Hint := fun cx => hintOf cx []
noncomputable def granaryref02_Inv_C (N : Nat) : Nat → List GS := fun k => tabOf k [(56, [granaryref02_power_g N])]
def granaryref02_Inv_o : List (Shp × List Nat) := [(⟨[(0, (.tup [(.one (.int .u8)), (.one (.int .i64))]))], []⟩, [])]
noncomputable def granaryref02_Inv_g (N : Nat) : GS := { ins := ⟨[(0, (.av (.one (.int .u8))))], []⟩, lend := [.keep], outs := granaryref02_Inv_o.map fun s => ssOf s.1, its := [.int], ots := [[.int, .int]], F := granaryref02_Inv N }
noncomputable def granaryref02_Inv_CA (N : Nat) (f0 : Int × Int → Option (Int)) : Nat → List GS := fun k => tabOf k [(56, [{ granaryref02_power_g N with F := f0 }])]
theorem granaryref02_Inv_CE (N : Nat) : granaryref02_Inv_CA N (granaryref02_power N) = granaryref02_Inv_C N := by kernel_rfl
theorem granaryref02_Inv_t (N : Nat) : TabC Try.prog (granaryref02_Inv_C N) := tab_ok ⟨⟨granaryref02_power_ok N, trivial⟩, trivial⟩
theorem granaryref02_Inv_i : loopsOf granaryref02_Inv_c = [] := by kernel_rfl
noncomputable def granaryref02_Inv_a (N : Nat) (f0 : Int × Int → Option (Int)) (x : Int) : Option (Int × Int) :=
  (cond (decide (x = (0 : Int)))
  (some ((0 : Int), (20 : Int)))
  (Option.bind (f0 (x, (254 : Int))) fun r2 =>
  (some (r2, (0 : Int)))))
theorem granaryref02_Inv_f (N : Nat) (f0 : Int × Int → Option (Int)) (x) : granaryref02_Inv_a N f0 x = fnStep Γ (granaryref02_Inv_CA N f0) (granaryref02_Inv_J N) 8 Try.f44.results.toList (granaryref02_Inv_g N) granaryref02_Inv_o granaryref02_Inv_c x := by kernel_rfl
theorem granaryref02_Inv_e (N : Nat) (x) : (granaryref02_Inv_g N).F x = fnStep Γ (granaryref02_Inv_C N) (granaryref02_Inv_J N) 8 Try.f44.results.toList (granaryref02_Inv_g N) granaryref02_Inv_o granaryref02_Inv_c x := by
  rw [← granaryref02_Inv_CE N]
  exact Eq.trans (by kernel_rfl) (granaryref02_Inv_f N (granaryref02_power N) x)
theorem granaryref02_Inv_y : Try.f44.body = some granaryref02_Inv_c := by kernel_rfl
theorem granaryref02_Inv_n : (Try.f44.name == "runtime.NumGoroutine") = false := by kernel_rfl
theorem granaryref02_Inv_ok (N : Nat) : FnDoes Try.prog 44 (granaryref02_Inv_g N) := fn_ok tabOK (granaryref02_Inv_t N) mixedOK (J := granaryref02_Inv_J N) (body := granaryref02_Inv_c) Try.func44 granaryref02_Inv_y granaryref02_Inv_n Try.ntmps44 (jok_from granaryref02_Inv_i trivial) rfl rfl (le_of_ble rfl) (granaryref02_Inv_e N)
noncomputable def granaryref03_Code_Row_c : Code := codeOf Try.f23.body
noncomputable def granaryref03_Code_Row_c0 : Code := codeOf (getLoop 0 granaryref03_Code_Row_c)
def granaryref03_Code_Row_d0 : LD := { ins := ⟨[(0, (.av (.one (.const (.ptr ⟨0, 0, 0, 0⟩))))), (1, (.av (.one (.int .i64)))), (5, (.av (.one (.const (.slw 2 1))))), (6, (.av (.one (.int .i64))))], [(.sh (.one (.int .i64)), true), (.keep, false), (.sh (.arr (.int .u8) none), false)]⟩, mov := [], wr := [0, 2], outs := [(.exit 0, ⟨[], [(.sh (.one (.int .i64)), true), (.keep, false), (.sh (.arr (.int .u8) none), false)]⟩)], its := [.int, .int, .int, .lst (.int .u8)], ots := [[.int, .lst (.int .u8)]] }
noncomputable def granaryref03_Code_Row_J (N : Nat) : Nat → Hint := fun cx => hintOf cx [(0, { reg := fun k => assoc0 k [(1, ⟨⟨[(21, (.av (.one .bool)))], [(.keep, true), (.keep, false)]⟩, [], [], [.bool]⟩), (7, ⟨⟨[(45, (.av (.one .bool)))], [(.keep, true), (.dead, false), (.keep, false)]⟩, [], [], [.bool]⟩)], cnd := fun k => assoc0 k [(45, ⟨[], [2], [(.normal, ⟨[], [(.keep, true), (.dead, false), (.sh (.arr (.int .u8) none), false)]⟩)], [[.lst (.int .u8)]]⟩), (54, ⟨[], [2], [(.normal, ⟨[], [(.keep, true), (.dead, false), (.sh (.arr (.int .u8) none), false)]⟩)], [[.lst (.int .u8)]]⟩)], loop := fun k => assoc0 k [(0, ⟨granaryref03_Code_Row_d0, loopF (granaryref03_Code_Row_b0 N) N⟩)], nil := fun k => assoc0 k [], unr := fun k => assocN k [], blk := fun k => assoc0 k [] })]
noncomputable def granaryref03_Code_Row_C (N : Nat) : Nat → List GS := fun k => tabOf k [(44, [granaryref02_Inv_g N])]
def granaryref03_Code_Row_o : List (Shp × List Nat) := [(⟨[(0, (.av (.one (.const (.slw 2 1)))))], [(.sh (.one (.int .i64)), true), (.sh (.one (.int .i64)), false), (.sh (.arr (.int .u8) none), false)]⟩, [])]
noncomputable def granaryref03_Code_Row_g (N : Nat) : GS := { ins := ⟨[(0, (.av (.one (.const (.ptr ⟨0, 0, 0, 0⟩))))), (1, (.av (.one (.int .i64))))], [(some (.one (.int .i64)), true), (some (.one (.int .i64)), false)]⟩, lend := [.keep, .keep], outs := granaryref03_Code_Row_o.map fun s => ssOf s.1, its := [.int, .int, .int], ots := [[.int, .int, .lst (.int .u8)]], F := granaryref03_Code_Row N }
noncomputable def granaryref03_Code_Row_CA (N : Nat) (f0 : Int → Option (Int × Int)) : Nat → List GS := fun k => tabOf k [(44, [{ granaryref02_Inv_g N with F := f0 }])]
theorem granaryref03_Code_Row_CE (N : Nat) : granaryref03_Code_Row_CA N (granaryref02_Inv N) = granaryref03_Code_Row_C N := by kernel_rfl
theorem granaryref03_Code_Row_t (N : Nat) : TabC Try.prog (granaryref03_Code_Row_C N) := tab_ok ⟨⟨granaryref02_Inv_ok N, trivial⟩, trivial⟩
theorem granaryref03_Code_Row_i0 : loopsOf granaryref03_Code_Row_c0 = [] := by kernel_rfl
noncomputable def granaryref03_Code_Row_a0 (N : Nat) (f0 : Int → Option (Int × Int)) (next : Int × Int × Int × (List Int) → Option ((Int × (List Int)))) (x : Int × Int × Int × (List Int)) : Option ((Int × (List Int))) :=
  (cond (decide (x.2.1 < x.2.2.1))
  (Option.bind
  (cond (decide (x.1 < x.2.2.1))
  (some (decide (x.1 = x.2.1)))
  (some false))
  fun r4 =>
  (Option.bind
  (cond r4
  (cond ((decide ((0 : Int) ≤ x.2.1)) && (decide (x.2.1 < (((List.length x.2.2.2) : Nat) : Int))))
  ((let v5 : Nat := (Int.toNat x.2.1)
  (cond (decide (v5 < (List.length x.2.2.2)))
  ((some (List.set x.2.2.2 v5 (1 : Int))))
  none)))
  none)
  (some x.2.2.2))
  fun r7 =>
  (Option.bind
  (cond (decide (x.2.2.1 ≤ x.1))
  (Option.bind (f0 (xorF .u8 (wrapF .u8 x.1) (wrapF .u8 x.2.1))) fun r12 =>
  (cond ((decide ((0 : Int) ≤ x.2.1)) && (decide (x.2.1 < (((List.length r7) : Nat) : Int))))
  ((let v13 : Nat := (Int.toNat x.2.1)
  (cond (decide (v13 < (List.length r7)))
  ((some (List.set r7 v13 r12.1)))
  none)))
  none))
  (some r7))
  fun r15 =>
  (next (x.1, (wrapF .i64 (x.2.1 + (1 : Int))), x.2.2.1, r15)))))
  (some (x.2.2.1, x.2.2.2)))
theorem granaryref03_Code_Row_f0 (N : Nat) (f0 : Int → Option (Int × Int)) (next) (x) : granaryref03_Code_Row_a0 N f0 next x = loopStep Γ (granaryref03_Code_Row_CA N f0) (granaryref03_Code_Row_J N) 0 68 granaryref03_Code_Row_d0 granaryref03_Code_Row_c0 next x := by kernel_rfl
theorem granaryref03_Code_Row_e0 (N : Nat) (next) (x) : granaryref03_Code_Row_b0 N next x = loopStep Γ (granaryref03_Code_Row_C N) (granaryref03_Code_Row_J N) 0 68 granaryref03_Code_Row_d0 granaryref03_Code_Row_c0 next x := by
  rw [← granaryref03_Code_Row_CE N]
  exact Eq.trans (by kernel_rfl) (granaryref03_Code_Row_f0 N (granaryref02_Inv N) next x)
theorem granaryref03_Code_Row_k0 (N : Nat) : LoopOK Try.prog 68 granaryref03_Code_Row_c0 ⟨granaryref03_Code_Row_d0, loopF (granaryref03_Code_Row_b0 N) N⟩ := loop_ok tabOK (granaryref03_Code_Row_t N) mixedOK (J := granaryref03_Code_Row_J N) (cx := 0) (body := granaryref03_Code_Row_c0) (nt := 68) (l := granaryref03_Code_Row_d0) (b := granaryref03_Code_Row_b0 N) (jok_from granaryref03_Code_Row_i0 ⟨trivial, trivial⟩) (granaryref03_Code_Row_e0 N) N
theorem granaryref03_Code_Row_i : loopsOf granaryref03_Code_Row_c = [(0, granaryref03_Code_Row_c0)] := by kernel_rfl
noncomputable def granaryref03_Code_Row_a (N : Nat) (f0 : Int → Option (Int × Int)) (x : Int × Int × Int) : Option (Int × Int × (List Int)) :=
  (Option.bind
  (cond (decide (x.1 < (0 : Int)))
  (some true)
  (some (decide ((wrapF .i64 (x.2.1 + x.2.2)) ≤ x.1))))
  fun r4 =>
  (cond r4
  (some (x.2.1, x.2.2, ([] : List Int)))
  (cond ((decide ((0 : Int) ≤ x.2.1)) && (fits 1 (Int.toNat x.2.1)))
  ((Option.bind (granaryref03_Code_Row_l0 N (x.1, (0 : Int), x.2.1, (List.replicate (Int.toNat x.2.1) (EK.dflt (.int .u8))))) fun r6 =>
  (some (r6.1, x.2.2, r6.2))))
  none)))
theorem granaryref03_Code_Row_f (N : Nat) (f0 : Int → Option (Int × Int)) (x) : granaryref03_Code_Row_a N f0 x = fnStep Γ (granaryref03_Code_Row_CA N f0) (granaryref03_Code_Row_J N) 68 Try.f23.results.toList (granaryref03_Code_Row_g N) granaryref03_Code_Row_o granaryref03_Code_Row_c x := by kernel_rfl
theorem granaryref03_Code_Row_e (N : Nat) (x) : (granaryref03_Code_Row_g N).F x = fnStep Γ (granaryref03_Code_Row_C N) (granaryref03_Code_Row_J N) 68 Try.f23.results.toList (granaryref03_Code_Row_g N) granaryref03_Code_Row_o granaryref03_Code_Row_c x := by
  rw [← granaryref03_Code_Row_CE N]
  exact Eq.trans (by kernel_rfl) (granaryref03_Code_Row_f N (granaryref02_Inv N) x)
theorem granaryref03_Code_Row_y : Try.f23.body = some granaryref03_Code_Row_c := by kernel_rfl
theorem granaryref03_Code_Row_n : (Try.f23.name == "runtime.NumGoroutine") = false := by kernel_rfl
theorem granaryref03_Code_Row_ok (N : Nat) : FnDoes Try.prog 23 (granaryref03_Code_Row_g N) := fn_ok tabOK (granaryref03_Code_Row_t N) mixedOK (J := granaryref03_Code_Row_J N) (body := granaryref03_Code_Row_c) Try.func23 granaryref03_Code_Row_y granaryref03_Code_Row_n Try.ntmps23 (jok_from granaryref03_Code_Row_i ⟨⟨.inr ⟨_, rfl, granaryref03_Code_Row_k0 N⟩, trivial⟩, trivial⟩) rfl rfl (le_of_ble rfl) (granaryref03_Code_Row_e N)
noncomputable def granarylaw03_lent_c : Code := codeOf Try.f14.body
noncomputable def granarylaw03_lent_c0 : Code := codeOf (getLoop 0 granarylaw03_lent_c)
def granarylaw03_lent_d0 : LD := { ins := ⟨[(0, (.av (.one (.rsl (.sl (.int .u8)))))), (3, (.av (.one (.const (.slw 0 1))))), (4, (.av (.one (.int .i64))))], [(.sh (.arr (.sl (.int .u8)) none), false)]⟩, mov := [0], wr := [], outs := [(.exit 0, ⟨[(3, (.av (.one (.const (.slw 1 1)))))], [(.dead, false), (.sh (.arr (.sl (.int .u8)) none), false)]⟩)], its := [.lst (.sl (.int .u8)), .int, .lst (.sl (.int .u8))], ots := [[.lst (.sl (.int .u8))]] }
noncomputable def granarylaw03_lent_J (N : Nat) : Nat → Hint := fun cx => hintOf cx [(0, { reg := fun k => assoc0 k [], cnd := fun k => assoc0 k [], loop := fun k => assoc0 k [(0, ⟨granarylaw03_lent_d0, loopF (granarylaw03_lent_b0 N) N⟩)], nil := fun k => assoc0 k [(26, (.sl (.int .u8)))], unr := fun k => assocN k [], blk := fun k => assoc0 k [] })]
noncomputable def granarylaw03_lent_C (N : Nat) : Nat → List GS := fun k => tabOf k []
def granarylaw03_lent_o : List (Shp × List Nat) := [(⟨[(0, (.av (.one (.const (.slw 0 1)))))], [(.sh (.arr (.sl (.int .u8)) none), false)]⟩, [])]
noncomputable def granarylaw03_lent_g (N : Nat) : GS := { ins := ⟨[(0, (.av (.one (.rsl (.sl (.int .u8))))))], []⟩, lend := [.keep], outs := granarylaw03_lent_o.map fun s => ssOf s.1, its := [.lst (.sl (.int .u8))], ots := [[.lst (.sl (.int .u8))]], F := granarylaw03_lent N }
theorem granarylaw03_lent_t (N : Nat) : TabC Try.prog (granarylaw03_lent_C N) := tab_ok trivial
theorem granarylaw03_lent_i0 : loopsOf granarylaw03_lent_c0 = [] := by kernel_rfl
theorem granarylaw03_lent_e0 (N : Nat) (next) (x) : granarylaw03_lent_b0 N next x = loopStep Γ (granarylaw03_lent_C N) (granarylaw03_lent_J N) 0 29 granarylaw03_lent_d0 granarylaw03_lent_c0 next x := by kernel_rfl
theorem granarylaw03_lent_k0 (N : Nat) : LoopOK Try.prog 29 granarylaw03_lent_c0 ⟨granarylaw03_lent_d0, loopF (granarylaw03_lent_b0 N) N⟩ := loop_ok tabOK (granarylaw03_lent_t N) mixedOK (J := granarylaw03_lent_J N) (cx := 0) (body := granarylaw03_lent_c0) (nt := 29) (l := granarylaw03_lent_d0) (b := granarylaw03_lent_b0 N) (jok_from granarylaw03_lent_i0 ⟨trivial, trivial⟩) (granarylaw03_lent_e0 N) N
theorem granarylaw03_lent_i : loopsOf granarylaw03_lent_c = [(0, granarylaw03_lent_c0)] := by kernel_rfl
theorem granarylaw03_lent_e (N : Nat) (x) : (granarylaw03_lent_g N).F x = fnStep Γ (granarylaw03_lent_C N) (granarylaw03_lent_J N) 29 Try.f14.results.toList (granarylaw03_lent_g N) granarylaw03_lent_o granarylaw03_lent_c x := by kernel_rfl
theorem granarylaw03_lent_y : Try.f14.body = some granarylaw03_lent_c := by kernel_rfl
theorem granarylaw03_lent_n : (Try.f14.name == "runtime.NumGoroutine") = false := by kernel_rfl
theorem granarylaw03_lent_ok (N : Nat) : FnDoes Try.prog 14 (granarylaw03_lent_g N) := fn_ok tabOK (granarylaw03_lent_t N) mixedOK (J := granarylaw03_lent_J N) (body := granarylaw03_lent_c) Try.func14 granarylaw03_lent_y granarylaw03_lent_n Try.ntmps14 (jok_from granarylaw03_lent_i ⟨⟨.inr ⟨_, rfl, granarylaw03_lent_k0 N⟩, trivial⟩, trivial⟩) rfl rfl (le_of_ble rfl) (granarylaw03_lent_e N)
noncomputable def granaryref03_Same_v1_c : Code := codeOf Try.f17.body
noncomputable def granaryref03_Same_v1_c0 : Code := codeOf (getLoop 0 granaryref03_Same_v1_c)
def granaryref03_Same_v1_d0 : LD := { ins := ⟨[(0, (.av (.one (.rsl (.sl (.int .u8)))))), (1, (.av (.one (.rsl (.sl (.int .u8)))))), (5, (.av (.one (.int .i64))))], []⟩, mov := [], wr := [], outs := [(.ret, ⟨[(4, (.av (.one (.const (.bool false)))))], []⟩), (.exit 0, ⟨[], []⟩)], its := [.lst (.sl (.int .u8)), .lst (.sl (.int .u8)), .int], ots := [[], []] }
noncomputable def granaryref03_Same_v1_J (N : Nat) : Nat → Hint := fun cx => hintOf cx [(0, { reg := fun k => assoc0 k [], cnd := fun k => assoc0 k [], loop := fun k => assoc0 k [(0, ⟨granaryref03_Same_v1_d0, loopF (granaryref03_Same_v1_b0 N) N⟩)], nil := fun k => assoc0 k [], unr := fun k => assocN k [], blk := fun k => assoc0 k [] })]
noncomputable def granaryref03_Same_v1_C (N : Nat) : Nat → List GS := fun k => tabOf k []
def granaryref03_Same_v1_o : List (Shp × List Nat) := [(⟨[(0, (.av (.one .bool)))], []⟩, [])]
noncomputable def granaryref03_Same_v1_g (N : Nat) : GS := { ins := ⟨[(0, (.av (.one (.rsl (.sl (.int .u8)))))), (1, (.av (.one (.rsl (.sl (.int .u8))))))], []⟩, lend := [.lend (.sl (.int .u8)), .keep], outs := granaryref03_Same_v1_o.map fun s => ssOf s.1, its := [.lst (.sl (.int .u8)), .lst (.sl (.int .u8))], ots := [[.bool]], F := granaryref03_Same_v1 N }
theorem granaryref03_Same_v1_t (N : Nat) : TabC Try.prog (granaryref03_Same_v1_C N) := tab_ok trivial
theorem granaryref03_Same_v1_i0 : loopsOf granaryref03_Same_v1_c0 = [] := by kernel_rfl
theorem granaryref03_Same_v1_e0 (N : Nat) (next) (x) : granaryref03_Same_v1_b0 N next x = loopStep Γ (granaryref03_Same_v1_C N) (granaryref03_Same_v1_J N) 0 28 granaryref03_Same_v1_d0 granaryref03_Same_v1_c0 next x := by kernel_rfl
theorem granaryref03_Same_v1_k0 (N : Nat) : LoopOK Try.prog 28 granaryref03_Same_v1_c0 ⟨granaryref03_Same_v1_d0, loopF (granaryref03_Same_v1_b0 N) N⟩ := loop_ok tabOK (granaryref03_Same_v1_t N) mixedOK (J := granaryref03_Same_v1_J N) (cx := 0) (body := granaryref03_Same_v1_c0) (nt := 28) (l := granaryref03_Same_v1_d0) (b := granaryref03_Same_v1_b0 N) (jok_from granaryref03_Same_v1_i0 ⟨trivial, trivial⟩) (granaryref03_Same_v1_e0 N) N
theorem granaryref03_Same_v1_i : loopsOf granaryref03_Same_v1_c = [(0, granaryref03_Same_v1_c0)] := by kernel_rfl
theorem granaryref03_Same_v1_e (N : Nat) (x) : (granaryref03_Same_v1_g N).F x = fnStep Γ (granaryref03_Same_v1_C N) (granaryref03_Same_v1_J N) 28 Try.f17.results.toList (granaryref03_Same_v1_g N) granaryref03_Same_v1_o granaryref03_Same_v1_c x := by kernel_rfl
theorem granaryref03_Same_v1_y : Try.f17.body = some granaryref03_Same_v1_c := by kernel_rfl
theorem granaryref03_Same_v1_n : (Try.f17.name == "runtime.NumGoroutine") = false := by kernel_rfl
theorem granaryref03_Same_v1_ok (N : Nat) : FnDoes Try.prog 17 (granaryref03_Same_v1_g N) := fn_ok tabOK (granaryref03_Same_v1_t N) mixedOK (J := granaryref03_Same_v1_J N) (body := granaryref03_Same_v1_c) Try.func17 granaryref03_Same_v1_y granaryref03_Same_v1_n Try.ntmps17 (jok_from granaryref03_Same_v1_i ⟨⟨.inr ⟨_, rfl, granaryref03_Same_v1_k0 N⟩, trivial⟩, trivial⟩) rfl rfl (le_of_ble rfl) (granaryref03_Same_v1_e N)
noncomputable def granarylaw03_spoil_c : Code := codeOf Try.f19.body
noncomputable def granarylaw03_spoil_c0 : Code := codeOf (getLoop 0 granarylaw03_spoil_c)
noncomputable def granarylaw03_spoil_c2 : Code := codeOf (getLoop 2 granarylaw03_spoil_c)
def granarylaw03_spoil_d2 : LD := { ins := ⟨[(0, (.av (.one (.const (.slw 0 1))))), (2, (.av (.one (.int .i64)))), (3, (.av (.one (.int .i64))))], [(.sh (.deep .u8), false)]⟩, mov := [], wr := [0], outs := [(.exit 2, ⟨[], [(.sh (.deep .u8), false)]⟩)], its := [.int, .int, .lst (.sl (.int .u8))], ots := [[.lst (.sl (.int .u8))]] }
def granarylaw03_spoil_d0 : LD := { ins := ⟨[(0, (.av (.one (.const (.slw 0 1))))), (2, (.av (.one (.int .i64))))], [(.sh (.deep .u8), false)]⟩, mov := [], wr := [0], outs := [(.exit 0, ⟨[], [(.sh (.deep .u8), false)]⟩)], its := [.int, .lst (.sl (.int .u8))], ots := [[.lst (.sl (.int .u8))]] }
noncomputable def granarylaw03_spoil_J (N : Nat) : Nat → Hint := fun cx => hintOf cx [(0, { reg := fun k => assoc0 k [], cnd := fun k => assoc0 k [], loop := fun k => assoc0 k [(2, ⟨granarylaw03_spoil_d2, loopF (granarylaw03_spoil_b2 N) N⟩), (0, ⟨granarylaw03_spoil_d0, loopF (granarylaw03_spoil_b0 N) N⟩)], nil := fun k => assoc0 k [], unr := fun k => assocN k [], blk := fun k => assoc0 k [] })]
noncomputable def granarylaw03_spoil_C (N : Nat) : Nat → List GS := fun k => tabOf k []
def granarylaw03_spoil_o : List (Shp × List Nat) := [(⟨[(0, (.tup []))], [(.sh (.deep .u8), false)]⟩, [])]
noncomputable def granarylaw03_spoil_g (N : Nat) : GS := { ins := ⟨[(0, (.av (.one (.const (.slw 0 1)))))], [(some (.deep .u8), false)]⟩, lend := [.keep], outs := granarylaw03_spoil_o.map fun s => ssOf s.1, its := [.lst (.sl (.int .u8))], ots := [[.lst (.sl (.int .u8))]], F := granarylaw03_spoil N }
theorem granarylaw03_spoil_t (N : Nat) : TabC Try.prog (granarylaw03_spoil_C N) := tab_ok trivial
theorem granarylaw03_spoil_i2 : loopsOf granarylaw03_spoil_c2 = [] := by kernel_rfl
theorem granarylaw03_spoil_e2 (N : Nat) (next) (x) : granarylaw03_spoil_b2 N next x = loopStep Γ (granarylaw03_spoil_C N) (granarylaw03_spoil_J N) 0 33 granarylaw03_spoil_d2 granarylaw03_spoil_c2 next x := by kernel_rfl
theorem granarylaw03_spoil_k2 (N : Nat) : LoopOK Try.prog 33 granarylaw03_spoil_c2 ⟨granarylaw03_spoil_d2, loopF (granarylaw03_spoil_b2 N) N⟩ := loop_ok tabOK (granarylaw03_spoil_t N) mixedOK (J := granarylaw03_spoil_J N) (cx := 0) (body := granarylaw03_spoil_c2) (nt := 33) (l := granarylaw03_spoil_d2) (b := granarylaw03_spoil_b2 N) (jok_from granarylaw03_spoil_i2 ⟨trivial, trivial⟩) (granarylaw03_spoil_e2 N) N
theorem granarylaw03_spoil_i0 : loopsOf granarylaw03_spoil_c0 = [(2, granarylaw03_spoil_c2)] := by kernel_rfl
theorem granarylaw03_spoil_e0 (N : Nat) (next) (x) : granarylaw03_spoil_b0 N next x = loopStep Γ (granarylaw03_spoil_C N) (granarylaw03_spoil_J N) 0 33 granarylaw03_spoil_d0 granarylaw03_spoil_c0 next x := by kernel_rfl
theorem granarylaw03_spoil_k0 (N : Nat) : LoopOK Try.prog 33 granarylaw03_spoil_c0 ⟨granarylaw03_spoil_d0, loopF (granarylaw03_spoil_b0 N) N⟩ := loop_ok tabOK (granarylaw03_spoil_t N) mixedOK (J := granarylaw03_spoil_J N) (cx := 0) (body := granarylaw03_spoil_c0) (nt := 33) (l := granarylaw03_spoil_d0) (b := granarylaw03_spoil_b0 N) (jok_from granarylaw03_spoil_i0 ⟨⟨.inr ⟨_, rfl, granarylaw03_spoil_k2 N⟩, trivial⟩, trivial⟩) (granarylaw03_spoil_e0 N) N
theorem granarylaw03_spoil_i : loopsOf granarylaw03_spoil_c = [(0, granarylaw03_spoil_c0), (2, granarylaw03_spoil_c2)] := by kernel_rfl
theorem granarylaw03_spoil_e (N : Nat) (x) : (granarylaw03_spoil_g N).F x = fnStep Γ (granarylaw03_spoil_C N) (granarylaw03_spoil_J N) 33 Try.f19.results.toList (granarylaw03_spoil_g N) granarylaw03_spoil_o granarylaw03_spoil_c x := by kernel_rfl
theorem granarylaw03_spoil_y : Try.f19.body = some granarylaw03_spoil_c := by kernel_rfl
theorem granarylaw03_spoil_n : (Try.f19.name == "runtime.NumGoroutine") = false := by kernel_rfl
theorem granarylaw03_spoil_ok (N : Nat) : FnDoes Try.prog 19 (granarylaw03_spoil_g N) := fn_ok tabOK (granarylaw03_spoil_t N) mixedOK (J := granarylaw03_spoil_J N) (body := granarylaw03_spoil_c) Try.func19 granarylaw03_spoil_y granarylaw03_spoil_n Try.ntmps19 (jok_from granarylaw03_spoil_i ⟨⟨.inr ⟨_, rfl, granarylaw03_spoil_k0 N⟩, .inr ⟨_, rfl, granarylaw03_spoil_k2 N⟩, trivial⟩, trivial⟩) rfl rfl (le_of_ble rfl) (granarylaw03_spoil_e N)
noncomputable def rs_Code_Rebuild_v2_c : Code := codeOf Try.f15.body
noncomputable def rs_Code_Rebuild_v2_c0 : Code := codeOf (getLoop 0 rs_Code_Rebuild_v2_c)
noncomputable def rs_Code_Rebuild_v2_c3 : Code := codeOf (getLoop 3 rs_Code_Rebuild_v2_c)
def rs_Code_Rebuild_v2_d0 : LD := { ins := ⟨[(0, (.av (.one (.const (.ptr ⟨0, 0, 0, 0⟩))))), (1, (.av (.one (.rsl (.sl (.int .u8)))))), (2, (.av (.one (.rsl .bool)))), (8, (.av (.one (.const (.slw 4 1))))), (9, (.av (.one (.const (.slw 5 1))))), (47, (.av (.one (.rsl .bool)))), (48, (.av (.one (.int .i64)))), (49, (.av (.one (.int .i64))))], [(.keep, false), (.keep, false), (.keep, false), (.keep, false), (.sh (.arr (.sl (.int .u8)) none), false), (.sh (.arr (.int .i64) none), false)]⟩, mov := [4, 5], wr := [], outs := [(.exit 0, ⟨[(8, (.av (.one (.const (.slw 6 1))))), (9, (.av (.one (.const (.slw 7 1)))))], [(.keep, false), (.keep, false), (.keep, false), (.keep, false), (.dead, false), (.dead, false), (.sh (.arr (.sl (.int .u8)) none), false), (.sh (.arr (.int .i64) none), false)]⟩)], its := [.lst (.sl (.int .u8)), .lst .bool, .lst .bool, .int, .int, .lst (.sl (.int .u8)), .lst (.int .i64)], ots := [[.lst (.sl (.int .u8)), .lst (.int .i64)]] }
def rs_Code_Rebuild_v2_d3 : LD := { ins := ⟨[(0, (.av (.one (.const (.ptr ⟨0, 0, 0, 0⟩))))), (1, (.av (.one (.rsl (.sl (.int .u8)))))), (12, (.av (.one (.int .i64)))), (14, (.av (.one (.const (.slw 8 1))))), (15, (.av (.one (.const (.slw 9 1))))), (105, (.av (.one (.rsl .bool)))), (106, (.av (.one (.int .i64)))), (107, (.av (.one (.int .i64))))], [(.sh (.one (.int .i64)), true), (.sh (.one (.int .i64)), true), (.sh (.one (.const (.slw 3 1))), false), (.sh (.arr (.int .u8) none), false), (.keep, false), (.keep, false), (.keep, false), (.keep, false), (.sh (.arr (.sl (.int .u8)) none), false), (.sh (.deep .u8), false)]⟩, mov := [9], wr := [0, 1, 2, 3, 8], outs := [(.exit 3, ⟨[(15, (.av (.one (.const (.slw 10 1)))))], [(.sh (.one (.int .i64)), true), (.sh (.one (.int .i64)), true), (.sh (.one (.const (.slw 3 1))), false), (.sh (.arr (.int .u8) none), false), (.keep, false), (.keep, false), (.keep, false), (.keep, false), (.sh (.arr (.sl (.int .u8)) none), false), (.dead, false), (.sh (.deep .u8), false)]⟩)], its := [.lst (.sl (.int .u8)), .int, .lst .bool, .int, .int, .int, .int, .lst (.int .u8), .lst (.sl (.int .u8)), .lst (.sl (.int .u8))], ots := [[.int, .int, .lst (.int .u8), .lst (.sl (.int .u8)), .lst (.sl (.int .u8))]] }
noncomputable def rs_Code_Rebuild_v2_J (N : Nat) : Nat → Hint := fun cx => hintOf cx [(0, { reg := fun k => assoc0 k [(3, ⟨⟨[(46, (.av (.one .bool)))], [(.keep, true), (.keep, true), (.keep, false), (.keep, false)]⟩, [], [], [.bool]⟩)], cnd := fun k => assoc0 k [(54, ⟨[4, 5], [], [(.normal, ⟨[(8, (.av (.one (.const (.slw 6 1))))), (9, (.av (.one (.const (.slw 7 1)))))], [(.dead, false), (.dead, false), (.dead, false), (.dead, false), (.dead, false), (.dead, false), (.sh (.arr (.sl (.int .u8)) none), false), (.sh (.arr (.int .i64) none), false)]⟩)], [[.lst (.sl (.int .u8)), .lst (.int .i64)]]⟩), (114, ⟨[], [0, 1, 2, 3, 10], [(.normal, ⟨[], [(.sh (.one (.int .i64)), true), (.sh (.one (.int .i64)), true), (.sh (.one (.const (.slw 3 1))), false), (.sh (.arr (.int .u8) none), false), (.dead, false), (.dead, false), (.dead, false), (.dead, false), (.keep, false), (.keep, false), (.sh (.arr (.int .u8) none), false)]⟩)], [[.int, .int, .lst (.int .u8), .lst (.int .u8)]]⟩)], loop := fun k => assoc0 k [(0, ⟨rs_Code_Rebuild_v2_d0, loopF (rs_Code_Rebuild_v2_b0 N) N⟩), (3, ⟨rs_Code_Rebuild_v2_d3, loopF (rs_Code_Rebuild_v2_b3 N) N⟩)], nil := fun k => assoc0 k [(15, (.pair (.sl (.int .u8)) .unit)), (99, (.arr 6 .unit)), (131, (.pair (.sl (.int .u8)) .unit))], unr := fun k => assocN k [], blk := fun k => assoc0 k [] })]
noncomputable def rs_Code_Rebuild_v2_C (N : Nat) : Nat → List GS := fun k => tabOf k [(38, [rs_even_v1_g N]), (39, [rs_Code_solve_g N]), (22, [rs_Code_Row_g N]), (40, [rs_mixed_v1_g N])]
def rs_Code_Rebuild_v2_o : List (Shp × List Nat) := [(⟨[(0, (.tup [(.one (.const (.slw 4 1))), (.one (.int .i64))]))], [(.sh (.one (.int .i64)), true), (.sh (.one (.int .i64)), true), (.sh (.one (.const (.slw 3 1))), false), (.sh (.arr (.int .u8) none), false), (.sh (.deep .u8), false)]⟩, [])]
noncomputable def rs_Code_Rebuild_v2_g (N : Nat) : GS := { ins := ⟨[(0, (.av (.one (.const (.ptr ⟨0, 0, 0, 0⟩))))), (1, (.av (.one (.rsl (.sl (.int .u8)))))), (2, (.av (.one (.rsl .bool))))], [(some (.one (.int .i64)), true), (some (.one (.int .i64)), true), (some (.one (.const (.slw 3 1))), false), (some (.arr (.int .u8) none), false)]⟩, lend := [.keep, .lend (.sl (.int .u8)), .lend .bool], outs := rs_Code_Rebuild_v2_o.map fun s => ssOf s.1, its := [.lst (.sl (.int .u8)), .lst .bool, .int, .int, .lst (.int .u8)], ots := [[.int, .int, .int, .lst (.int .u8), .lst (.sl (.int .u8))]], F := rs_Code_Rebuild_v2 N }
noncomputable def rs_Code_Rebuild_v2_CA (N : Nat) (f0 : (List (List Int)) → Option (Int × Int)) (f1 : (List (List Int)) × (List Int) × Int × Int × Int × (List Int) → Option (Int × Int × Int × (List Int) × (List (List Int)))) (f2 : Int × Int × Int × (List Int) → Option (Int × Int × (List Int) × (List Int))) (f3 : (List Int) × (List (List Int)) × Int → Option ((List Int))) : Nat → List GS := fun k => tabOf k [(38, [{ rs_even_v1_g N with F := f0 }]), (39, [{ rs_Code_solve_g N with F := f1 }]), (22, [{ rs_Code_Row_g N with F := f2 }]), (40, [{ rs_mixed_v1_g N with F := f3 }])]
theorem rs_Code_Rebuild_v2_CE (N : Nat) : rs_Code_Rebuild_v2_CA N (rs_even_v1 N) (rs_Code_solve N) (rs_Code_Row) (rs_mixed_v1 N) = rs_Code_Rebuild_v2_C N := by kernel_rfl
theorem rs_Code_Rebuild_v2_t (N : Nat) : TabC Try.prog (rs_Code_Rebuild_v2_C N) := tab_ok ⟨⟨rs_even_v1_ok N, trivial⟩, ⟨rs_Code_solve_ok N, trivial⟩, ⟨rs_Code_Row_ok N, trivial⟩, ⟨rs_mixed_v1_ok N, trivial⟩, trivial⟩
theorem rs_Code_Rebuild_v2_i0 : loopsOf rs_Code_Rebuild_v2_c0 = [] := by kernel_rfl
noncomputable def rs_Code_Rebuild_v2_a0 (N : Nat) (f0 : (List (List Int)) → Option (Int × Int)) (f1 : (List (List Int)) × (List Int) × Int × Int × Int × (List Int) → Option (Int × Int × Int × (List Int) × (List (List Int)))) (f2 : Int × Int × Int × (List Int) → Option (Int × Int × (List Int) × (List Int))) (f3 : (List Int) × (List (List Int)) × Int → Option ((List Int))) (next : (List (List Int)) × (List Bool) × (List Bool) × Int × Int × (List (List Int)) × (List Int) → Option (((List (List Int)) × (List Int)))) (x : (List (List Int)) × (List Bool) × (List Bool) × Int × Int × (List (List Int)) × (List Int)) : Option (((List (List Int)) × (List Int))) :=
  (cond (decide (x.2.2.2.2.1 < x.2.2.2.1))
  (cond ((decide ((0 : Int) ≤ x.2.2.2.2.1)) && (decide (x.2.2.2.2.1 < (((List.length x.2.2.1) : Nat) : Int))))
  ((Option.bind
  (cond (List.getD x.2.2.1 (Int.toNat x.2.2.2.2.1) (EK.dflt .bool))
  (cond ((decide ((0 : Int) ≤ x.2.2.2.2.1)) && (decide (x.2.2.2.2.1 < (((List.length x.1) : Nat) : Int))))
  ((let v4 : List (List Int) := ([(List.getD x.1 (Int.toNat x.2.2.2.2.1) (EK.dflt (.sl (.int .u8))))] : List (List Int))
  (cond ((decide (1 ≤ (List.length v4))) && (fits 24 ((List.length x.2.2.2.2.2.1) + (List.length (List.take 1 (List.drop 0 v4))))))
  ((let v6 : List Int := ([x.2.2.2.2.1] : List Int)
  (cond ((decide (1 ≤ (List.length v6))) && (fits 8 ((List.length x.2.2.2.2.2.2) + (List.length (List.take 1 (List.drop 0 v6))))))
  ((some ((x.2.2.2.2.2.1 ++ (List.take 1 (List.drop 0 v4))), (x.2.2.2.2.2.2 ++ (List.take 1 (List.drop 0 v6))))))
  none)))
  none)))
  none)
  (some (x.2.2.2.2.2.1, x.2.2.2.2.2.2)))
  fun r8 =>
  (next (x.1, x.2.1, x.2.2.1, x.2.2.2.1, (wrapF .i64 (x.2.2.2.2.1 + (1 : Int))), r8.1, r8.2))))
  none)
  (some (x.2.2.2.2.2.1, x.2.2.2.2.2.2)))
theorem rs_Code_Rebuild_v2_f0 (N : Nat) (f0 : (List (List Int)) → Option (Int × Int)) (f1 : (List (List Int)) × (List Int) × Int × Int × Int × (List Int) → Option (Int × Int × Int × (List Int) × (List (List Int)))) (f2 : Int × Int × Int × (List Int) → Option (Int × Int × (List Int) × (List Int))) (f3 : (List Int) × (List (List Int)) × Int → Option ((List Int))) (next) (x) : rs_Code_Rebuild_v2_a0 N f0 f1 f2 f3 next x = loopStep Γ (rs_Code_Rebuild_v2_CA N f0 f1 f2 f3) (rs_Code_Rebuild_v2_J N) 0 135 rs_Code_Rebuild_v2_d0 rs_Code_Rebuild_v2_c0 next x := by kernel_rfl
theorem rs_Code_Rebuild_v2_e0 (N : Nat) (next) (x) : rs_Code_Rebuild_v2_b0 N next x = loopStep Γ (rs_Code_Rebuild_v2_C N) (rs_Code_Rebuild_v2_J N) 0 135 rs_Code_Rebuild_v2_d0 rs_Code_Rebuild_v2_c0 next x := by
  rw [← rs_Code_Rebuild_v2_CE N]
  exact Eq.trans (by kernel_rfl) (rs_Code_Rebuild_v2_f0 N (rs_even_v1 N) (rs_Code_solve N) (rs_Code_Row) (rs_mixed_v1 N) next x)
theorem rs_Code_Rebuild_v2_k0 (N : Nat) : LoopOK Try.prog 135 rs_Code_Rebuild_v2_c0 ⟨rs_Code_Rebuild_v2_d0, loopF (rs_Code_Rebuild_v2_b0 N) N⟩ := loop_ok tabOK (rs_Code_Rebuild_v2_t N) mixedOK (J := rs_Code_Rebuild_v2_J N) (cx := 0) (body := rs_Code_Rebuild_v2_c0) (nt := 135) (l := rs_Code_Rebuild_v2_d0) (b := rs_Code_Rebuild_v2_b0 N) (jok_from rs_Code_Rebuild_v2_i0 ⟨trivial, trivial⟩) (rs_Code_Rebuild_v2_e0 N) N
theorem rs_Code_Rebuild_v2_i3 : loopsOf rs_Code_Rebuild_v2_c3 = [] := by kernel_rfl
noncomputable def rs_Code_Rebuild_v2_a3 (N : Nat) (f0 : (List (List Int)) → Option (Int × Int)) (f1 : (List (List Int)) × (List Int) × Int × Int × Int × (List Int) → Option (Int × Int × Int × (List Int) × (List (List Int)))) (f2 : Int × Int × Int × (List Int) → Option (Int × Int × (List Int) × (List Int))) (f3 : (List Int) × (List (List Int)) × Int → Option ((List Int))) (next : (List (List Int)) × Int × (List Bool) × Int × Int × Int × Int × (List Int) × (List (List Int)) × (List (List Int)) → Option ((Int × Int × (List Int) × (List (List Int)) × (List (List Int))))) (x : (List (List Int)) × Int × (List Bool) × Int × Int × Int × Int × (List Int) × (List (List Int)) × (List (List Int))) : Option ((Int × Int × (List Int) × (List (List Int)) × (List (List Int)))) :=
  (cond (decide (x.2.2.2.2.1 < x.2.2.2.1))
  (cond ((decide ((0 : Int) ≤ x.2.2.2.2.1)) && (decide (x.2.2.2.2.1 < (((List.length x.2.2.1) : Nat) : Int))))
  ((cond ((decide ((0 : Int) ≤ x.2.1)) && (fits 1 (Int.toNat x.2.1)))
  ((let v3 : List Int := (List.replicate (Int.toNat x.2.1) (EK.dflt (.int .u8)))
  (Option.bind
  (cond (List.getD x.2.2.1 (Int.toNat x.2.2.2.2.1) (EK.dflt .bool))
  (cond ((decide ((0 : Int) ≤ x.2.2.2.2.1)) && (decide (x.2.2.2.2.1 < (((List.length x.1) : Nat) : Int))))
  ((let v4 : (List Int) := (List.getD x.1 (Int.toNat x.2.2.2.2.1) (EK.dflt (.sl (.int .u8))))
  (cond (decide ((0 + (List.length v3)) ≤ (List.length v3)))
  ((some (x.2.2.2.2.2.1, x.2.2.2.2.2.2.1, x.2.2.2.2.2.2.2.1, (List.take 0 v3 ++ List.take (min (List.length v4) (List.length v3)) v4 ++ List.drop (0 + (min (List.length v4) (List.length v3))) v3))))
  none)))
  none)
  (Option.bind (f2 (x.2.2.2.2.1, x.2.2.2.2.2.1, x.2.2.2.2.2.2.1, x.2.2.2.2.2.2.2.1)) fun r7 =>
  (Option.bind (f3 (r7.2.2.2, x.2.2.2.2.2.2.2.2.1, x.2.1)) fun r8 =>
  (cond (decide ((0 + (List.length v3)) ≤ (List.length v3)))
  ((some (r7.1, r7.2.1, r7.2.2.1, (List.take 0 v3 ++ List.take (min (List.length r8) (List.length v3)) r8 ++ List.drop (0 + (min (List.length r8) (List.length v3))) v3))))
  none))))
  fun r11 =>
  (let v12 : List (List Int) := ([r11.2.2.2] : List (List Int))
  (cond (fits 24 ((List.length x.2.2.2.2.2.2.2.2.2) + (List.length v12)))
  ((next (x.1, x.2.1, x.2.2.1, x.2.2.2.1, (wrapF .i64 (x.2.2.2.2.1 + (1 : Int))), r11.1, r11.2.1, r11.2.2.1, x.2.2.2.2.2.2.2.2.1, (x.2.2.2.2.2.2.2.2.2 ++ v12))))
  none)))))
  none))
  none)
  (some (x.2.2.2.2.2.1, x.2.2.2.2.2.2.1, x.2.2.2.2.2.2.2.1, x.2.2.2.2.2.2.2.2.1, x.2.2.2.2.2.2.2.2.2)))
theorem rs_Code_Rebuild_v2_f3 (N : Nat) (f0 : (List (List Int)) → Option (Int × Int)) (f1 : (List (List Int)) × (List Int) × Int × Int × Int × (List Int) → Option (Int × Int × Int × (List Int) × (List (List Int)))) (f2 : Int × Int × Int × (List Int) → Option (Int × Int × (List Int) × (List Int))) (f3 : (List Int) × (List (List Int)) × Int → Option ((List Int))) (next) (x) : rs_Code_Rebuild_v2_a3 N f0 f1 f2 f3 next x = loopStep Γ (rs_Code_Rebuild_v2_CA N f0 f1 f2 f3) (rs_Code_Rebuild_v2_J N) 0 135 rs_Code_Rebuild_v2_d3 rs_Code_Rebuild_v2_c3 next x := by kernel_rfl
theorem rs_Code_Rebuild_v2_e3 (N : Nat) (next) (x) : rs_Code_Rebuild_v2_b3 N next x = loopStep Γ (rs_Code_Rebuild_v2_C N) (rs_Code_Rebuild_v2_J N) 0 135 rs_Code_Rebuild_v2_d3 rs_Code_Rebuild_v2_c3 next x := by
  rw [← rs_Code_Rebuild_v2_CE N]
  exact Eq.trans (by kernel_rfl) (rs_Code_Rebuild_v2_f3 N (rs_even_v1 N) (rs_Code_solve N) (rs_Code_Row) (rs_mixed_v1 N) next x)
theorem rs_Code_Rebuild_v2_k3 (N : Nat) : LoopOK Try.prog 135 rs_Code_Rebuild_v2_c3 ⟨rs_Code_Rebuild_v2_d3, loopF (rs_Code_Rebuild_v2_b3 N) N⟩ := loop_ok tabOK (rs_Code_Rebuild_v2_t N) mixedOK (J := rs_Code_Rebuild_v2_J N) (cx := 0) (body := rs_Code_Rebuild_v2_c3) (nt := 135) (l := rs_Code_Rebuild_v2_d3) (b := rs_Code_Rebuild_v2_b3 N) (jok_from rs_Code_Rebuild_v2_i3 ⟨trivial, trivial⟩) (rs_Code_Rebuild_v2_e3 N) N
theorem rs_Code_Rebuild_v2_i : loopsOf rs_Code_Rebuild_v2_c = [(0, rs_Code_Rebuild_v2_c0), (3, rs_Code_Rebuild_v2_c3)] := by kernel_rfl
noncomputable def rs_Code_Rebuild_v2_a (N : Nat) (f0 : (List (List Int)) → Option (Int × Int)) (f1 : (List (List Int)) × (List Int) × Int × Int × Int × (List Int) → Option (Int × Int × Int × (List Int) × (List (List Int)))) (f2 : Int × Int × Int × (List Int) → Option (Int × Int × (List Int) × (List Int))) (f3 : (List Int) × (List (List Int)) × Int → Option ((List Int))) (x : (List (List Int)) × (List Bool) × Int × Int × (List Int)) : Option (Int × Int × Int × (List Int) × (List (List Int))) :=
  (Option.bind
  (cond (!(decide ((((List.length x.1) : Nat) : Int) = (wrapF .i64 (x.2.2.1 + x.2.2.2.1)))))
  (some true)
  (some (!(decide ((((List.length x.2.1) : Nat) : Int) = (wrapF .i64 (x.2.2.1 + x.2.2.2.1)))))))
  fun r7 =>
  (cond r7
  (some ((2 : Int), x.2.2.1, x.2.2.2.1, x.2.2.2.2, ([] : List (List Int))))
  (Option.bind (rs_Code_Rebuild_v2_l0 N (x.1, x.2.1, x.2.1, (((List.length x.2.1) : Nat) : Int), (0 : Int), ([] : List (List Int)), ([] : List Int))) fun r9 =>
  (Option.bind (f0 r9.1) fun r10 =>
  (cond (!(decide (r10.2 = (0 : Int))))
  (some (r10.2, x.2.2.1, x.2.2.2.1, x.2.2.2.2, ([] : List (List Int))))
  (cond (decide ((((List.length r9.1) : Nat) : Int) < x.2.2.1))
  (some ((30 : Int), x.2.2.1, x.2.2.2.1, x.2.2.2.2, ([] : List (List Int))))
  (cond ((decide ((0 : Int) ≤ x.2.2.1)) && (decide (x.2.2.1 ≤ (((List.length r9.1) : Nat) : Int))))
  ((let v14 : Nat := (Int.toNat x.2.2.1)
  (cond ((decide ((0 : Int) ≤ x.2.2.1)) && (decide (x.2.2.1 ≤ (((List.length r9.2) : Nat) : Int))))
  ((let v15 : Nat := (Int.toNat x.2.2.1)
  (cond (((decide ((0 + v14) ≤ (List.length r9.1))) && ((decide ((0 + v15) ≤ (List.length r9.2))) && true)) && true)
  (Option.bind (f1 ((List.take v14 (List.drop 0 r9.1)), (List.take v15 (List.drop 0 r9.2)), r10.1, x.2.2.1, x.2.2.2.1, x.2.2.2.2)) fun r16 =>
  (cond (!(decide (r16.1 = (0 : Int))))
  (some (r16.1, r16.2.1, r16.2.2.1, r16.2.2.2.1, ([] : List (List Int))))
  (Option.bind (rs_Code_Rebuild_v2_l3 N (x.1, r10.1, x.2.1, (((List.length x.2.1) : Nat) : Int), (0 : Int), r16.2.1, r16.2.2.1, r16.2.2.2.1, r16.2.2.2.2, ([] : List (List Int)))) fun r20 =>
  (some ((0 : Int), r20.1, r20.2.1, r20.2.2.1, r20.2.2.2.2)))))
  none)))
  none)))
  none)))))))
theorem rs_Code_Rebuild_v2_f (N : Nat) (f0 : (List (List Int)) → Option (Int × Int)) (f1 : (List (List Int)) × (List Int) × Int × Int × Int × (List Int) → Option (Int × Int × Int × (List Int) × (List (List Int)))) (f2 : Int × Int × Int × (List Int) → Option (Int × Int × (List Int) × (List Int))) (f3 : (List Int) × (List (List Int)) × Int → Option ((List Int))) (x) : rs_Code_Rebuild_v2_a N f0 f1 f2 f3 x = fnStep Γ (rs_Code_Rebuild_v2_CA N f0 f1 f2 f3) (rs_Code_Rebuild_v2_J N) 135 Try.f15.results.toList (rs_Code_Rebuild_v2_g N) rs_Code_Rebuild_v2_o rs_Code_Rebuild_v2_c x := by kernel_rfl
theorem rs_Code_Rebuild_v2_e (N : Nat) (x) : (rs_Code_Rebuild_v2_g N).F x = fnStep Γ (rs_Code_Rebuild_v2_C N) (rs_Code_Rebuild_v2_J N) 135 Try.f15.results.toList (rs_Code_Rebuild_v2_g N) rs_Code_Rebuild_v2_o rs_Code_Rebuild_v2_c x := by
  rw [← rs_Code_Rebuild_v2_CE N]
  exact Eq.trans (by kernel_rfl) (rs_Code_Rebuild_v2_f N (rs_even_v1 N) (rs_Code_solve N) (rs_Code_Row) (rs_mixed_v1 N) x)
theorem rs_Code_Rebuild_v2_y : Try.f15.body = some rs_Code_Rebuild_v2_c := by kernel_rfl
theorem rs_Code_Rebuild_v2_n : (Try.f15.name == "runtime.NumGoroutine") = false := by kernel_rfl
theorem rs_Code_Rebuild_v2_ok (N : Nat) : FnDoes Try.prog 15 (rs_Code_Rebuild_v2_g N) := fn_ok tabOK (rs_Code_Rebuild_v2_t N) mixedOK (J := rs_Code_Rebuild_v2_J N) (body := rs_Code_Rebuild_v2_c) Try.func15 rs_Code_Rebuild_v2_y rs_Code_Rebuild_v2_n Try.ntmps15 (jok_from rs_Code_Rebuild_v2_i ⟨⟨.inr ⟨_, rfl, rs_Code_Rebuild_v2_k0 N⟩, .inr ⟨_, rfl, rs_Code_Rebuild_v2_k3 N⟩, trivial⟩, trivial⟩) rfl rfl (le_of_ble rfl) (rs_Code_Rebuild_v2_e N)
noncomputable def granaryref02_Check_c : Code := codeOf Try.f52.body
noncomputable def granaryref02_Check_J (N : Nat) : Nat → Hint := fun cx => hintOf cx [(0, { reg := fun k => assoc0 k [(1, ⟨⟨[(20, (.av (.one .bool)))], [(.keep, true), (.keep, true), (.keep, false)]⟩, [], [], [.bool]⟩)], cnd := fun k => assoc0 k [], loop := fun k => assoc0 k [], nil := fun k => assoc0 k [], unr := fun k => assocN k [], blk := fun k => assoc0 k [] })]
noncomputable def granaryref02_Check_C (N : Nat) : Nat → List GS := fun k => tabOf k []
def granaryref02_Check_o : List (Shp × List Nat) := [(⟨[(0, (.av (.one (.int .i64))))], []⟩, [])]
noncomputable def granaryref02_Check_g (N : Nat) : GS := { ins := ⟨[(0, (.av (.agg [(.one (.int .i64)), (.one (.int .i64)), (.one (.rsl (.int .u8)))])))], []⟩, lend := [.keep], outs := granaryref02_Check_o.map fun s => ssOf s.1, its := [.int, .int, .lst (.int .u8)], ots := [[.int]], F := granaryref02_Check }
theorem granaryref02_Check_t (N : Nat) : TabC Try.prog (granaryref02_Check_C N) := tab_ok trivial
theorem granaryref02_Check_i : loopsOf granaryref02_Check_c = [] := by kernel_rfl
theorem granaryref02_Check_e (N : Nat) (x) : (granaryref02_Check_g N).F x = fnStep Γ (granaryref02_Check_C N) (granaryref02_Check_J N) 30 Try.f52.results.toList (granaryref02_Check_g N) granaryref02_Check_o granaryref02_Check_c x := by kernel_rfl
theorem granaryref02_Check_y : Try.f52.body = some granaryref02_Check_c := by kernel_rfl
theorem granaryref02_Check_n : (Try.f52.name == "runtime.NumGoroutine") = false := by kernel_rfl
theorem granaryref02_Check_ok (N : Nat) : FnDoes Try.prog 52 (granaryref02_Check_g N) := fn_ok tabOK (granaryref02_Check_t N) mixedOK (J := granaryref02_Check_J N) (body := granaryref02_Check_c) Try.func52 granaryref02_Check_y granaryref02_Check_n Try.ntmps52 (jok_from granaryref02_Check_i ⟨trivial, trivial⟩) rfl rfl (le_of_ble rfl) (granaryref02_Check_e N)
noncomputable def granaryref02_At_c : Code := codeOf Try.f53.body
noncomputable def granaryref02_At_J (N : Nat) : Nat → Hint := fun cx => hintOf cx []
noncomputable def granaryref02_At_C (N : Nat) : Nat → List GS := fun k => tabOf k []
def granaryref02_At_o : List (Shp × List Nat) := [(⟨[(0, (.av (.one (.int .u8))))], []⟩, [])]
noncomputable def granaryref02_At_g (N : Nat) : GS := { ins := ⟨[(0, (.av (.agg [(.one (.int .i64)), (.one (.int .i64)), (.one (.rsl (.int .u8)))]))), (1, (.av (.one (.int .i64)))), (2, (.av (.one (.int .i64))))], []⟩, lend := [.keep, .keep, .keep], outs := granaryref02_At_o.map fun s => ssOf s.1, its := [.int, .int, .lst (.int .u8), .int, .int], ots := [[.int]], F := granaryref02_At }
theorem granaryref02_At_t (N : Nat) : TabC Try.prog (granaryref02_At_C N) := tab_ok trivial
theorem granaryref02_At_i : loopsOf granaryref02_At_c = [] := by kernel_rfl
theorem granaryref02_At_e (N : Nat) (x) : (granaryref02_At_g N).F x = fnStep Γ (granaryref02_At_C N) (granaryref02_At_J N) 17 Try.f53.results.toList (granaryref02_At_g N) granaryref02_At_o granaryref02_At_c x := by kernel_rfl
theorem granaryref02_At_y : Try.f53.body = some granaryref02_At_c := by kernel_rfl
theorem granaryref02_At_n : (Try.f53.name == "runtime.NumGoroutine") = false := by kernel_rfl
theorem granaryref02_At_ok (N : Nat) : FnDoes Try.prog 53 (granaryref02_At_g N) := fn_ok tabOK (granaryref02_At_t N) mixedOK (J := granaryref02_At_J N) (body := granaryref02_At_c) Try.func53 granaryref02_At_y granaryref02_At_n Try.ntmps53 (jok_from granaryref02_At_i trivial) rfl rfl (le_of_ble rfl) (granaryref02_At_e N)
noncomputable def granaryref02_At_v1_c : Code := codeOf Try.f53.body
noncomputable def granaryref02_At_v1_J (N : Nat) : Nat → Hint := fun cx => hintOf cx []
noncomputable def granaryref02_At_v1_C (N : Nat) : Nat → List GS := fun k => tabOf k []
def granaryref02_At_v1_o : List (Shp × List Nat) := [(⟨[(0, (.av (.one (.int .u8))))], []⟩, [])]
noncomputable def granaryref02_At_v1_g (N : Nat) : GS := { ins := ⟨[(0, (.av (.agg [(.one (.int .i64)), (.one (.int .i64)), (.one (.rsl (.int .u8)))]))), (1, (.av (.one (.int .i64)))), (2, (.av (.one (.int .i64))))], []⟩, lend := [.agg [none, none, some (.int .u8)], .keep, .keep], outs := granaryref02_At_v1_o.map fun s => ssOf s.1, its := [.int, .int, .lst (.int .u8), .int, .int], ots := [[.int]], F := granaryref02_At_v1 }
theorem granaryref02_At_v1_t (N : Nat) : TabC Try.prog (granaryref02_At_v1_C N) := tab_ok trivial
theorem granaryref02_At_v1_i : loopsOf granaryref02_At_v1_c = [] := by kernel_rfl
theorem granaryref02_At_v1_e (N : Nat) (x) : (granaryref02_At_v1_g N).F x = fnStep Γ (granaryref02_At_v1_C N) (granaryref02_At_v1_J N) 17 Try.f53.results.toList (granaryref02_At_v1_g N) granaryref02_At_v1_o granaryref02_At_v1_c x := by kernel_rfl
theorem granaryref02_At_v1_y : Try.f53.body = some granaryref02_At_v1_c := by kernel_rfl
theorem granaryref02_At_v1_n : (Try.f53.name == "runtime.NumGoroutine") = false := by kernel_rfl
theorem granaryref02_At_v1_ok (N : Nat) : FnDoes Try.prog 53 (granaryref02_At_v1_g N) := fn_ok tabOK (granaryref02_At_v1_t N) mixedOK (J := granaryref02_At_v1_J N) (body := granaryref02_At_v1_c) Try.func53 granaryref02_At_v1_y granaryref02_At_v1_n Try.ntmps53 (jok_from granaryref02_At_v1_i trivial) rfl rfl (le_of_ble rfl) (granaryref02_At_v1_e N)
noncomputable def granaryref02_cleared_c : Code := codeOf Try.f54.body
noncomputable def granaryref02_cleared_c0 : Code := codeOf (getLoop 0 granaryref02_cleared_c)
noncomputable def granaryref02_cleared_c2 : Code := codeOf (getLoop 2 granaryref02_cleared_c)
noncomputable def granaryref02_cleared_c4 : Code := codeOf (getLoop 4 granaryref02_cleared_c)
noncomputable def granaryref02_cleared_c6 : Code := codeOf (getLoop 6 granaryref02_cleared_c)
noncomputable def granaryref02_cleared_c8 : Code := codeOf (getLoop 8 granaryref02_cleared_c)
noncomputable def granaryref02_cleared_c10 : Code := codeOf (getLoop 10 granaryref02_cleared_c)
def granaryref02_cleared_d2 : LD := { ins := ⟨[(1, (.av (.one (.int .i64)))), (4, (.av (.one (.const (.ptr ⟨3, 0, 0, 0⟩))))), (6, (.av (.one (.const (.ptr ⟨8, 0, 0, 0⟩))))), (7, (.av (.one (.int .i64)))), (8, (.av (.one (.int .i64)))), (9, (.av (.one (.int .i64))))], [(.keep, false), (.keep, false), (.keep, false), (.keep, false), (.keep, false), (.keep, false), (.keep, false), (.sh (.arr (.int .u8) none), false), (.sh (.one (.int .i64)), true), (.sh (.one (.int .i64)), true), (.sh (.one (.const (.slw 7 1))), false)]⟩, mov := [], wr := [7, 8, 9, 10], outs := [(.exit 2, ⟨[(9, (.av (.one (.int .i64))))], [(.keep, false), (.keep, false), (.keep, false), (.keep, false), (.keep, false), (.keep, false), (.keep, false), (.sh (.arr (.int .u8) none), false), (.sh (.one (.int .i64)), true), (.sh (.one (.int .i64)), true), (.sh (.one (.const (.slw 7 1))), false)]⟩)], its := [.int, .int, .int, .int, .lst (.int .u8), .int, .int], ots := [[.int, .lst (.int .u8), .int, .int]] }
def granaryref02_cleared_d4 : LD := { ins := ⟨[(1, (.av (.one (.int .i64)))), (4, (.av (.one (.const (.ptr ⟨3, 0, 0, 0⟩))))), (6, (.av (.one (.const (.ptr ⟨8, 0, 0, 0⟩))))), (7, (.av (.one (.int .i64)))), (8, (.av (.one (.int .i64)))), (9, (.av (.one (.int .i64)))), (10, (.av (.one (.int .i64))))], [(.keep, false), (.keep, false), (.keep, false), (.keep, false), (.keep, false), (.keep, false), (.keep, false), (.sh (.arr (.int .u8) none), false), (.sh (.one (.int .i64)), true), (.sh (.one (.int .i64)), true), (.sh (.one (.const (.slw 7 1))), false)]⟩, mov := [], wr := [7, 8, 9, 10], outs := [(.exit 4, ⟨[], [(.keep, false), (.keep, false), (.keep, false), (.keep, false), (.keep, false), (.keep, false), (.keep, false), (.sh (.arr (.int .u8) none), false), (.sh (.one (.int .i64)), true), (.sh (.one (.int .i64)), true), (.sh (.one (.const (.slw 7 1))), false)]⟩)], its := [.int, .int, .int, .int, .int, .lst (.int .u8), .int, .int], ots := [[.lst (.int .u8), .int, .int]] }
def granaryref02_cleared_d6 : LD := { ins := ⟨[(1, (.av (.one (.int .i64)))), (4, (.av (.one (.const (.ptr ⟨3, 0, 0, 0⟩))))), (6, (.av (.one (.const (.ptr ⟨8, 0, 0, 0⟩))))), (7, (.av (.one (.int .i64)))), (8, (.av (.one (.int .i64)))), (11, (.av (.one (.int .u8)))), (13, (.av (.one (.int .i64))))], [(.keep, false), (.keep, false), (.keep, false), (.keep, false), (.keep, false), (.keep, false), (.keep, false), (.sh (.arr (.int .u8) none), false), (.sh (.one (.int .i64)), true), (.sh (.one (.int .i64)), true), (.sh (.one (.const (.slw 7 1))), false)]⟩, mov := [], wr := [7, 8, 9, 10], outs := [(.exit 6, ⟨[], [(.keep, false), (.keep, false), (.keep, false), (.keep, false), (.keep, false), (.keep, false), (.keep, false), (.sh (.arr (.int .u8) none), false), (.sh (.one (.int .i64)), true), (.sh (.one (.int .i64)), true), (.sh (.one (.const (.slw 7 1))), false)]⟩)], its := [.int, .int, .int, .int, .int, .lst (.int .u8), .int, .int], ots := [[.lst (.int .u8), .int, .int]] }
def granaryref02_cleared_d10 : LD := { ins := ⟨[(1, (.av (.one (.int .i64)))), (4, (.av (.one (.const (.ptr ⟨3, 0, 0, 0⟩))))), (6, (.av (.one (.const (.ptr ⟨8, 0, 0, 0⟩))))), (7, (.av (.one (.int .i64)))), (8, (.av (.one (.int .i64)))), (14, (.av (.one (.int .i64)))), (15, (.av (.one (.int .u8)))), (16, (.av (.one (.int .i64))))], [(.keep, false), (.keep, false), (.keep, false), (.keep, false), (.keep, false), (.keep, false), (.keep, false), (.sh (.arr (.int .u8) none), false), (.sh (.one (.int .i64)), true), (.sh (.one (.int .i64)), true), (.sh (.one (.const (.slw 7 1))), false)]⟩, mov := [], wr := [7, 8, 9, 10], outs := [(.exit 10, ⟨[], [(.keep, false), (.keep, false), (.keep, false), (.keep, false), (.keep, false), (.keep, false), (.keep, false), (.sh (.arr (.int .u8) none), false), (.sh (.one (.int .i64)), true), (.sh (.one (.int .i64)), true), (.sh (.one (.const (.slw 7 1))), false)]⟩)], its := [.int, .int, .int, .int, .int, .int, .lst (.int .u8), .int, .int], ots := [[.lst (.int .u8), .int, .int]] }
def granaryref02_cleared_d8 : LD := { ins := ⟨[(1, (.av (.one (.int .i64)))), (4, (.av (.one (.const (.ptr ⟨3, 0, 0, 0⟩))))), (6, (.av (.one (.const (.ptr ⟨8, 0, 0, 0⟩))))), (7, (.av (.one (.int .i64)))), (8, (.av (.one (.int .i64)))), (14, (.av (.one (.int .i64))))], [(.keep, false), (.keep, false), (.keep, false), (.keep, false), (.keep, false), (.keep, false), (.keep, false), (.sh (.arr (.int .u8) none), false), (.sh (.one (.int .i64)), true), (.sh (.one (.int .i64)), true), (.sh (.one (.const (.slw 7 1))), false)]⟩, mov := [], wr := [7, 8, 9, 10], outs := [(.exit 8, ⟨[], [(.keep, false), (.keep, false), (.keep, false), (.keep, false), (.keep, false), (.keep, false), (.keep, false), (.sh (.arr (.int .u8) none), false), (.sh (.one (.int .i64)), true), (.sh (.one (.int .i64)), true), (.sh (.one (.const (.slw 7 1))), false)]⟩)], its := [.int, .int, .int, .int, .lst (.int .u8), .int, .int], ots := [[.lst (.int .u8), .int, .int]] }
def granaryref02_cleared_d0 : LD := { ins := ⟨[(1, (.av (.one (.int .i64)))), (4, (.av (.one (.const (.ptr ⟨3, 0, 0, 0⟩))))), (6, (.av (.one (.const (.ptr ⟨8, 0, 0, 0⟩))))), (7, (.av (.one (.int .i64)))), (8, (.av (.one (.int .i64))))], [(.keep, false), (.keep, false), (.keep, false), (.keep, false), (.keep, false), (.keep, false), (.keep, false), (.sh (.arr (.int .u8) none), false), (.sh (.one (.int .i64)), true), (.sh (.one (.int .i64)), true), (.sh (.one (.const (.slw 7 1))), false)]⟩, mov := [], wr := [7, 8, 9, 10], outs := [(.exit 0, ⟨[(7, (.av (.one (.int .i64))))], [(.keep, false), (.keep, false), (.keep, false), (.keep, false), (.keep, false), (.keep, false), (.keep, false), (.sh (.arr (.int .u8) none), false), (.sh (.one (.int .i64)), true), (.sh (.one (.int .i64)), true), (.sh (.one (.const (.slw 7 1))), false)]⟩)], its := [.int, .int, .int, .lst (.int .u8), .int, .int], ots := [[.int, .lst (.int .u8), .int, .int]] }
noncomputable def granaryref02_cleared_J (N : Nat) : Nat → Hint := fun cx => hintOf cx [(0, { reg := fun k => assoc0 k [(4, ⟨⟨[(34, (.av (.one .bool)))], [(.dead, false), (.dead, false), (.dead, false), (.dead, false), (.dead, false), (.dead, false), (.dead, false), (.keep, false), (.keep, true), (.keep, true), (.keep, false)]⟩, [], [], [.bool]⟩), (7, ⟨⟨[(48, (.av (.one .bool)))], [(.dead, false), (.dead, false), (.dead, false), (.dead, false), (.dead, false), (.dead, false), (.dead, false), (.keep, false), (.keep, true), (.keep, true), (.keep, false)]⟩, [], [], [.bool]⟩), (24, ⟨⟨[(150, (.av (.one .bool)))], [(.dead, false), (.dead, false), (.dead, false), (.dead, false), (.dead, false), (.dead, false), (.dead, false), (.keep, false), (.keep, true), (.keep, true), (.keep, false)]⟩, [], [], [.bool]⟩)], cnd := fun k => assoc0 k [], loop := fun k => assoc0 k [(2, ⟨granaryref02_cleared_d2, loopF (granaryref02_cleared_b2 N) N⟩), (4, ⟨granaryref02_cleared_d4, loopF (granaryref02_cleared_b4 N) N⟩), (6, ⟨granaryref02_cleared_d6, loopF (granaryref02_cleared_b6 N) N⟩), (10, ⟨granaryref02_cleared_d10, loopF (granaryref02_cleared_b10 N) N⟩), (8, ⟨granaryref02_cleared_d8, loopF (granaryref02_cleared_b8 N) N⟩), (0, ⟨granaryref02_cleared_d0, loopF (granaryref02_cleared_b0 N) N⟩)], nil := fun k => assoc0 k [], unr := fun k => assocN k [], blk := fun k => assoc0 k [(1, ⟨[], [7, 8, 9, 10], [(.normal, ⟨[(7, (.av (.one (.int .i64))))], [(.dead, false), (.dead, false), (.dead, false), (.dead, false), (.dead, false), (.dead, false), (.dead, false), (.sh (.arr (.int .u8) none), false), (.sh (.one (.int .i64)), true), (.sh (.one (.int .i64)), true), (.sh (.one (.const (.slw 7 1))), false)]⟩)], [[.int, .lst (.int .u8), .int, .int]]⟩)] })]
noncomputable def granaryref02_cleared_C (N : Nat) : Nat → List GS := fun k => tabOf k [(53, [granaryref02_At_v1_g N]), (44, [granaryref02_Inv_g N]), (48, [granaryref02_Mul_g N])]
def granaryref02_cleared_o : List (Shp × List Nat) := [(⟨[(0, (.tup [(.agg [(.one (.int .i64)), (.one (.int .i64)), (.one (.const (.slw 0 1)))]), (.one (.int .i64))]))], [(.sh (.arr (.int .u8) none), false)]⟩, [])]
noncomputable def granaryref02_cleared_g (N : Nat) : GS := { ins := ⟨[(0, (.av (.agg [(.one (.int .i64)), (.one (.int .i64)), (.one (.rsl (.int .u8)))]))), (1, (.av (.one (.int .i64))))], []⟩, lend := [.agg [none, none, some (.int .u8)], .keep], outs := granaryref02_cleared_o.map fun s => ssOf s.1, its := [.int, .int, .lst (.int .u8), .int], ots := [[.int, .int, .int, .lst (.int .u8)]], F := granaryref02_cleared N }
noncomputable def granaryref02_cleared_CA (N : Nat) (f0 : Int × Int × (List Int) × Int × Int → Option (Int)) (f1 : Int → Option (Int × Int)) (f2 : Int × Int → Option (Int)) : Nat → List GS := fun k => tabOf k [(53, [{ granaryref02_At_v1_g N with F := f0 }]), (44, [{ granaryref02_Inv_g N with F := f1 }]), (48, [{ granaryref02_Mul_g N with F := f2 }])]
theorem granaryref02_cleared_CE (N : Nat) : granaryref02_cleared_CA N (granaryref02_At_v1) (granaryref02_Inv N) (granaryref02_Mul N) = granaryref02_cleared_C N := by kernel_rfl
theorem granaryref02_cleared_t (N : Nat) : TabC Try.prog (granaryref02_cleared_C N) := tab_ok ⟨⟨granaryref02_At_v1_ok N, trivial⟩, ⟨granaryref02_Inv_ok N, trivial⟩, ⟨granaryref02_Mul_ok N, trivial⟩, trivial⟩
theorem granaryref02_cleared_i10 : loopsOf granaryref02_cleared_c10 = [] := by kernel_rfl
noncomputable def granaryref02_cleared_a10 (N : Nat) (f0 : Int × Int × (List Int) × Int × Int → Option (Int)) (f1 : Int → Option (Int × Int)) (f2 : Int × Int → Option (Int)) (next : Int × Int × Int × Int × Int × Int × (List Int) × Int × Int → Option (((List Int) × Int × Int))) (x : Int × Int × Int × Int × Int × Int × (List Int) × Int × Int) : Option (((List Int) × Int × Int)) :=
  (Option.bind
  (cond (decide (x.2.2.2.2.2.1 < x.2.2.2.2.2.2.2.2))
  (cond (!(decide (x.2.2.2.1 = x.2.1)))
  (some (!(decide (x.2.2.2.2.1 = (0 : Int)))))
  (some false))
  (some false))
  fun r4 =>
  (cond r4
  (let v6 : Int := (wrapF .i64 ((wrapF .i64 (x.2.2.2.1 * x.2.2.2.2.2.2.2.2)) + x.2.2.2.2.2.1))
  (Option.bind (f0 (x.2.2.2.2.2.2.2.1, x.2.2.2.2.2.2.2.2, x.2.2.2.2.2.2.1, x.2.2.2.1, x.2.2.2.2.2.1)) fun r7 =>
  (Option.bind (f0 (x.2.2.2.2.2.2.2.1, x.2.2.2.2.2.2.2.2, x.2.2.2.2.2.2.1, x.2.1, x.2.2.2.2.2.1)) fun r8 =>
  (Option.bind (f2 (x.2.2.2.2.1, r8)) fun r9 =>
  (cond ((decide ((0 : Int) ≤ v6)) && (decide (v6 < (((List.length x.2.2.2.2.2.2.1) : Nat) : Int))))
  ((let v11 : Nat := (Int.toNat v6)
  (cond (decide (v11 < (List.length x.2.2.2.2.2.2.1)))
  ((next (x.1, x.2.1, x.2.2.1, x.2.2.2.1, x.2.2.2.2.1, (wrapF .i64 (x.2.2.2.2.2.1 + (1 : Int))), (List.set x.2.2.2.2.2.2.1 v11 (xorF .u8 r7 r9)), x.2.2.2.2.2.2.2.1, x.2.2.2.2.2.2.2.2)))
  none)))
  none)))))
  (some (x.2.2.2.2.2.2.1, x.2.2.2.2.2.2.2.1, x.2.2.2.2.2.2.2.2))))
theorem granaryref02_cleared_f10 (N : Nat) (f0 : Int × Int × (List Int) × Int × Int → Option (Int)) (f1 : Int → Option (Int × Int)) (f2 : Int × Int → Option (Int)) (next) (x) : granaryref02_cleared_a10 N f0 f1 f2 next x = loopStep Γ (granaryref02_cleared_CA N f0 f1 f2) (granaryref02_cleared_J N) 0 177 granaryref02_cleared_d10 granaryref02_cleared_c10 next x := by kernel_rfl
theorem granaryref02_cleared_e10 (N : Nat) (next) (x) : granaryref02_cleared_b10 N next x = loopStep Γ (granaryref02_cleared_C N) (granaryref02_cleared_J N) 0 177 granaryref02_cleared_d10 granaryref02_cleared_c10 next x := by
  rw [← granaryref02_cleared_CE N]
  exact Eq.trans (by kernel_rfl) (granaryref02_cleared_f10 N (granaryref02_At_v1) (granaryref02_Inv N) (granaryref02_Mul N) next x)
theorem granaryref02_cleared_k10 (N : Nat) : LoopOK Try.prog 177 granaryref02_cleared_c10 ⟨granaryref02_cleared_d10, loopF (granaryref02_cleared_b10 N) N⟩ := loop_ok tabOK (granaryref02_cleared_t N) mixedOK (J := granaryref02_cleared_J N) (cx := 0) (body := granaryref02_cleared_c10) (nt := 177) (l := granaryref02_cleared_d10) (b := granaryref02_cleared_b10 N) (jok_from granaryref02_cleared_i10 ⟨trivial, trivial⟩) (granaryref02_cleared_e10 N) N
theorem granaryref02_cleared_i2 : loopsOf granaryref02_cleared_c2 = [] := by kernel_rfl
noncomputable def granaryref02_cleared_a2 (N : Nat) (f0 : Int × Int × (List Int) × Int × Int → Option (Int)) (f1 : Int → Option (Int × Int)) (f2 : Int × Int → Option (Int)) (next : Int × Int × Int × Int × (List Int) × Int × Int → Option ((Int × (List Int) × Int × Int))) (x : Int × Int × Int × Int × (List Int) × Int × Int) : Option ((Int × (List Int) × Int × Int)) :=
  (Option.bind
  (cond (decide (x.2.2.2.1 < x.2.2.2.2.2.1))
  (Option.bind (f0 (x.2.2.2.2.2.1, x.2.2.2.2.2.2, x.2.2.2.2.1, x.2.2.2.1, x.2.2.1)) fun r2 =>
  (some (decide (r2 = (0 : Int)))))
  (some false))
  fun r4 =>
  (cond r4
  (next (x.1, x.2.1, x.2.2.1, (wrapF .i64 (x.2.2.2.1 + (1 : Int))), x.2.2.2.2.1, x.2.2.2.2.2.1, x.2.2.2.2.2.2))
  (some (x.2.2.2.1, x.2.2.2.2.1, x.2.2.2.2.2.1, x.2.2.2.2.2.2))))
theorem granaryref02_cleared_f2 (N : Nat) (f0 : Int × Int × (List Int) × Int × Int → Option (Int)) (f1 : Int → Option (Int × Int)) (f2 : Int × Int → Option (Int)) (next) (x) : granaryref02_cleared_a2 N f0 f1 f2 next x = loopStep Γ (granaryref02_cleared_CA N f0 f1 f2) (granaryref02_cleared_J N) 0 177 granaryref02_cleared_d2 granaryref02_cleared_c2 next x := by kernel_rfl
theorem granaryref02_cleared_e2 (N : Nat) (next) (x) : granaryref02_cleared_b2 N next x = loopStep Γ (granaryref02_cleared_C N) (granaryref02_cleared_J N) 0 177 granaryref02_cleared_d2 granaryref02_cleared_c2 next x := by
  rw [← granaryref02_cleared_CE N]
  exact Eq.trans (by kernel_rfl) (granaryref02_cleared_f2 N (granaryref02_At_v1) (granaryref02_Inv N) (granaryref02_Mul N) next x)
theorem granaryref02_cleared_k2 (N : Nat) : LoopOK Try.prog 177 granaryref02_cleared_c2 ⟨granaryref02_cleared_d2, loopF (granaryref02_cleared_b2 N) N⟩ := loop_ok tabOK (granaryref02_cleared_t N) mixedOK (J := granaryref02_cleared_J N) (cx := 0) (body := granaryref02_cleared_c2) (nt := 177) (l := granaryref02_cleared_d2) (b := granaryref02_cleared_b2 N) (jok_from granaryref02_cleared_i2 ⟨trivial, trivial⟩) (granaryref02_cleared_e2 N) N
theorem granaryref02_cleared_i4 : loopsOf granaryref02_cleared_c4 = [] := by kernel_rfl
noncomputable def granaryref02_cleared_a4 (N : Nat) (f0 : Int × Int × (List Int) × Int × Int → Option (Int)) (f1 : Int → Option (Int × Int)) (f2 : Int × Int → Option (Int)) (next : Int × Int × Int × Int × Int × (List Int) × Int × Int → Option (((List Int) × Int × Int))) (x : Int × Int × Int × Int × Int × (List Int) × Int × Int) : Option (((List Int) × Int × Int)) :=
  (cond (decide (x.2.2.2.2.1 < x.2.2.2.2.2.2.2))
  (let v3 : Int := (wrapF .i64 ((wrapF .i64 (x.2.1 * x.2.2.2.2.2.2.2)) + x.2.2.2.2.1))
  (let v5 : Int := (wrapF .i64 ((wrapF .i64 (x.2.2.2.1 * x.2.2.2.2.2.2.2)) + x.2.2.2.2.1))
  (let v7 : Int := (wrapF .i64 ((wrapF .i64 (x.2.2.2.1 * x.2.2.2.2.2.2.2)) + x.2.2.2.2.1))
  (cond ((decide ((0 : Int) ≤ v7)) && (decide (v7 < (((List.length x.2.2.2.2.2.1) : Nat) : Int))))
  ((let v8 : Nat := (Int.toNat v7)
  (cond (decide (v8 < (List.length x.2.2.2.2.2.1)))
  ((let v11 : Int := (wrapF .i64 ((wrapF .i64 (x.2.1 * x.2.2.2.2.2.2.2)) + x.2.2.2.2.1))
  (cond ((decide ((0 : Int) ≤ v11)) && (decide (v11 < (((List.length x.2.2.2.2.2.1) : Nat) : Int))))
  ((let v12 : Nat := (Int.toNat v11)
  (cond (decide (v12 < (List.length x.2.2.2.2.2.1)))
  ((cond ((decide ((0 : Int) ≤ v3)) && (decide (v3 < (((List.length x.2.2.2.2.2.1) : Nat) : Int))))
  ((let v14 : Nat := (Int.toNat v3)
  (cond (decide (v14 < (List.length x.2.2.2.2.2.1)))
  ((let v15 : List Int := (List.set x.2.2.2.2.2.1 v14 (List.getD x.2.2.2.2.2.1 v8 (EK.dflt (.int .u8))))
  (cond ((decide ((0 : Int) ≤ v5)) && (decide (v5 < (((List.length v15) : Nat) : Int))))
  ((let v16 : Nat := (Int.toNat v5)
  (cond (decide (v16 < (List.length v15)))
  ((next (x.1, x.2.1, x.2.2.1, x.2.2.2.1, (wrapF .i64 (x.2.2.2.2.1 + (1 : Int))), (List.set v15 v16 (List.getD x.2.2.2.2.2.1 v12 (EK.dflt (.int .u8)))), x.2.2.2.2.2.2.1, x.2.2.2.2.2.2.2)))
  none)))
  none)))
  none)))
  none))
  none)))
  none)))
  none)))
  none))))
  (some (x.2.2.2.2.2.1, x.2.2.2.2.2.2.1, x.2.2.2.2.2.2.2)))
theorem granaryref02_cleared_f4 (N : Nat) (f0 : Int × Int × (List Int) × Int × Int → Option (Int)) (f1 : Int → Option (Int × Int)) (f2 : Int × Int → Option (Int)) (next) (x) : granaryref02_cleared_a4 N f0 f1 f2 next x = loopStep Γ (granaryref02_cleared_CA N f0 f1 f2) (granaryref02_cleared_J N) 0 177 granaryref02_cleared_d4 granaryref02_cleared_c4 next x := by kernel_rfl
theorem granaryref02_cleared_e4 (N : Nat) (next) (x) : granaryref02_cleared_b4 N next x = loopStep Γ (granaryref02_cleared_C N) (granaryref02_cleared_J N) 0 177 granaryref02_cleared_d4 granaryref02_cleared_c4 next x := by
  rw [← granaryref02_cleared_CE N]
  exact Eq.trans (by kernel_rfl) (granaryref02_cleared_f4 N (granaryref02_At_v1) (granaryref02_Inv N) (granaryref02_Mul N) next x)
theorem granaryref02_cleared_k4 (N : Nat) : LoopOK Try.prog 177 granaryref02_cleared_c4 ⟨granaryref02_cleared_d4, loopF (granaryref02_cleared_b4 N) N⟩ := loop_ok tabOK (granaryref02_cleared_t N) mixedOK (J := granaryref02_cleared_J N) (cx := 0) (body := granaryref02_cleared_c4) (nt := 177) (l := granaryref02_cleared_d4) (b := granaryref02_cleared_b4 N) (jok_from granaryref02_cleared_i4 ⟨trivial, trivial⟩) (granaryref02_cleared_e4 N) N
theorem granaryref02_cleared_i6 : loopsOf granaryref02_cleared_c6 = [] := by kernel_rfl
noncomputable def granaryref02_cleared_a6 (N : Nat) (f0 : Int × Int × (List Int) × Int × Int → Option (Int)) (f1 : Int → Option (Int × Int)) (f2 : Int × Int → Option (Int)) (next : Int × Int × Int × Int × Int × (List Int) × Int × Int → Option (((List Int) × Int × Int))) (x : Int × Int × Int × Int × Int × (List Int) × Int × Int) : Option (((List Int) × Int × Int)) :=
  (cond (decide (x.2.2.2.2.1 < x.2.2.2.2.2.2.2))
  (let v3 : Int := (wrapF .i64 ((wrapF .i64 (x.2.1 * x.2.2.2.2.2.2.2)) + x.2.2.2.2.1))
  (Option.bind (f0 (x.2.2.2.2.2.2.1, x.2.2.2.2.2.2.2, x.2.2.2.2.2.1, x.2.1, x.2.2.2.2.1)) fun r4 =>
  (Option.bind (f2 (x.2.2.2.1, r4)) fun r5 =>
  (cond ((decide ((0 : Int) ≤ v3)) && (decide (v3 < (((List.length x.2.2.2.2.2.1) : Nat) : Int))))
  ((let v6 : Nat := (Int.toNat v3)
  (cond (decide (v6 < (List.length x.2.2.2.2.2.1)))
  ((next (x.1, x.2.1, x.2.2.1, x.2.2.2.1, (wrapF .i64 (x.2.2.2.2.1 + (1 : Int))), (List.set x.2.2.2.2.2.1 v6 r5), x.2.2.2.2.2.2.1, x.2.2.2.2.2.2.2)))
  none)))
  none))))
  (some (x.2.2.2.2.2.1, x.2.2.2.2.2.2.1, x.2.2.2.2.2.2.2)))
theorem granaryref02_cleared_f6 (N : Nat) (f0 : Int × Int × (List Int) × Int × Int → Option (Int)) (f1 : Int → Option (Int × Int)) (f2 : Int × Int → Option (Int)) (next) (x) : granaryref02_cleared_a6 N f0 f1 f2 next x = loopStep Γ (granaryref02_cleared_CA N f0 f1 f2) (granaryref02_cleared_J N) 0 177 granaryref02_cleared_d6 granaryref02_cleared_c6 next x := by kernel_rfl
theorem granaryref02_cleared_e6 (N : Nat) (next) (x) : granaryref02_cleared_b6 N next x = loopStep Γ (granaryref02_cleared_C N) (granaryref02_cleared_J N) 0 177 granaryref02_cleared_d6 granaryref02_cleared_c6 next x := by
  rw [← granaryref02_cleared_CE N]
  exact Eq.trans (by kernel_rfl) (granaryref02_cleared_f6 N (granaryref02_At_v1) (granaryref02_Inv N) (granaryref02_Mul N) next x)
theorem granaryref02_cleared_k6 (N : Nat) : LoopOK Try.prog 177 granaryref02_cleared_c6 ⟨granaryref02_cleared_d6, loopF (granaryref02_cleared_b6 N) N⟩ := loop_ok tabOK (granaryref02_cleared_t N) mixedOK (J := granaryref02_cleared_J N) (cx := 0) (body := granaryref02_cleared_c6) (nt := 177) (l := granaryref02_cleared_d6) (b := granaryref02_cleared_b6 N) (jok_from granaryref02_cleared_i6 ⟨trivial, trivial⟩) (granaryref02_cleared_e6 N) N
theorem granaryref02_cleared_i8 : loopsOf granaryref02_cleared_c8 = [(10, granaryref02_cleared_c10)] := by kernel_rfl
noncomputable def granaryref02_cleared_a8 (N : Nat) (f0 : Int × Int × (List Int) × Int × Int → Option (Int)) (f1 : Int → Option (Int × Int)) (f2 : Int × Int → Option (Int)) (next : Int × Int × Int × Int × (List Int) × Int × Int → Option (((List Int) × Int × Int))) (x : Int × Int × Int × Int × (List Int) × Int × Int) : Option (((List Int) × Int × Int)) :=
  (cond (decide (x.2.2.2.1 < x.2.2.2.2.2.1))
  (Option.bind (f0 (x.2.2.2.2.2.1, x.2.2.2.2.2.2, x.2.2.2.2.1, x.2.2.2.1, x.2.2.1)) fun r2 =>
  (Option.bind (granaryref02_cleared_l10 N (x.1, x.2.1, x.2.2.1, x.2.2.2.1, r2, (0 : Int), x.2.2.2.2.1, x.2.2.2.2.2.1, x.2.2.2.2.2.2)) fun r3 =>
  (next (x.1, x.2.1, x.2.2.1, (wrapF .i64 (x.2.2.2.1 + (1 : Int))), r3.1, r3.2.1, r3.2.2))))
  (some (x.2.2.2.2.1, x.2.2.2.2.2.1, x.2.2.2.2.2.2)))
theorem granaryref02_cleared_f8 (N : Nat) (f0 : Int × Int × (List Int) × Int × Int → Option (Int)) (f1 : Int → Option (Int × Int)) (f2 : Int × Int → Option (Int)) (next) (x) : granaryref02_cleared_a8 N f0 f1 f2 next x = loopStep Γ (granaryref02_cleared_CA N f0 f1 f2) (granaryref02_cleared_J N) 0 177 granaryref02_cleared_d8 granaryref02_cleared_c8 next x := by kernel_rfl
theorem granaryref02_cleared_e8 (N : Nat) (next) (x) : granaryref02_cleared_b8 N next x = loopStep Γ (granaryref02_cleared_C N) (granaryref02_cleared_J N) 0 177 granaryref02_cleared_d8 granaryref02_cleared_c8 next x := by
  rw [← granaryref02_cleared_CE N]
  exact Eq.trans (by kernel_rfl) (granaryref02_cleared_f8 N (granaryref02_At_v1) (granaryref02_Inv N) (granaryref02_Mul N) next x)
theorem granaryref02_cleared_k8 (N : Nat) : LoopOK Try.prog 177 granaryref02_cleared_c8 ⟨granaryref02_cleared_d8, loopF (granaryref02_cleared_b8 N) N⟩ := loop_ok tabOK (granaryref02_cleared_t N) mixedOK (J := granaryref02_cleared_J N) (cx := 0) (body := granaryref02_cleared_c8) (nt := 177) (l := granaryref02_cleared_d8) (b := granaryref02_cleared_b8 N) (jok_from granaryref02_cleared_i8 ⟨⟨.inr ⟨_, rfl, granaryref02_cleared_k10 N⟩, trivial⟩, trivial⟩) (granaryref02_cleared_e8 N) N
theorem granaryref02_cleared_i0 : loopsOf granaryref02_cleared_c0 = [(2, granaryref02_cleared_c2), (4, granaryref02_cleared_c4), (6, granaryref02_cleared_c6), (8, granaryref02_cleared_c8), (10, granaryref02_cleared_c10)] := by kernel_rfl
noncomputable def granaryref02_cleared_a0 (N : Nat) (f0 : Int × Int × (List Int) × Int × Int → Option (Int)) (f1 : Int → Option (Int × Int)) (f2 : Int × Int → Option (Int)) (next : Int × Int × Int × (List Int) × Int × Int → Option ((Int × (List Int) × Int × Int))) (x : Int × Int × Int × (List Int) × Int × Int) : Option ((Int × (List Int) × Int × Int)) :=
  (Option.bind
  (cond (decide (x.2.2.1 < x.1))
  (some (decide (x.2.1 < x.2.2.2.2.1)))
  (some false))
  fun r3 =>
  (cond r3
  (Option.bind
  (Option.bind (granaryref02_cleared_l2 N (x.1, x.2.1, x.2.2.1, x.2.1, x.2.2.2.1, x.2.2.2.2.1, x.2.2.2.2.2)) fun r4 =>
  (cond (decide (r4.1 = r4.2.2.1))
  (some (x.2.1, r4.2.1, r4.2.2.1, r4.2.2.2))
  (Option.bind (granaryref02_cleared_l4 N (x.1, x.2.1, x.2.2.1, r4.1, (0 : Int), r4.2.1, r4.2.2.1, r4.2.2.2)) fun r6 =>
  (Option.bind (f0 (r6.2.1, r6.2.2, r6.1, x.2.1, x.2.2.1)) fun r7 =>
  (Option.bind (f1 r7) fun r8 =>
  (Option.bind (granaryref02_cleared_l6 N (x.1, x.2.1, x.2.2.1, r8.1, (0 : Int), r6.1, r6.2.1, r6.2.2)) fun r9 =>
  (Option.bind (granaryref02_cleared_l8 N (x.1, x.2.1, x.2.2.1, (0 : Int), r9.1, r9.2.1, r9.2.2)) fun r10 =>
  (some ((wrapF .i64 (x.2.1 + (1 : Int))), r10.1, r10.2.1, r10.2.2)))))))))
  fun r12 =>
  (next (x.1, r12.1, (wrapF .i64 (x.2.2.1 + (1 : Int))), r12.2.1, r12.2.2.1, r12.2.2.2)))
  (some (x.2.1, x.2.2.2.1, x.2.2.2.2.1, x.2.2.2.2.2))))
theorem granaryref02_cleared_f0 (N : Nat) (f0 : Int × Int × (List Int) × Int × Int → Option (Int)) (f1 : Int → Option (Int × Int)) (f2 : Int × Int → Option (Int)) (next) (x) : granaryref02_cleared_a0 N f0 f1 f2 next x = loopStep Γ (granaryref02_cleared_CA N f0 f1 f2) (granaryref02_cleared_J N) 0 177 granaryref02_cleared_d0 granaryref02_cleared_c0 next x := by kernel_rfl
theorem granaryref02_cleared_e0 (N : Nat) (next) (x) : granaryref02_cleared_b0 N next x = loopStep Γ (granaryref02_cleared_C N) (granaryref02_cleared_J N) 0 177 granaryref02_cleared_d0 granaryref02_cleared_c0 next x := by
  rw [← granaryref02_cleared_CE N]
  exact Eq.trans (by kernel_rfl) (granaryref02_cleared_f0 N (granaryref02_At_v1) (granaryref02_Inv N) (granaryref02_Mul N) next x)
theorem granaryref02_cleared_k0 (N : Nat) : LoopOK Try.prog 177 granaryref02_cleared_c0 ⟨granaryref02_cleared_d0, loopF (granaryref02_cleared_b0 N) N⟩ := loop_ok tabOK (granaryref02_cleared_t N) mixedOK (J := granaryref02_cleared_J N) (cx := 0) (body := granaryref02_cleared_c0) (nt := 177) (l := granaryref02_cleared_d0) (b := granaryref02_cleared_b0 N) (jok_from granaryref02_cleared_i0 ⟨⟨.inr ⟨_, rfl, granaryref02_cleared_k2 N⟩, .inr ⟨_, rfl, granaryref02_cleared_k4 N⟩, .inr ⟨_, rfl, granaryref02_cleared_k6 N⟩, .inr ⟨_, rfl, granaryref02_cleared_k8 N⟩, .inr ⟨_, rfl, granaryref02_cleared_k10 N⟩, trivial⟩, trivial⟩) (granaryref02_cleared_e0 N) N
theorem granaryref02_cleared_i : loopsOf granaryref02_cleared_c = [(0, granaryref02_cleared_c0), (2, granaryref02_cleared_c2), (4, granaryref02_cleared_c4), (6, granaryref02_cleared_c6), (8, granaryref02_cleared_c8), (10, granaryref02_cleared_c10)] := by kernel_rfl
noncomputable def granaryref02_cleared_a (N : Nat) (f0 : Int × Int × (List Int) × Int × Int → Option (Int)) (f1 : Int → Option (Int × Int)) (f2 : Int × Int → Option (Int)) (x : Int × Int × (List Int) × Int) : Option (Int × Int × Int × (List Int)) :=
  (cond (fits 1 (List.length x.2.2.1))
  ((Option.bind (granaryref02_cleared_l0 N (x.2.2.2, (0 : Int), (0 : Int), x.2.2.1, x.1, x.2.1)) fun r2 =>
  (some (r2.2.2.1, r2.2.2.2, r2.1, r2.2.1))))
  none)
theorem granaryref02_cleared_f (N : Nat) (f0 : Int × Int × (List Int) × Int × Int → Option (Int)) (f1 : Int → Option (Int × Int)) (f2 : Int × Int → Option (Int)) (x) : granaryref02_cleared_a N f0 f1 f2 x = fnStep Γ (granaryref02_cleared_CA N f0 f1 f2) (granaryref02_cleared_J N) 177 Try.f54.results.toList (granaryref02_cleared_g N) granaryref02_cleared_o granaryref02_cleared_c x := by kernel_rfl
theorem granaryref02_cleared_e (N : Nat) (x) : (granaryref02_cleared_g N).F x = fnStep Γ (granaryref02_cleared_C N) (granaryref02_cleared_J N) 177 Try.f54.results.toList (granaryref02_cleared_g N) granaryref02_cleared_o granaryref02_cleared_c x := by
  rw [← granaryref02_cleared_CE N]
  exact Eq.trans (by kernel_rfl) (granaryref02_cleared_f N (granaryref02_At_v1) (granaryref02_Inv N) (granaryref02_Mul N) x)
theorem granaryref02_cleared_y : Try.f54.body = some granaryref02_cleared_c := by kernel_rfl
theorem granaryref02_cleared_n : (Try.f54.name == "runtime.NumGoroutine") = false := by kernel_rfl
theorem granaryref02_cleared_ok (N : Nat) : FnDoes Try.prog 54 (granaryref02_cleared_g N) := fn_ok tabOK (granaryref02_cleared_t N) mixedOK (J := granaryref02_cleared_J N) (body := granaryref02_cleared_c) Try.func54 granaryref02_cleared_y granaryref02_cleared_n Try.ntmps54 (jok_from granaryref02_cleared_i ⟨⟨.inr ⟨_, rfl, granaryref02_cleared_k0 N⟩, .inr ⟨_, rfl, granaryref02_cleared_k2 N⟩, .inr ⟨_, rfl, granaryref02_cleared_k4 N⟩, .inr ⟨_, rfl, granaryref02_cleared_k6 N⟩, .inr ⟨_, rfl, granaryref02_cleared_k8 N⟩, .inr ⟨_, rfl, granaryref02_cleared_k10 N⟩, trivial⟩, trivial⟩) rfl rfl (le_of_ble rfl) (granaryref02_cleared_e N)
noncomputable def granaryref02_New_c : Code := codeOf Try.f55.body
noncomputable def granaryref02_New_J (N : Nat) : Nat → Hint := fun cx => hintOf cx []
noncomputable def granaryref02_New_C (N : Nat) : Nat → List GS := fun k => tabOf k []
def granaryref02_New_o : List (Shp × List Nat) := [(⟨[(0, (.av (.agg [(.one (.int .i64)), (.one (.int .i64)), (.one (.const (.slw 0 1)))])))], [(.sh (.arr (.int .u8) none), false)]⟩, [])]
noncomputable def granaryref02_New_g (N : Nat) : GS := { ins := ⟨[(0, (.av (.one (.int .i64)))), (1, (.av (.one (.int .i64))))], []⟩, lend := [.keep, .keep], outs := granaryref02_New_o.map fun s => ssOf s.1, its := [.int, .int], ots := [[.int, .int, .lst (.int .u8)]], F := granaryref02_New }
theorem granaryref02_New_t (N : Nat) : TabC Try.prog (granaryref02_New_C N) := tab_ok trivial
theorem granaryref02_New_i : loopsOf granaryref02_New_c = [] := by kernel_rfl
theorem granaryref02_New_e (N : Nat) (x) : (granaryref02_New_g N).F x = fnStep Γ (granaryref02_New_C N) (granaryref02_New_J N) 12 Try.f55.results.toList (granaryref02_New_g N) granaryref02_New_o granaryref02_New_c x := by kernel_rfl
theorem granaryref02_New_y : Try.f55.body = some granaryref02_New_c := by kernel_rfl
theorem granaryref02_New_n : (Try.f55.name == "runtime.NumGoroutine") = false := by kernel_rfl
theorem granaryref02_New_ok (N : Nat) : FnDoes Try.prog 55 (granaryref02_New_g N) := fn_ok tabOK (granaryref02_New_t N) mixedOK (J := granaryref02_New_J N) (body := granaryref02_New_c) Try.func55 granaryref02_New_y granaryref02_New_n Try.ntmps55 (jok_from granaryref02_New_i trivial) rfl rfl (le_of_ble rfl) (granaryref02_New_e N)
noncomputable def granaryref02_Inverse_c : Code := codeOf Try.f41.body
noncomputable def granaryref02_Inverse_c0 : Code := codeOf (getLoop 0 granaryref02_Inverse_c)
noncomputable def granaryref02_Inverse_c2 : Code := codeOf (getLoop 2 granaryref02_Inverse_c)
noncomputable def granaryref02_Inverse_c4 : Code := codeOf (getLoop 4 granaryref02_Inverse_c)
noncomputable def granaryref02_Inverse_c6 : Code := codeOf (getLoop 6 granaryref02_Inverse_c)
def granaryref02_Inverse_d2 : LD := { ins := ⟨[(1, (.av (.one (.const (.ptr ⟨0, 0, 0, 0⟩))))), (2, (.av (.one (.const (.ptr ⟨3, 0, 0, 0⟩))))), (5, (.av (.one (.int .i64)))), (6, (.av (.one (.const (.ptr ⟨7, 0, 0, 0⟩))))), (7, (.av (.one (.int .i64)))), (8, (.av (.one (.int .i64))))], [(.sh (.one (.int .i64)), true), (.sh (.one (.int .i64)), true), (.sh (.one (.rsl (.int .u8))), false), (.keep, false), (.keep, false), (.keep, false), (.sh (.arr (.int .u8) none), false), (.sh (.one (.int .i64)), true), (.sh (.one (.int .i64)), true), (.sh (.one (.const (.slw 6 1))), false)]⟩, mov := [], wr := [0, 1, 2, 6, 7, 8, 9], outs := [(.exit 2, ⟨[], [(.sh (.one (.int .i64)), true), (.sh (.one (.int .i64)), true), (.sh (.one (.rsl (.int .u8))), false), (.keep, false), (.keep, false), (.keep, false), (.sh (.arr (.int .u8) none), false), (.sh (.one (.int .i64)), true), (.sh (.one (.int .i64)), true), (.sh (.one (.const (.slw 6 1))), false)]⟩)], its := [.int, .int, .int, .int, .int, .lst (.int .u8), .lst (.int .u8), .int, .int], ots := [[.int, .int, .lst (.int .u8), .lst (.int .u8), .int, .int]] }
def granaryref02_Inverse_d0 : LD := { ins := ⟨[(1, (.av (.one (.const (.ptr ⟨0, 0, 0, 0⟩))))), (2, (.av (.one (.const (.ptr ⟨3, 0, 0, 0⟩))))), (5, (.av (.one (.int .i64)))), (6, (.av (.one (.const (.ptr ⟨7, 0, 0, 0⟩))))), (7, (.av (.one (.int .i64))))], [(.sh (.one (.int .i64)), true), (.sh (.one (.int .i64)), true), (.sh (.one (.rsl (.int .u8))), false), (.keep, false), (.keep, false), (.keep, false), (.sh (.arr (.int .u8) none), false), (.sh (.one (.int .i64)), true), (.sh (.one (.int .i64)), true), (.sh (.one (.const (.slw 6 1))), false)]⟩, mov := [], wr := [0, 1, 2, 6, 7, 8, 9], outs := [(.exit 0, ⟨[], [(.sh (.one (.int .i64)), true), (.sh (.one (.int .i64)), true), (.sh (.one (.rsl (.int .u8))), false), (.keep, false), (.keep, false), (.keep, false), (.sh (.arr (.int .u8) none), false), (.sh (.one (.int .i64)), true), (.sh (.one (.int .i64)), true), (.sh (.one (.const (.slw 6 1))), false)]⟩)], its := [.int, .int, .int, .int, .lst (.int .u8), .lst (.int .u8), .int, .int], ots := [[.int, .int, .lst (.int .u8), .lst (.int .u8), .int, .int]] }
def granaryref02_Inverse_d6 : LD := { ins := ⟨[(2, (.av (.one (.const (.ptr ⟨3, 0, 0, 0⟩))))), (5, (.av (.one (.int .i64)))), (6, (.av (.one (.const (.ptr ⟨7, 0, 0, 0⟩))))), (10, (.av (.one (.const (.ptr ⟨12, 0, 0, 0⟩))))), (11, (.av (.one (.int .i64)))), (12, (.av (.one (.int .i64))))], [(.keep, false), (.keep, false), (.keep, false), (.keep, false), (.keep, false), (.keep, false), (.keep, false), (.sh (.one (.int .i64)), true), (.sh (.one (.int .i64)), true), (.sh (.one (.const (.slw 10 1))), false), (.sh (.arr (.int .u8) none), false), (.sh (.arr (.int .u8) none), false), (.sh (.one (.int .i64)), true), (.sh (.one (.int .i64)), true), (.sh (.one (.const (.slw 11 1))), false)]⟩, mov := [], wr := [7, 8, 9, 10, 11, 12, 13, 14], outs := [(.exit 6, ⟨[], [(.keep, false), (.keep, false), (.keep, false), (.keep, false), (.keep, false), (.keep, false), (.keep, false), (.sh (.one (.int .i64)), true), (.sh (.one (.int .i64)), true), (.sh (.one (.const (.slw 10 1))), false), (.sh (.arr (.int .u8) none), false), (.sh (.arr (.int .u8) none), false), (.sh (.one (.int .i64)), true), (.sh (.one (.int .i64)), true), (.sh (.one (.const (.slw 11 1))), false)]⟩)], its := [.int, .int, .int, .int, .int, .lst (.int .u8), .lst (.int .u8), .int, .int], ots := [[.int, .int, .lst (.int .u8), .lst (.int .u8), .int, .int]] }
def granaryref02_Inverse_d4 : LD := { ins := ⟨[(2, (.av (.one (.const (.ptr ⟨3, 0, 0, 0⟩))))), (5, (.av (.one (.int .i64)))), (6, (.av (.one (.const (.ptr ⟨7, 0, 0, 0⟩))))), (10, (.av (.one (.const (.ptr ⟨12, 0, 0, 0⟩))))), (11, (.av (.one (.int .i64))))], [(.keep, false), (.keep, false), (.keep, false), (.keep, false), (.keep, false), (.keep, false), (.keep, false), (.sh (.one (.int .i64)), true), (.sh (.one (.int .i64)), true), (.sh (.one (.const (.slw 10 1))), false), (.sh (.arr (.int .u8) none), false), (.sh (.arr (.int .u8) none), false), (.sh (.one (.int .i64)), true), (.sh (.one (.int .i64)), true), (.sh (.one (.const (.slw 11 1))), false)]⟩, mov := [], wr := [7, 8, 9, 10, 11, 12, 13, 14], outs := [(.exit 4, ⟨[], [(.keep, false), (.keep, false), (.keep, false), (.keep, false), (.keep, false), (.keep, false), (.keep, false), (.sh (.one (.int .i64)), true), (.sh (.one (.int .i64)), true), (.sh (.one (.const (.slw 10 1))), false), (.sh (.arr (.int .u8) none), false), (.sh (.arr (.int .u8) none), false), (.sh (.one (.int .i64)), true), (.sh (.one (.int .i64)), true), (.sh (.one (.const (.slw 11 1))), false)]⟩)], its := [.int, .int, .int, .int, .lst (.int .u8), .lst (.int .u8), .int, .int], ots := [[.int, .int, .lst (.int .u8), .lst (.int .u8), .int, .int]] }
noncomputable def granaryref02_Inverse_J (N : Nat) : Nat → Hint := fun cx => hintOf cx [(0, { reg := fun k => assoc0 k [], cnd := fun k => assoc0 k [], loop := fun k => assoc0 k [(2, ⟨granaryref02_Inverse_d2, loopF (granaryref02_Inverse_b2 N) N⟩), (0, ⟨granaryref02_Inverse_d0, loopF (granaryref02_Inverse_b0 N) N⟩), (6, ⟨granaryref02_Inverse_d6, loopF (granaryref02_Inverse_b6 N) N⟩), (4, ⟨granaryref02_Inverse_d4, loopF (granaryref02_Inverse_b4 N) N⟩)], nil := fun k => assoc0 k [], unr := fun k => assocN k [], blk := fun k => assoc0 k [] })]
noncomputable def granaryref02_Inverse_C (N : Nat) : Nat → List GS := fun k => tabOf k [(52, [granaryref02_Check_g N]), (53, [granaryref02_At_g N, granaryref02_At_v1_g N]), (54, [granaryref02_cleared_g N]), (55, [granaryref02_New_g N])]
def granaryref02_Inverse_o : List (Shp × List Nat) := [(⟨[(0, (.tup [(.agg [(.one (.int .i64)), (.one (.int .i64)), (.one (.const (.slw 0 1)))]), (.one (.int .i64))]))], [(.sh (.arr (.int .u8) none), false)]⟩, [])]
noncomputable def granaryref02_Inverse_g (N : Nat) : GS := { ins := ⟨[(0, (.av (.agg [(.one (.int .i64)), (.one (.int .i64)), (.one (.rsl (.int .u8)))])))], []⟩, lend := [.agg [none, none, some (.int .u8)]], outs := granaryref02_Inverse_o.map fun s => ssOf s.1, its := [.int, .int, .lst (.int .u8)], ots := [[.int, .int, .int, .lst (.int .u8)]], F := granaryref02_Inverse N }
noncomputable def granaryref02_Inverse_CA (N : Nat) (f0 : Int × Int × (List Int) → Option (Int)) (f1 : Int × Int × (List Int) × Int × Int → Option (Int)) (f2 : Int × Int × (List Int) × Int × Int → Option (Int)) (f3 : Int × Int × (List Int) × Int → Option (Int × Int × Int × (List Int))) (f4 : Int × Int → Option (Int × Int × (List Int))) : Nat → List GS := fun k => tabOf k [(52, [{ granaryref02_Check_g N with F := f0 }]), (53, [{ granaryref02_At_g N with F := f1 }, { granaryref02_At_v1_g N with F := f2 }]), (54, [{ granaryref02_cleared_g N with F := f3 }]), (55, [{ granaryref02_New_g N with F := f4 }])]
theorem granaryref02_Inverse_CE (N : Nat) : granaryref02_Inverse_CA N (granaryref02_Check) (granaryref02_At) (granaryref02_At_v1) (granaryref02_cleared N) (granaryref02_New) = granaryref02_Inverse_C N := by kernel_rfl
theorem granaryref02_Inverse_t (N : Nat) : TabC Try.prog (granaryref02_Inverse_C N) := tab_ok ⟨⟨granaryref02_Check_ok N, trivial⟩, ⟨granaryref02_At_ok N, granaryref02_At_v1_ok N, trivial⟩, ⟨granaryref02_cleared_ok N, trivial⟩, ⟨granaryref02_New_ok N, trivial⟩, trivial⟩
theorem granaryref02_Inverse_i2 : loopsOf granaryref02_Inverse_c2 = [] := by kernel_rfl
noncomputable def granaryref02_Inverse_a2 (N : Nat) (f0 : Int × Int × (List Int) → Option (Int)) (f1 : Int × Int × (List Int) × Int × Int → Option (Int)) (f2 : Int × Int × (List Int) × Int × Int → Option (Int)) (f3 : Int × Int × (List Int) × Int → Option (Int × Int × Int × (List Int))) (f4 : Int × Int → Option (Int × Int × (List Int))) (next : Int × Int × Int × Int × Int × (List Int) × (List Int) × Int × Int → Option ((Int × Int × (List Int) × (List Int) × Int × Int))) (x : Int × Int × Int × Int × Int × (List Int) × (List Int) × Int × Int) : Option ((Int × Int × (List Int) × (List Int) × Int × Int)) :=
  (cond (decide (x.2.2.1 < x.1))
  (let v4 : Int := (wrapF .i64 ((wrapF .i64 ((wrapF .i64 ((2 : Int) * x.1)) * x.2.1)) + x.2.2.1))
  (Option.bind (f1 (x.2.2.2.1, x.2.2.2.2.1, x.2.2.2.2.2.1, x.2.1, x.2.2.1)) fun r5 =>
  (cond ((decide ((0 : Int) ≤ v4)) && (decide (v4 < (((List.length x.2.2.2.2.2.2.1) : Nat) : Int))))
  ((let v6 : Nat := (Int.toNat v4)
  (cond (decide (v6 < (List.length x.2.2.2.2.2.2.1)))
  ((next (x.1, x.2.1, (wrapF .i64 (x.2.2.1 + (1 : Int))), x.2.2.2.1, x.2.2.2.2.1, x.2.2.2.2.2.1, (List.set x.2.2.2.2.2.2.1 v6 r5), x.2.2.2.2.2.2.2.1, x.2.2.2.2.2.2.2.2)))
  none)))
  none)))
  (some (x.2.2.2.1, x.2.2.2.2.1, x.2.2.2.2.2.1, x.2.2.2.2.2.2.1, x.2.2.2.2.2.2.2.1, x.2.2.2.2.2.2.2.2)))
theorem granaryref02_Inverse_f2 (N : Nat) (f0 : Int × Int × (List Int) → Option (Int)) (f1 : Int × Int × (List Int) × Int × Int → Option (Int)) (f2 : Int × Int × (List Int) × Int × Int → Option (Int)) (f3 : Int × Int × (List Int) × Int → Option (Int × Int × Int × (List Int))) (f4 : Int × Int → Option (Int × Int × (List Int))) (next) (x) : granaryref02_Inverse_a2 N f0 f1 f2 f3 f4 next x = loopStep Γ (granaryref02_Inverse_CA N f0 f1 f2 f3 f4) (granaryref02_Inverse_J N) 0 108 granaryref02_Inverse_d2 granaryref02_Inverse_c2 next x := by kernel_rfl
theorem granaryref02_Inverse_e2 (N : Nat) (next) (x) : granaryref02_Inverse_b2 N next x = loopStep Γ (granaryref02_Inverse_C N) (granaryref02_Inverse_J N) 0 108 granaryref02_Inverse_d2 granaryref02_Inverse_c2 next x := by
  rw [← granaryref02_Inverse_CE N]
  exact Eq.trans (by kernel_rfl) (granaryref02_Inverse_f2 N (granaryref02_Check) (granaryref02_At) (granaryref02_At_v1) (granaryref02_cleared N) (granaryref02_New) next x)
theorem granaryref02_Inverse_k2 (N : Nat) : LoopOK Try.prog 108 granaryref02_Inverse_c2 ⟨granaryref02_Inverse_d2, loopF (granaryref02_Inverse_b2 N) N⟩ := loop_ok tabOK (granaryref02_Inverse_t N) mixedOK (J := granaryref02_Inverse_J N) (cx := 0) (body := granaryref02_Inverse_c2) (nt := 108) (l := granaryref02_Inverse_d2) (b := granaryref02_Inverse_b2 N) (jok_from granaryref02_Inverse_i2 ⟨trivial, trivial⟩) (granaryref02_Inverse_e2 N) N
theorem granaryref02_Inverse_i6 : loopsOf granaryref02_Inverse_c6 = [] := by kernel_rfl
noncomputable def granaryref02_Inverse_a6 (N : Nat) (f0 : Int × Int × (List Int) → Option (Int)) (f1 : Int × Int × (List Int) × Int × Int → Option (Int)) (f2 : Int × Int × (List Int) × Int × Int → Option (Int)) (f3 : Int × Int × (List Int) × Int → Option (Int × Int × Int × (List Int))) (f4 : Int × Int → Option (Int × Int × (List Int))) (next : Int × Int × Int × Int × Int × (List Int) × (List Int) × Int × Int → Option ((Int × Int × (List Int) × (List Int) × Int × Int))) (x : Int × Int × Int × Int × Int × (List Int) × (List Int) × Int × Int) : Option ((Int × Int × (List Int) × (List Int) × Int × Int)) :=
  (cond (decide (x.2.2.1 < x.1))
  (let v3 : Int := (wrapF .i64 ((wrapF .i64 (x.1 * x.2.1)) + x.2.2.1))
  (Option.bind (f2 (x.2.2.2.1, x.2.2.2.2.1, x.2.2.2.2.2.1, x.2.1, (wrapF .i64 (x.1 + x.2.2.1)))) fun r5 =>
  (cond ((decide ((0 : Int) ≤ v3)) && (decide (v3 < (((List.length x.2.2.2.2.2.2.1) : Nat) : Int))))
  ((let v6 : Nat := (Int.toNat v3)
  (cond (decide (v6 < (List.length x.2.2.2.2.2.2.1)))
  ((next (x.1, x.2.1, (wrapF .i64 (x.2.2.1 + (1 : Int))), x.2.2.2.1, x.2.2.2.2.1, x.2.2.2.2.2.1, (List.set x.2.2.2.2.2.2.1 v6 r5), x.2.2.2.2.2.2.2.1, x.2.2.2.2.2.2.2.2)))
  none)))
  none)))
  (some (x.2.2.2.1, x.2.2.2.2.1, x.2.2.2.2.2.1, x.2.2.2.2.2.2.1, x.2.2.2.2.2.2.2.1, x.2.2.2.2.2.2.2.2)))
theorem granaryref02_Inverse_f6 (N : Nat) (f0 : Int × Int × (List Int) → Option (Int)) (f1 : Int × Int × (List Int) × Int × Int → Option (Int)) (f2 : Int × Int × (List Int) × Int × Int → Option (Int)) (f3 : Int × Int × (List Int) × Int → Option (Int × Int × Int × (List Int))) (f4 : Int × Int → Option (Int × Int × (List Int))) (next) (x) : granaryref02_Inverse_a6 N f0 f1 f2 f3 f4 next x = loopStep Γ (granaryref02_Inverse_CA N f0 f1 f2 f3 f4) (granaryref02_Inverse_J N) 0 108 granaryref02_Inverse_d6 granaryref02_Inverse_c6 next x := by kernel_rfl
theorem granaryref02_Inverse_e6 (N : Nat) (next) (x) : granaryref02_Inverse_b6 N next x = loopStep Γ (granaryref02_Inverse_C N) (granaryref02_Inverse_J N) 0 108 granaryref02_Inverse_d6 granaryref02_Inverse_c6 next x := by
  rw [← granaryref02_Inverse_CE N]
  exact Eq.trans (by kernel_rfl) (granaryref02_Inverse_f6 N (granaryref02_Check) (granaryref02_At) (granaryref02_At_v1) (granaryref02_cleared N) (granaryref02_New) next x)
theorem granaryref02_Inverse_k6 (N : Nat) : LoopOK Try.prog 108 granaryref02_Inverse_c6 ⟨granaryref02_Inverse_d6, loopF (granaryref02_Inverse_b6 N) N⟩ := loop_ok tabOK (granaryref02_Inverse_t N) mixedOK (J := granaryref02_Inverse_J N) (cx := 0) (body := granaryref02_Inverse_c6) (nt := 108) (l := granaryref02_Inverse_d6) (b := granaryref02_Inverse_b6 N) (jok_from granaryref02_Inverse_i6 ⟨trivial, trivial⟩) (granaryref02_Inverse_e6 N) N
theorem granaryref02_Inverse_i0 : loopsOf granaryref02_Inverse_c0 = [(2, granaryref02_Inverse_c2)] := by kernel_rfl
noncomputable def granaryref02_Inverse_a0 (N : Nat) (f0 : Int × Int × (List Int) → Option (Int)) (f1 : Int × Int × (List Int) × Int × Int → Option (Int)) (f2 : Int × Int × (List Int) × Int × Int → Option (Int)) (f3 : Int × Int × (List Int) × Int → Option (Int × Int × Int × (List Int))) (f4 : Int × Int → Option (Int × Int × (List Int))) (next : Int × Int × Int × Int × (List Int) × (List Int) × Int × Int → Option ((Int × Int × (List Int) × (List Int) × Int × Int))) (x : Int × Int × Int × Int × (List Int) × (List Int) × Int × Int) : Option ((Int × Int × (List Int) × (List Int) × Int × Int)) :=
  (cond (decide (x.2.1 < x.1))
  (Option.bind (granaryref02_Inverse_l2 N (x.1, x.2.1, (0 : Int), x.2.2.1, x.2.2.2.1, x.2.2.2.2.1, x.2.2.2.2.2.1, x.2.2.2.2.2.2.1, x.2.2.2.2.2.2.2)) fun r2 =>
  (let v6 : Int := (wrapF .i64 ((wrapF .i64 ((wrapF .i64 ((wrapF .i64 ((2 : Int) * x.1)) * x.2.1)) + x.1)) + x.2.1))
  (cond ((decide ((0 : Int) ≤ v6)) && (decide (v6 < (((List.length r2.2.2.2.1) : Nat) : Int))))
  ((let v7 : Nat := (Int.toNat v6)
  (cond (decide (v7 < (List.length r2.2.2.2.1)))
  ((next (x.1, (wrapF .i64 (x.2.1 + (1 : Int))), r2.1, r2.2.1, r2.2.2.1, (List.set r2.2.2.2.1 v7 (1 : Int)), r2.2.2.2.2.1, r2.2.2.2.2.2)))
  none)))
  none)))
  (some (x.2.2.1, x.2.2.2.1, x.2.2.2.2.1, x.2.2.2.2.2.1, x.2.2.2.2.2.2.1, x.2.2.2.2.2.2.2)))
theorem granaryref02_Inverse_f0 (N : Nat) (f0 : Int × Int × (List Int) → Option (Int)) (f1 : Int × Int × (List Int) × Int × Int → Option (Int)) (f2 : Int × Int × (List Int) × Int × Int → Option (Int)) (f3 : Int × Int × (List Int) × Int → Option (Int × Int × Int × (List Int))) (f4 : Int × Int → Option (Int × Int × (List Int))) (next) (x) : granaryref02_Inverse_a0 N f0 f1 f2 f3 f4 next x = loopStep Γ (granaryref02_Inverse_CA N f0 f1 f2 f3 f4) (granaryref02_Inverse_J N) 0 108 granaryref02_Inverse_d0 granaryref02_Inverse_c0 next x := by kernel_rfl
theorem granaryref02_Inverse_e0 (N : Nat) (next) (x) : granaryref02_Inverse_b0 N next x = loopStep Γ (granaryref02_Inverse_C N) (granaryref02_Inverse_J N) 0 108 granaryref02_Inverse_d0 granaryref02_Inverse_c0 next x := by
  rw [← granaryref02_Inverse_CE N]
  exact Eq.trans (by kernel_rfl) (granaryref02_Inverse_f0 N (granaryref02_Check) (granaryref02_At) (granaryref02_At_v1) (granaryref02_cleared N) (granaryref02_New) next x)
theorem granaryref02_Inverse_k0 (N : Nat) : LoopOK Try.prog 108 granaryref02_Inverse_c0 ⟨granaryref02_Inverse_d0, loopF (granaryref02_Inverse_b0 N) N⟩ := loop_ok tabOK (granaryref02_Inverse_t N) mixedOK (J := granaryref02_Inverse_J N) (cx := 0) (body := granaryref02_Inverse_c0) (nt := 108) (l := granaryref02_Inverse_d0) (b := granaryref02_Inverse_b0 N) (jok_from granaryref02_Inverse_i0 ⟨⟨.inr ⟨_, rfl, granaryref02_Inverse_k2 N⟩, trivial⟩, trivial⟩) (granaryref02_Inverse_e0 N) N
theorem granaryref02_Inverse_i4 : loopsOf granaryref02_Inverse_c4 = [(6, granaryref02_Inverse_c6)] := by kernel_rfl
noncomputable def granaryref02_Inverse_a4 (N : Nat) (f0 : Int × Int × (List Int) → Option (Int)) (f1 : Int × Int × (List Int) × Int × Int → Option (Int)) (f2 : Int × Int × (List Int) × Int × Int → Option (Int)) (f3 : Int × Int × (List Int) × Int → Option (Int × Int × Int × (List Int))) (f4 : Int × Int → Option (Int × Int × (List Int))) (next : Int × Int × Int × Int × (List Int) × (List Int) × Int × Int → Option ((Int × Int × (List Int) × (List Int) × Int × Int))) (x : Int × Int × Int × Int × (List Int) × (List Int) × Int × Int) : Option ((Int × Int × (List Int) × (List Int) × Int × Int)) :=
  (cond (decide (x.2.1 < x.1))
  (Option.bind (granaryref02_Inverse_l6 N (x.1, x.2.1, (0 : Int), x.2.2.1, x.2.2.2.1, x.2.2.2.2.1, x.2.2.2.2.2.1, x.2.2.2.2.2.2.1, x.2.2.2.2.2.2.2)) fun r2 =>
  (next (x.1, (wrapF .i64 (x.2.1 + (1 : Int))), r2.1, r2.2.1, r2.2.2.1, r2.2.2.2.1, r2.2.2.2.2.1, r2.2.2.2.2.2)))
  (some (x.2.2.1, x.2.2.2.1, x.2.2.2.2.1, x.2.2.2.2.2.1, x.2.2.2.2.2.2.1, x.2.2.2.2.2.2.2)))
theorem granaryref02_Inverse_f4 (N : Nat) (f0 : Int × Int × (List Int) → Option (Int)) (f1 : Int × Int × (List Int) × Int × Int → Option (Int)) (f2 : Int × Int × (List Int) × Int × Int → Option (Int)) (f3 : Int × Int × (List Int) × Int → Option (Int × Int × Int × (List Int))) (f4 : Int × Int → Option (Int × Int × (List Int))) (next) (x) : granaryref02_Inverse_a4 N f0 f1 f2 f3 f4 next x = loopStep Γ (granaryref02_Inverse_CA N f0 f1 f2 f3 f4) (granaryref02_Inverse_J N) 0 108 granaryref02_Inverse_d4 granaryref02_Inverse_c4 next x := by kernel_rfl
theorem granaryref02_Inverse_e4 (N : Nat) (next) (x) : granaryref02_Inverse_b4 N next x = loopStep Γ (granaryref02_Inverse_C N) (granaryref02_Inverse_J N) 0 108 granaryref02_Inverse_d4 granaryref02_Inverse_c4 next x := by
  rw [← granaryref02_Inverse_CE N]
  exact Eq.trans (by kernel_rfl) (granaryref02_Inverse_f4 N (granaryref02_Check) (granaryref02_At) (granaryref02_At_v1) (granaryref02_cleared N) (granaryref02_New) next x)
theorem granaryref02_Inverse_k4 (N : Nat) : LoopOK Try.prog 108 granaryref02_Inverse_c4 ⟨granaryref02_Inverse_d4, loopF (granaryref02_Inverse_b4 N) N⟩ := loop_ok tabOK (granaryref02_Inverse_t N) mixedOK (J := granaryref02_Inverse_J N) (cx := 0) (body := granaryref02_Inverse_c4) (nt := 108) (l := granaryref02_Inverse_d4) (b := granaryref02_Inverse_b4 N) (jok_from granaryref02_Inverse_i4 ⟨⟨.inr ⟨_, rfl, granaryref02_Inverse_k6 N⟩, trivial⟩, trivial⟩) (granaryref02_Inverse_e4 N) N
theorem granaryref02_Inverse_i : loopsOf granaryref02_Inverse_c = [(0, granaryref02_Inverse_c0), (2, granaryref02_Inverse_c2), (4, granaryref02_Inverse_c4), (6, granaryref02_Inverse_c6)] := by kernel_rfl
noncomputable def granaryref02_Inverse_a (N : Nat) (f0 : Int × Int × (List Int) → Option (Int)) (f1 : Int × Int × (List Int) × Int × Int → Option (Int)) (f2 : Int × Int × (List Int) × Int × Int → Option (Int)) (f3 : Int × Int × (List Int) × Int → Option (Int × Int × Int × (List Int))) (f4 : Int × Int → Option (Int × Int × (List Int))) (x : Int × Int × (List Int)) : Option (Int × Int × Int × (List Int)) :=
  (Option.bind (f0 (x.1, x.2.1, x.2.2)) fun r1 =>
  (cond (!(decide (r1 = (0 : Int))))
  (some ((0 : Int), (0 : Int), r1, ([] : List Int)))
  (cond (!(decide (x.1 = x.2.1)))
  (some ((0 : Int), (0 : Int), (23 : Int), ([] : List Int)))
  (let v6 : Int := (wrapF .i64 ((wrapF .i64 ((2 : Int) * x.1)) * x.1))
  (cond ((decide ((0 : Int) ≤ v6)) && (fits 1 (Int.toNat v6)))
  ((Option.bind (granaryref02_Inverse_l0 N (x.1, (0 : Int), x.1, x.2.1, x.2.2, (List.replicate (Int.toNat v6) (EK.dflt (.int .u8))), x.1, (wrapF .i64 ((2 : Int) * x.1)))) fun r8 =>
  (Option.bind (f3 (r8.2.2.2.2.1, r8.2.2.2.2.2, r8.2.2.2.1, x.1)) fun r9 =>
  (cond (decide (r9.2.2.1 < x.1))
  (some ((0 : Int), (0 : Int), (22 : Int), ([] : List Int)))
  (Option.bind (f4 (x.1, x.1)) fun r11 =>
  (Option.bind (granaryref02_Inverse_l4 N (x.1, (0 : Int), r9.1, r9.2.1, r9.2.2.2, r11.2.2, r11.1, r11.2.1)) fun r12 =>
  (some (r12.2.2.2.2.1, r12.2.2.2.2.2, (0 : Int), r12.2.2.2.1))))))))
  none)))))
theorem granaryref02_Inverse_f (N : Nat) (f0 : Int × Int × (List Int) → Option (Int)) (f1 : Int × Int × (List Int) × Int × Int → Option (Int)) (f2 : Int × Int × (List Int) × Int × Int → Option (Int)) (f3 : Int × Int × (List Int) × Int → Option (Int × Int × Int × (List Int))) (f4 : Int × Int → Option (Int × Int × (List Int))) (x) : granaryref02_Inverse_a N f0 f1 f2 f3 f4 x = fnStep Γ (granaryref02_Inverse_CA N f0 f1 f2 f3 f4) (granaryref02_Inverse_J N) 108 Try.f41.results.toList (granaryref02_Inverse_g N) granaryref02_Inverse_o granaryref02_Inverse_c x := by kernel_rfl
theorem granaryref02_Inverse_e (N : Nat) (x) : (granaryref02_Inverse_g N).F x = fnStep Γ (granaryref02_Inverse_C N) (granaryref02_Inverse_J N) 108 Try.f41.results.toList (granaryref02_Inverse_g N) granaryref02_Inverse_o granaryref02_Inverse_c x := by
  rw [← granaryref02_Inverse_CE N]
  exact Eq.trans (by kernel_rfl) (granaryref02_Inverse_f N (granaryref02_Check) (granaryref02_At) (granaryref02_At_v1) (granaryref02_cleared N) (granaryref02_New) x)
theorem granaryref02_Inverse_y : Try.f41.body = some granaryref02_Inverse_c := by kernel_rfl
theorem granaryref02_Inverse_n : (Try.f41.name == "runtime.NumGoroutine") = false := by kernel_rfl
theorem granaryref02_Inverse_ok (N : Nat) : FnDoes Try.prog 41 (granaryref02_Inverse_g N) := fn_ok tabOK (granaryref02_Inverse_t N) mixedOK (J := granaryref02_Inverse_J N) (body := granaryref02_Inverse_c) Try.func41 granaryref02_Inverse_y granaryref02_Inverse_n Try.ntmps41 (jok_from granaryref02_Inverse_i ⟨⟨.inr ⟨_, rfl, granaryref02_Inverse_k0 N⟩, .inr ⟨_, rfl, granaryref02_Inverse_k2 N⟩, .inr ⟨_, rfl, granaryref02_Inverse_k4 N⟩, .inr ⟨_, rfl, granaryref02_Inverse_k6 N⟩, trivial⟩, trivial⟩) rfl rfl (le_of_ble rfl) (granaryref02_Inverse_e N)
noncomputable def granaryref03_Mix_v1_c : Code := codeOf Try.f42.body
noncomputable def granaryref03_Mix_v1_c0 : Code := codeOf (getLoop 0 granaryref03_Mix_v1_c)
noncomputable def granaryref03_Mix_v1_c2 : Code := codeOf (getLoop 2 granaryref03_Mix_v1_c)
def granaryref03_Mix_v1_d2 : LD := { ins := ⟨[(0, (.av (.one (.rsl (.int .u8))))), (1, (.av (.one (.rsl (.sl (.int .u8)))))), (2, (.av (.one (.int .i64)))), (7, (.av (.one (.const (.slw 0 1))))), (8, (.av (.one (.int .i64)))), (9, (.av (.one (.int .i64))))], [(.sh (.arr (.int .u8) none), false)]⟩, mov := [], wr := [0], outs := [(.exit 2, ⟨[], [(.sh (.arr (.int .u8) none), false)]⟩)], its := [.lst (.int .u8), .lst (.sl (.int .u8)), .int, .int, .int, .lst (.int .u8)], ots := [[.lst (.int .u8)]] }
def granaryref03_Mix_v1_d0 : LD := { ins := ⟨[(0, (.av (.one (.rsl (.int .u8))))), (1, (.av (.one (.rsl (.sl (.int .u8)))))), (2, (.av (.one (.int .i64)))), (7, (.av (.one (.const (.slw 0 1))))), (8, (.av (.one (.int .i64))))], [(.sh (.arr (.int .u8) none), false)]⟩, mov := [], wr := [0], outs := [(.exit 0, ⟨[], [(.sh (.arr (.int .u8) none), false)]⟩)], its := [.lst (.int .u8), .lst (.sl (.int .u8)), .int, .int, .lst (.int .u8)], ots := [[.lst (.int .u8)]] }
noncomputable def granaryref03_Mix_v1_J (N : Nat) : Nat → Hint := fun cx => hintOf cx [(0, { reg := fun k => assoc0 k [], cnd := fun k => assoc0 k [], loop := fun k => assoc0 k [(2, ⟨granaryref03_Mix_v1_d2, loopF (granaryref03_Mix_v1_b2 N) N⟩), (0, ⟨granaryref03_Mix_v1_d0, loopF (granaryref03_Mix_v1_b0 N) N⟩)], nil := fun k => assoc0 k [], unr := fun k => assocN k [], blk := fun k => assoc0 k [] })]
noncomputable def granaryref03_Mix_v1_C (N : Nat) : Nat → List GS := fun k => tabOf k [(48, [granaryref02_Mul_g N])]
def granaryref03_Mix_v1_o : List (Shp × List Nat) := [(⟨[(0, (.av (.one (.const (.slw 0 1)))))], [(.sh (.arr (.int .u8) none), false)]⟩, [])]
noncomputable def granaryref03_Mix_v1_g (N : Nat) : GS := { ins := ⟨[(0, (.av (.one (.rsl (.int .u8))))), (1, (.av (.one (.rsl (.sl (.int .u8)))))), (2, (.av (.one (.int .i64))))], []⟩, lend := [.lend (.int .u8), .lend (.sl (.int .u8)), .keep], outs := granaryref03_Mix_v1_o.map fun s => ssOf s.1, its := [.lst (.int .u8), .lst (.sl (.int .u8)), .int], ots := [[.lst (.int .u8)]], F := granaryref03_Mix_v1 N }
noncomputable def granaryref03_Mix_v1_CA (N : Nat) (f0 : Int × Int → Option (Int)) : Nat → List GS := fun k => tabOf k [(48, [{ granaryref02_Mul_g N with F := f0 }])]
theorem granaryref03_Mix_v1_CE (N : Nat) : granaryref03_Mix_v1_CA N (granaryref02_Mul N) = granaryref03_Mix_v1_C N := by kernel_rfl
theorem granaryref03_Mix_v1_t (N : Nat) : TabC Try.prog (granaryref03_Mix_v1_C N) := tab_ok ⟨⟨granaryref02_Mul_ok N, trivial⟩, trivial⟩
theorem granaryref03_Mix_v1_i2 : loopsOf granaryref03_Mix_v1_c2 = [] := by kernel_rfl
noncomputable def granaryref03_Mix_v1_a2 (N : Nat) (f0 : Int × Int → Option (Int)) (next : (List Int) × (List (List Int)) × Int × Int × Int × (List Int) → Option (((List Int)))) (x : (List Int) × (List (List Int)) × Int × Int × Int × (List Int)) : Option (((List Int))) :=
  (cond (decide (x.2.2.2.2.1 < x.2.2.1))
  (cond ((decide ((0 : Int) ≤ x.2.2.2.2.1)) && (decide (x.2.2.2.2.1 < (((List.length x.2.2.2.2.2) : Nat) : Int))))
  ((let v2 : Nat := (Int.toNat x.2.2.2.2.1)
  (cond (decide (v2 < (List.length x.2.2.2.2.2)))
  ((cond ((decide ((0 : Int) ≤ x.2.2.2.1)) && (decide (x.2.2.2.1 < (((List.length x.1) : Nat) : Int))))
  ((cond ((decide ((0 : Int) ≤ x.2.2.2.1)) && (decide (x.2.2.2.1 < (((List.length x.2.1) : Nat) : Int))))
  ((let v5 : (List Int) := (List.getD x.2.1 (Int.toNat x.2.2.2.1) (EK.dflt (.sl (.int .u8))))
  (cond ((decide ((0 : Int) ≤ x.2.2.2.2.1)) && (decide (x.2.2.2.2.1 < (((List.length v5) : Nat) : Int))))
  ((Option.bind (f0 ((List.getD x.1 (Int.toNat x.2.2.2.1) (EK.dflt (.int .u8))), (List.getD v5 (Int.toNat x.2.2.2.2.1) (EK.dflt (.int .u8))))) fun r7 =>
  (cond ((decide ((0 : Int) ≤ x.2.2.2.2.1)) && (decide (x.2.2.2.2.1 < (((List.length x.2.2.2.2.2) : Nat) : Int))))
  ((let v9 : Nat := (Int.toNat x.2.2.2.2.1)
  (cond (decide (v9 < (List.length x.2.2.2.2.2)))
  ((next (x.1, x.2.1, x.2.2.1, x.2.2.2.1, (wrapF .i64 (x.2.2.2.2.1 + (1 : Int))), (List.set x.2.2.2.2.2 v9 (xorF .u8 (List.getD x.2.2.2.2.2 v2 (EK.dflt (.int .u8))) r7)))))
  none)))
  none)))
  none)))
  none))
  none))
  none)))
  none)
  (some x.2.2.2.2.2))
theorem granaryref03_Mix_v1_f2 (N : Nat) (f0 : Int × Int → Option (Int)) (next) (x) : granaryref03_Mix_v1_a2 N f0 next x = loopStep Γ (granaryref03_Mix_v1_CA N f0) (granaryref03_Mix_v1_J N) 0 44 granaryref03_Mix_v1_d2 granaryref03_Mix_v1_c2 next x := by kernel_rfl
theorem granaryref03_Mix_v1_e2 (N : Nat) (next) (x) : granaryref03_Mix_v1_b2 N next x = loopStep Γ (granaryref03_Mix_v1_C N) (granaryref03_Mix_v1_J N) 0 44 granaryref03_Mix_v1_d2 granaryref03_Mix_v1_c2 next x := by
  rw [← granaryref03_Mix_v1_CE N]
  exact Eq.trans (by kernel_rfl) (granaryref03_Mix_v1_f2 N (granaryref02_Mul N) next x)
theorem granaryref03_Mix_v1_k2 (N : Nat) : LoopOK Try.prog 44 granaryref03_Mix_v1_c2 ⟨granaryref03_Mix_v1_d2, loopF (granaryref03_Mix_v1_b2 N) N⟩ := loop_ok tabOK (granaryref03_Mix_v1_t N) mixedOK (J := granaryref03_Mix_v1_J N) (cx := 0) (body := granaryref03_Mix_v1_c2) (nt := 44) (l := granaryref03_Mix_v1_d2) (b := granaryref03_Mix_v1_b2 N) (jok_from granaryref03_Mix_v1_i2 ⟨trivial, trivial⟩) (granaryref03_Mix_v1_e2 N) N
theorem granaryref03_Mix_v1_i0 : loopsOf granaryref03_Mix_v1_c0 = [(2, granaryref03_Mix_v1_c2)] := by kernel_rfl
noncomputable def granaryref03_Mix_v1_a0 (N : Nat) (f0 : Int × Int → Option (Int)) (next : (List Int) × (List (List Int)) × Int × Int × (List Int) → Option (((List Int)))) (x : (List Int) × (List (List Int)) × Int × Int × (List Int)) : Option (((List Int))) :=
  (cond (decide (x.2.2.2.1 < (((List.length x.1) : Nat) : Int)))
  (Option.bind (granaryref03_Mix_v1_l2 N (x.1, x.2.1, x.2.2.1, x.2.2.2.1, (0 : Int), x.2.2.2.2)) fun r3 =>
  (next (x.1, x.2.1, x.2.2.1, (wrapF .i64 (x.2.2.2.1 + (1 : Int))), r3)))
  (some x.2.2.2.2))
theorem granaryref03_Mix_v1_f0 (N : Nat) (f0 : Int × Int → Option (Int)) (next) (x) : granaryref03_Mix_v1_a0 N f0 next x = loopStep Γ (granaryref03_Mix_v1_CA N f0) (granaryref03_Mix_v1_J N) 0 44 granaryref03_Mix_v1_d0 granaryref03_Mix_v1_c0 next x := by kernel_rfl
theorem granaryref03_Mix_v1_e0 (N : Nat) (next) (x) : granaryref03_Mix_v1_b0 N next x = loopStep Γ (granaryref03_Mix_v1_C N) (granaryref03_Mix_v1_J N) 0 44 granaryref03_Mix_v1_d0 granaryref03_Mix_v1_c0 next x := by
  rw [← granaryref03_Mix_v1_CE N]
  exact Eq.trans (by kernel_rfl) (granaryref03_Mix_v1_f0 N (granaryref02_Mul N) next x)
theorem granaryref03_Mix_v1_k0 (N : Nat) : LoopOK Try.prog 44 granaryref03_Mix_v1_c0 ⟨granaryref03_Mix_v1_d0, loopF (granaryref03_Mix_v1_b0 N) N⟩ := loop_ok tabOK (granaryref03_Mix_v1_t N) mixedOK (J := granaryref03_Mix_v1_J N) (cx := 0) (body := granaryref03_Mix_v1_c0) (nt := 44) (l := granaryref03_Mix_v1_d0) (b := granaryref03_Mix_v1_b0 N) (jok_from granaryref03_Mix_v1_i0 ⟨⟨.inr ⟨_, rfl, granaryref03_Mix_v1_k2 N⟩, trivial⟩, trivial⟩) (granaryref03_Mix_v1_e0 N) N
theorem granaryref03_Mix_v1_i : loopsOf granaryref03_Mix_v1_c = [(0, granaryref03_Mix_v1_c0), (2, granaryref03_Mix_v1_c2)] := by kernel_rfl
noncomputable def granaryref03_Mix_v1_a (N : Nat) (f0 : Int × Int → Option (Int)) (x : (List Int) × (List (List Int)) × Int) : Option ((List Int)) :=
  (cond ((decide ((0 : Int) ≤ x.2.2)) && (fits 1 (Int.toNat x.2.2)))
  ((Option.bind (granaryref03_Mix_v1_l0 N (x.1, x.2.1, x.2.2, (0 : Int), (List.replicate (Int.toNat x.2.2) (EK.dflt (.int .u8))))) fun r2 =>
  (some r2)))
  none)
theorem granaryref03_Mix_v1_f (N : Nat) (f0 : Int × Int → Option (Int)) (x) : granaryref03_Mix_v1_a N f0 x = fnStep Γ (granaryref03_Mix_v1_CA N f0) (granaryref03_Mix_v1_J N) 44 Try.f42.results.toList (granaryref03_Mix_v1_g N) granaryref03_Mix_v1_o granaryref03_Mix_v1_c x := by kernel_rfl
theorem granaryref03_Mix_v1_e (N : Nat) (x) : (granaryref03_Mix_v1_g N).F x = fnStep Γ (granaryref03_Mix_v1_C N) (granaryref03_Mix_v1_J N) 44 Try.f42.results.toList (granaryref03_Mix_v1_g N) granaryref03_Mix_v1_o granaryref03_Mix_v1_c x := by
  rw [← granaryref03_Mix_v1_CE N]
  exact Eq.trans (by kernel_rfl) (granaryref03_Mix_v1_f N (granaryref02_Mul N) x)
theorem granaryref03_Mix_v1_y : Try.f42.body = some granaryref03_Mix_v1_c := by kernel_rfl
theorem granaryref03_Mix_v1_n : (Try.f42.name == "runtime.NumGoroutine") = false := by kernel_rfl
theorem granaryref03_Mix_v1_ok (N : Nat) : FnDoes Try.prog 42 (granaryref03_Mix_v1_g N) := fn_ok tabOK (granaryref03_Mix_v1_t N) mixedOK (J := granaryref03_Mix_v1_J N) (body := granaryref03_Mix_v1_c) Try.func42 granaryref03_Mix_v1_y granaryref03_Mix_v1_n Try.ntmps42 (jok_from granaryref03_Mix_v1_i ⟨⟨.inr ⟨_, rfl, granaryref03_Mix_v1_k0 N⟩, .inr ⟨_, rfl, granaryref03_Mix_v1_k2 N⟩, trivial⟩, trivial⟩) rfl rfl (le_of_ble rfl) (granaryref03_Mix_v1_e N)
end Go.Rf.W
