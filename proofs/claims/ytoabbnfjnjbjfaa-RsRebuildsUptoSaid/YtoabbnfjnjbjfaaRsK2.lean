/-
  The printed functions are what the program does.
-/
import Derived.Test.YtoabbnfjnjbjfaaRsK1
set_option linter.unusedVariables false
set_option maxRecDepth 100000
namespace Go.Rf.W
open Go Go.Rf Go.Proofs
noncomputable def granaryref03_Code_Rebuild_c : Code := codeOf Try.f16.body
noncomputable def granaryref03_Code_Rebuild_c0 : Code := codeOf (getLoop 0 granaryref03_Code_Rebuild_c)
noncomputable def granaryref03_Code_Rebuild_c2 : Code := codeOf (getLoop 2 granaryref03_Code_Rebuild_c)
noncomputable def granaryref03_Code_Rebuild_c4 : Code := codeOf (getLoop 4 granaryref03_Code_Rebuild_c)
def granaryref03_Code_Rebuild_d0 : LD := { ins := ⟨[(0, (.av (.one (.const (.ptr ⟨0, 0, 0, 0⟩))))), (1, (.av (.one (.rsl (.sl (.int .u8)))))), (2, (.av (.one (.rsl .bool)))), (8, (.av (.one (.int .i64)))), (9, (.av (.one (.int .i64)))), (10, (.av (.one (.const (.slw 2 1))))), (11, (.av (.one (.const (.slw 3 1))))), (12, (.av (.one (.int .i64)))), (13, (.av (.one (.int .i64))))], [(.sh (.one (.int .i64)), true), (.sh (.one (.int .i64)), false), (.sh (.arr (.int .u8) none), false), (.sh (.arr (.sl (.int .u8)) none), false)]⟩, mov := [2, 3], wr := [0, 1], outs := [(.ret, ⟨[(6, (.av (.one (.const .nils)))), (7, (.av (.one (.const (.int .i64 (2 : Int))))))], [(.sh (.one (.int .i64)), true), (.sh (.one (.int .i64)), false), (.dead, false), (.dead, false)]⟩), (.exit 0, ⟨[(9, (.av (.one (.int .i64)))), (10, (.av (.one (.const (.slw 4 1))))), (11, (.av (.one (.const (.slw 5 1))))), (12, (.av (.one (.int .i64))))], [(.sh (.one (.int .i64)), true), (.sh (.one (.int .i64)), false), (.dead, false), (.dead, false), (.sh (.arr (.int .u8) none), false), (.sh (.arr (.sl (.int .u8)) none), false)]⟩)], its := [.lst (.sl (.int .u8)), .lst .bool, .int, .int, .int, .int, .int, .int, .lst (.int .u8), .lst (.sl (.int .u8))], ots := [[.int, .int], [.int, .int, .int, .int, .lst (.int .u8), .lst (.sl (.int .u8))]] }
def granaryref03_Code_Rebuild_d2 : LD := { ins := ⟨[(0, (.av (.one (.const (.ptr ⟨0, 0, 0, 0⟩))))), (1, (.av (.one (.rsl (.sl (.int .u8)))))), (2, (.av (.one (.rsl .bool)))), (8, (.av (.one (.int .i64)))), (9, (.av (.one (.int .i64)))), (11, (.av (.one (.const (.slw 5 1))))), (14, (.av (.one (.const (.ptr ⟨7, 0, 0, 0⟩))))), (16, (.av (.one (.const (.slw 10 1))))), (17, (.av (.one (.int .i64))))], [(.sh (.one (.int .i64)), true), (.keep, false), (.keep, false), (.keep, false), (.keep, false), (.sh (.arr (.sl (.int .u8)) none), false), (.sh (.arr (.int .u8) none), false), (.sh (.one (.int .i64)), true), (.sh (.one (.int .i64)), true), (.sh (.one (.const (.slw 6 1))), false), (.sh (.arr (.sl (.int .u8)) none), false)]⟩, mov := [10], wr := [0, 5, 6, 7, 8, 9], outs := [(.exit 2, ⟨[(16, (.av (.one (.const (.slw 11 1)))))], [(.sh (.one (.int .i64)), true), (.keep, false), (.keep, false), (.keep, false), (.keep, false), (.sh (.arr (.sl (.int .u8)) none), false), (.sh (.arr (.int .u8) none), false), (.sh (.one (.int .i64)), true), (.sh (.one (.int .i64)), true), (.sh (.one (.const (.slw 6 1))), false), (.dead, false), (.sh (.arr (.sl (.int .u8)) none), false)]⟩)], its := [.lst (.sl (.int .u8)), .lst .bool, .int, .int, .int, .int, .lst (.sl (.int .u8)), .lst (.int .u8), .int, .int, .lst (.sl (.int .u8))], ots := [[.int, .lst (.sl (.int .u8)), .lst (.int .u8), .int, .int, .lst (.sl (.int .u8))]] }
def granaryref03_Code_Rebuild_d4 : LD := { ins := ⟨[(0, (.av (.one (.const (.ptr ⟨0, 0, 0, 0⟩))))), (1, (.av (.one (.rsl (.sl (.int .u8)))))), (2, (.av (.one (.rsl .bool)))), (8, (.av (.one (.int .i64)))), (9, (.av (.one (.int .i64)))), (16, (.av (.one (.const (.slw 11 1))))), (18, (.av (.one (.const (.slw 12 1))))), (19, (.av (.one (.int .i64))))], [(.sh (.one (.int .i64)), true), (.sh (.one (.int .i64)), false), (.keep, false), (.keep, false), (.keep, false), (.keep, false), (.keep, false), (.keep, false), (.keep, false), (.keep, false), (.keep, false), (.sh (.arr (.sl (.int .u8)) none), false), (.sh (.arr (.sl (.int .u8)) none), false)]⟩, mov := [12], wr := [0, 1, 11], outs := [(.exit 4, ⟨[(18, (.av (.one (.const (.slw 13 1)))))], [(.sh (.one (.int .i64)), true), (.sh (.one (.int .i64)), false), (.keep, false), (.keep, false), (.keep, false), (.keep, false), (.keep, false), (.keep, false), (.keep, false), (.keep, false), (.keep, false), (.sh (.arr (.sl (.int .u8)) none), false), (.dead, false), (.sh (.arr (.sl (.int .u8)) none), false)]⟩)], its := [.lst (.sl (.int .u8)), .lst .bool, .int, .int, .int, .int, .int, .lst (.sl (.int .u8)), .lst (.sl (.int .u8))], ots := [[.int, .int, .lst (.sl (.int .u8)), .lst (.sl (.int .u8))]] }
noncomputable def granaryref03_Code_Rebuild_J (N : Nat) : Nat → Hint := fun cx => hintOf cx [(0, { reg := fun k => assoc0 k [(2, ⟨⟨[(38, (.av (.one .bool)))], [(.keep, true), (.keep, false)]⟩, [], [], [.bool]⟩), (12, ⟨⟨[(59, (.av (.one .bool)))], [(.keep, true), (.keep, false), (.keep, false), (.keep, false)]⟩, [], [], [.bool]⟩)], cnd := fun k => assoc0 k [(73, ⟨[2, 3], [0, 1], [(.normal, ⟨[(10, (.av (.one (.const (.slw 4 1))))), (11, (.av (.one (.const (.slw 5 1)))))], [(.sh (.one (.int .i64)), true), (.sh (.one (.int .i64)), false), (.dead, false), (.dead, false), (.sh (.arr (.int .u8) none), false), (.sh (.arr (.sl (.int .u8)) none), false)]⟩)], [[.int, .int, .lst (.int .u8), .lst (.sl (.int .u8))]]⟩), (146, ⟨[], [0, 1, 12], [(.normal, ⟨[(18, (.av (.one (.const (.slw 13 1)))))], [(.sh (.one (.int .i64)), true), (.sh (.one (.int .i64)), false), (.dead, false), (.dead, false), (.dead, false), (.dead, false), (.dead, false), (.dead, false), (.dead, false), (.dead, false), (.dead, false), (.keep, false), (.dead, false), (.sh (.arr (.sl (.int .u8)) none), false)]⟩)], [[.int, .int, .lst (.sl (.int .u8))]]⟩)], loop := fun k => assoc0 k [(0, ⟨granaryref03_Code_Rebuild_d0, loopF (granaryref03_Code_Rebuild_b0 N) N⟩), (2, ⟨granaryref03_Code_Rebuild_d2, loopF (granaryref03_Code_Rebuild_b2 N) N⟩), (4, ⟨granaryref03_Code_Rebuild_d4, loopF (granaryref03_Code_Rebuild_b4 N) N⟩)], nil := fun k => assoc0 k [(136, (.sl (.int .u8))), (154, (.sl (.int .u8))), (163, (.sl (.int .u8)))], unr := fun k => assocN k [], blk := fun k => assoc0 k [(1, ⟨[2, 3], [0, 1], [(.normal, ⟨[(9, (.av (.one (.int .i64)))), (10, (.av (.one (.const (.slw 4 1))))), (11, (.av (.one (.const (.slw 5 1))))), (12, (.av (.one (.int .i64))))], [(.sh (.one (.int .i64)), true), (.sh (.one (.int .i64)), false), (.dead, false), (.dead, false), (.sh (.arr (.int .u8) none), false), (.sh (.arr (.sl (.int .u8)) none), false)]⟩), (.ret, ⟨[(6, (.av (.one (.const .nils)))), (7, (.av (.one (.const (.int .i64 (2 : Int))))))], [(.sh (.one (.int .i64)), true), (.sh (.one (.int .i64)), false), (.dead, false), (.dead, false)]⟩)], [[.int, .int, .int, .int, .lst (.int .u8), .lst (.sl (.int .u8))], [.int, .int]]⟩)] })]
noncomputable def granaryref03_Code_Rebuild_C (N : Nat) : Nat → List GS := fun k => tabOf k [(23, [granaryref03_Code_Row_g N]), (41, [granaryref02_Inverse_g N]), (42, [granaryref03_Mix_v1_g N])]
def granaryref03_Code_Rebuild_o : List (Shp × List Nat) := [(⟨[(0, (.tup [(.one (.const (.slw 2 1))), (.one (.int .i64))]))], [(.sh (.one (.int .i64)), true), (.sh (.one (.int .i64)), false), (.sh (.arr (.sl (.int .u8)) none), false)]⟩, [])]
noncomputable def granaryref03_Code_Rebuild_g (N : Nat) : GS := { ins := ⟨[(0, (.av (.one (.const (.ptr ⟨0, 0, 0, 0⟩))))), (1, (.av (.one (.rsl (.sl (.int .u8)))))), (2, (.av (.one (.rsl .bool))))], [(some (.one (.int .i64)), true), (some (.one (.int .i64)), false)]⟩, lend := [.keep, .keep, .keep], outs := granaryref03_Code_Rebuild_o.map fun s => ssOf s.1, its := [.lst (.sl (.int .u8)), .lst .bool, .int, .int], ots := [[.int, .int, .int, .lst (.sl (.int .u8))]], F := granaryref03_Code_Rebuild N }
noncomputable def granaryref03_Code_Rebuild_CA (N : Nat) (f0 : Int × Int × Int → Option (Int × Int × (List Int))) (f1 : Int × Int × (List Int) → Option (Int × Int × Int × (List Int))) (f2 : (List Int) × (List (List Int)) × Int → Option ((List Int))) : Nat → List GS := fun k => tabOf k [(23, [{ granaryref03_Code_Row_g N with F := f0 }]), (41, [{ granaryref02_Inverse_g N with F := f1 }]), (42, [{ granaryref03_Mix_v1_g N with F := f2 }])]
theorem granaryref03_Code_Rebuild_CE (N : Nat) : granaryref03_Code_Rebuild_CA N (granaryref03_Code_Row N) (granaryref02_Inverse N) (granaryref03_Mix_v1 N) = granaryref03_Code_Rebuild_C N := by kernel_rfl
theorem granaryref03_Code_Rebuild_t (N : Nat) : TabC Try.prog (granaryref03_Code_Rebuild_C N) := tab_ok ⟨⟨granaryref03_Code_Row_ok N, trivial⟩, ⟨granaryref02_Inverse_ok N, trivial⟩, ⟨granaryref03_Mix_v1_ok N, trivial⟩, trivial⟩
theorem granaryref03_Code_Rebuild_i0 : loopsOf granaryref03_Code_Rebuild_c0 = [] := by kernel_rfl
noncomputable def granaryref03_Code_Rebuild_a0 (N : Nat) (f0 : Int × Int × Int → Option (Int × Int × (List Int))) (f1 : Int × Int × (List Int) → Option (Int × Int × Int × (List Int))) (f2 : (List Int) × (List (List Int)) × Int → Option ((List Int))) (next : (List (List Int)) × (List Bool) × Int × Int × Int × Int × Int × Int × (List Int) × (List (List Int)) → Option ((Int × Int) ⊕ (Int × Int × Int × Int × (List Int) × (List (List Int))))) (x : (List (List Int)) × (List Bool) × Int × Int × Int × Int × Int × Int × (List Int) × (List (List Int))) : Option ((Int × Int) ⊕ (Int × Int × Int × Int × (List Int) × (List (List Int)))) :=
  (cond (decide (x.2.2.2.2.2.1 < x.2.2.1))
  (Option.bind
  ((cond ((decide ((0 : Int) ≤ x.2.2.2.2.2.1)) && (decide (x.2.2.2.2.2.1 < (((List.length x.2.1) : Nat) : Int))))
  ((cond (!(List.getD x.2.1 (Int.toNat x.2.2.2.2.2.1) (EK.dflt .bool)))
  (some (.inl (x.2.2.2.1, x.2.2.2.2.1, x.2.2.2.2.2.2.1, x.2.2.2.2.2.2.2.1, x.2.2.2.2.2.2.2.2.1, x.2.2.2.2.2.2.2.2.2)))
  (Option.bind
  (cond (decide ((0 : Int) ≤ x.2.2.2.1))
  (cond ((decide ((0 : Int) ≤ x.2.2.2.2.2.1)) && (decide (x.2.2.2.2.2.1 < (((List.length x.1) : Nat) : Int))))
  ((some (!(decide ((((List.length (List.getD x.1 (Int.toNat x.2.2.2.2.2.1) (EK.dflt (.sl (.int .u8))))) : Nat) : Int) = x.2.2.2.1)))))
  none)
  (some false))
  fun r8 =>
  (cond r8
  (some (.inr ((x.2.2.2.2.2.2.1, x.2.2.2.2.2.2.2.1))))
  (cond ((decide ((0 : Int) ≤ x.2.2.2.2.2.1)) && (decide (x.2.2.2.2.2.1 < (((List.length x.1) : Nat) : Int))))
  ((Option.bind
  (cond (decide ((((List.length x.2.2.2.2.2.2.2.2.2) : Nat) : Int) < x.2.2.2.2.2.2.1))
  (cond ((decide ((0 : Int) ≤ x.2.2.2.2.2.1)) && (decide (x.2.2.2.2.2.1 < (((List.length x.1) : Nat) : Int))))
  ((let v15 : List (List Int) := ([(List.getD x.1 (Int.toNat x.2.2.2.2.2.1) (EK.dflt (.sl (.int .u8))))] : List (List Int))
  (cond ((decide (1 ≤ (List.length v15))) && (fits 24 ((List.length x.2.2.2.2.2.2.2.2.2) + (List.length (List.take 1 (List.drop 0 v15))))))
  ((Option.bind (f0 (x.2.2.2.2.2.1, x.2.2.2.2.2.2.1, x.2.2.2.2.2.2.2.1)) fun r17 =>
  (cond (fits 1 ((List.length x.2.2.2.2.2.2.2.2.1) + (List.length r17.2.2)))
  ((some (r17.1, r17.2.1, (x.2.2.2.2.2.2.2.2.1 ++ r17.2.2), (x.2.2.2.2.2.2.2.2.2 ++ (List.take 1 (List.drop 0 v15))))))
  none)))
  none)))
  none)
  (some (x.2.2.2.2.2.2.1, x.2.2.2.2.2.2.2.1, x.2.2.2.2.2.2.2.2.1, x.2.2.2.2.2.2.2.2.2)))
  fun r19 =>
  (some (.inl ((((List.length (List.getD x.1 (Int.toNat x.2.2.2.2.2.1) (EK.dflt (.sl (.int .u8))))) : Nat) : Int), (wrapF .i64 (x.2.2.2.2.1 + (1 : Int))), r19.1, r19.2.1, r19.2.2.1, r19.2.2.2)))))
  none)))))
  none) : Option ((Int × Int × Int × Int × (List Int) × (List (List Int))) ⊕ (Int × Int)))
  fun r20 =>
  (match r20 with
  | .inl y21 =>
  (next (x.1, x.2.1, x.2.2.1, y21.1, y21.2.1, (wrapF .i64 (x.2.2.2.2.2.1 + (1 : Int))), y21.2.2.1, y21.2.2.2.1, y21.2.2.2.2.1, y21.2.2.2.2.2))
  | .inr z22 =>
  (some (.inl (z22.1, z22.2)))))
  (some (.inr ((x.2.2.2.1, x.2.2.2.2.1, x.2.2.2.2.2.2.1, x.2.2.2.2.2.2.2.1, x.2.2.2.2.2.2.2.2.1, x.2.2.2.2.2.2.2.2.2)))))
theorem granaryref03_Code_Rebuild_f0 (N : Nat) (f0 : Int × Int × Int → Option (Int × Int × (List Int))) (f1 : Int × Int × (List Int) → Option (Int × Int × Int × (List Int))) (f2 : (List Int) × (List (List Int)) × Int → Option ((List Int))) (next) (x) : granaryref03_Code_Rebuild_a0 N f0 f1 f2 next x = loopStep Γ (granaryref03_Code_Rebuild_CA N f0 f1 f2) (granaryref03_Code_Rebuild_J N) 0 166 granaryref03_Code_Rebuild_d0 granaryref03_Code_Rebuild_c0 next x := by kernel_rfl
theorem granaryref03_Code_Rebuild_e0 (N : Nat) (next) (x) : granaryref03_Code_Rebuild_b0 N next x = loopStep Γ (granaryref03_Code_Rebuild_C N) (granaryref03_Code_Rebuild_J N) 0 166 granaryref03_Code_Rebuild_d0 granaryref03_Code_Rebuild_c0 next x := by
  rw [← granaryref03_Code_Rebuild_CE N]
  exact Eq.trans (by kernel_rfl) (granaryref03_Code_Rebuild_f0 N (granaryref03_Code_Row N) (granaryref02_Inverse N) (granaryref03_Mix_v1 N) next x)
theorem granaryref03_Code_Rebuild_k0 (N : Nat) : LoopOK Try.prog 166 granaryref03_Code_Rebuild_c0 ⟨granaryref03_Code_Rebuild_d0, loopF (granaryref03_Code_Rebuild_b0 N) N⟩ := loop_ok tabOK (granaryref03_Code_Rebuild_t N) mixedOK (J := granaryref03_Code_Rebuild_J N) (cx := 0) (body := granaryref03_Code_Rebuild_c0) (nt := 166) (l := granaryref03_Code_Rebuild_d0) (b := granaryref03_Code_Rebuild_b0 N) (jok_from granaryref03_Code_Rebuild_i0 ⟨trivial, trivial⟩) (granaryref03_Code_Rebuild_e0 N) N
theorem granaryref03_Code_Rebuild_i2 : loopsOf granaryref03_Code_Rebuild_c2 = [] := by kernel_rfl
noncomputable def granaryref03_Code_Rebuild_a2 (N : Nat) (f0 : Int × Int × Int → Option (Int × Int × (List Int))) (f1 : Int × Int × (List Int) → Option (Int × Int × Int × (List Int))) (f2 : (List Int) × (List (List Int)) × Int → Option ((List Int))) (next : (List (List Int)) × (List Bool) × Int × Int × Int × Int × (List (List Int)) × (List Int) × Int × Int × (List (List Int)) → Option ((Int × (List (List Int)) × (List Int) × Int × Int × (List (List Int))))) (x : (List (List Int)) × (List Bool) × Int × Int × Int × Int × (List (List Int)) × (List Int) × Int × Int × (List (List Int))) : Option ((Int × (List (List Int)) × (List Int) × Int × Int × (List (List Int)))) :=
  (cond (decide (x.2.2.2.2.1 < x.2.2.2.2.2.1))
  (let v2 : Int := (wrapF .i64 (x.2.2.2.2.1 * x.2.2.2.2.2.1))
  (let v4 : Int := (wrapF .i64 ((wrapF .i64 (x.2.2.2.2.1 + (1 : Int))) * x.2.2.2.2.2.1))
  (cond (((decide ((0 : Int) ≤ v2)) && (decide (v2 ≤ v4))) && (decide (v4 ≤ (((List.length x.2.2.2.2.2.2.2.1) : Nat) : Int))))
  ((let v5 : Nat := (Int.toNat v2)
  (let v6 : Nat := ((Int.toNat v4) - (Int.toNat v2))
  (cond (cond (decide ((v5 + v6) ≤ (List.length x.2.2.2.2.2.2.2.1))) true false)
  (Option.bind (f2 ((List.take v6 (List.drop v5 x.2.2.2.2.2.2.2.1)), x.2.2.2.2.2.2.1, x.2.2.2.1)) fun r7 =>
  (let v8 : List (List Int) := ([r7] : List (List Int))
  (cond (fits 24 ((List.length x.2.2.2.2.2.2.2.2.2.2) + (List.length v8)))
  ((next (x.1, x.2.1, x.2.2.1, x.2.2.2.1, (wrapF .i64 (x.2.2.2.2.1 + (1 : Int))), x.2.2.2.2.2.1, x.2.2.2.2.2.2.1, x.2.2.2.2.2.2.2.1, x.2.2.2.2.2.2.2.2.1, x.2.2.2.2.2.2.2.2.2.1, (x.2.2.2.2.2.2.2.2.2.2 ++ v8))))
  none)))
  none))))
  none)))
  (some (x.2.2.2.2.2.1, x.2.2.2.2.2.2.1, x.2.2.2.2.2.2.2.1, x.2.2.2.2.2.2.2.2.1, x.2.2.2.2.2.2.2.2.2.1, x.2.2.2.2.2.2.2.2.2.2)))
theorem granaryref03_Code_Rebuild_f2 (N : Nat) (f0 : Int × Int × Int → Option (Int × Int × (List Int))) (f1 : Int × Int × (List Int) → Option (Int × Int × Int × (List Int))) (f2 : (List Int) × (List (List Int)) × Int → Option ((List Int))) (next) (x) : granaryref03_Code_Rebuild_a2 N f0 f1 f2 next x = loopStep Γ (granaryref03_Code_Rebuild_CA N f0 f1 f2) (granaryref03_Code_Rebuild_J N) 0 166 granaryref03_Code_Rebuild_d2 granaryref03_Code_Rebuild_c2 next x := by kernel_rfl
theorem granaryref03_Code_Rebuild_e2 (N : Nat) (next) (x) : granaryref03_Code_Rebuild_b2 N next x = loopStep Γ (granaryref03_Code_Rebuild_C N) (granaryref03_Code_Rebuild_J N) 0 166 granaryref03_Code_Rebuild_d2 granaryref03_Code_Rebuild_c2 next x := by
  rw [← granaryref03_Code_Rebuild_CE N]
  exact Eq.trans (by kernel_rfl) (granaryref03_Code_Rebuild_f2 N (granaryref03_Code_Row N) (granaryref02_Inverse N) (granaryref03_Mix_v1 N) next x)
theorem granaryref03_Code_Rebuild_k2 (N : Nat) : LoopOK Try.prog 166 granaryref03_Code_Rebuild_c2 ⟨granaryref03_Code_Rebuild_d2, loopF (granaryref03_Code_Rebuild_b2 N) N⟩ := loop_ok tabOK (granaryref03_Code_Rebuild_t N) mixedOK (J := granaryref03_Code_Rebuild_J N) (cx := 0) (body := granaryref03_Code_Rebuild_c2) (nt := 166) (l := granaryref03_Code_Rebuild_d2) (b := granaryref03_Code_Rebuild_b2 N) (jok_from granaryref03_Code_Rebuild_i2 ⟨trivial, trivial⟩) (granaryref03_Code_Rebuild_e2 N) N
theorem granaryref03_Code_Rebuild_i4 : loopsOf granaryref03_Code_Rebuild_c4 = [] := by kernel_rfl
noncomputable def granaryref03_Code_Rebuild_a4 (N : Nat) (f0 : Int × Int × Int → Option (Int × Int × (List Int))) (f1 : Int × Int × (List Int) → Option (Int × Int × Int × (List Int))) (f2 : (List Int) × (List (List Int)) × Int → Option ((List Int))) (next : (List (List Int)) × (List Bool) × Int × Int × Int × Int × Int × (List (List Int)) × (List (List Int)) → Option ((Int × Int × (List (List Int)) × (List (List Int))))) (x : (List (List Int)) × (List Bool) × Int × Int × Int × Int × Int × (List (List Int)) × (List (List Int))) : Option ((Int × Int × (List (List Int)) × (List (List Int)))) :=
  (cond (decide (x.2.2.2.2.1 < x.2.2.1))
  (cond ((decide ((0 : Int) ≤ x.2.2.2.2.1)) && (decide (x.2.2.2.2.1 < (((List.length x.2.1) : Nat) : Int))))
  ((Option.bind
  (cond (List.getD x.2.1 (Int.toNat x.2.2.2.2.1) (EK.dflt .bool))
  (cond ((decide ((0 : Int) ≤ x.2.2.2.2.1)) && (decide (x.2.2.2.2.1 < (((List.length x.1) : Nat) : Int))))
  ((let v4 : (List Int) := (List.getD x.1 (Int.toNat x.2.2.2.2.1) (EK.dflt (.sl (.int .u8))))
  (cond (fits 1 (List.length v4))
  ((let v5 : List (List Int) := ([v4] : List (List Int))
  (cond (fits 24 ((List.length x.2.2.2.2.2.2.2.2) + (List.length v5)))
  ((some (x.2.2.2.2.2.1, x.2.2.2.2.2.2.1, (x.2.2.2.2.2.2.2.2 ++ v5))))
  none)))
  none)))
  none)
  (Option.bind (f0 (x.2.2.2.2.1, x.2.2.2.2.2.1, x.2.2.2.2.2.2.1)) fun r7 =>
  (Option.bind (f2 (r7.2.2, x.2.2.2.2.2.2.2.1, x.2.2.2.1)) fun r8 =>
  (let v9 : List (List Int) := ([r8] : List (List Int))
  (cond (fits 24 ((List.length x.2.2.2.2.2.2.2.2) + (List.length v9)))
  ((some (r7.1, r7.2.1, (x.2.2.2.2.2.2.2.2 ++ v9))))
  none)))))
  fun r11 =>
  (next (x.1, x.2.1, x.2.2.1, x.2.2.2.1, (wrapF .i64 (x.2.2.2.2.1 + (1 : Int))), r11.1, r11.2.1, x.2.2.2.2.2.2.2.1, r11.2.2))))
  none)
  (some (x.2.2.2.2.2.1, x.2.2.2.2.2.2.1, x.2.2.2.2.2.2.2.1, x.2.2.2.2.2.2.2.2)))
theorem granaryref03_Code_Rebuild_f4 (N : Nat) (f0 : Int × Int × Int → Option (Int × Int × (List Int))) (f1 : Int × Int × (List Int) → Option (Int × Int × Int × (List Int))) (f2 : (List Int) × (List (List Int)) × Int → Option ((List Int))) (next) (x) : granaryref03_Code_Rebuild_a4 N f0 f1 f2 next x = loopStep Γ (granaryref03_Code_Rebuild_CA N f0 f1 f2) (granaryref03_Code_Rebuild_J N) 0 166 granaryref03_Code_Rebuild_d4 granaryref03_Code_Rebuild_c4 next x := by kernel_rfl
theorem granaryref03_Code_Rebuild_e4 (N : Nat) (next) (x) : granaryref03_Code_Rebuild_b4 N next x = loopStep Γ (granaryref03_Code_Rebuild_C N) (granaryref03_Code_Rebuild_J N) 0 166 granaryref03_Code_Rebuild_d4 granaryref03_Code_Rebuild_c4 next x := by
  rw [← granaryref03_Code_Rebuild_CE N]
  exact Eq.trans (by kernel_rfl) (granaryref03_Code_Rebuild_f4 N (granaryref03_Code_Row N) (granaryref02_Inverse N) (granaryref03_Mix_v1 N) next x)
theorem granaryref03_Code_Rebuild_k4 (N : Nat) : LoopOK Try.prog 166 granaryref03_Code_Rebuild_c4 ⟨granaryref03_Code_Rebuild_d4, loopF (granaryref03_Code_Rebuild_b4 N) N⟩ := loop_ok tabOK (granaryref03_Code_Rebuild_t N) mixedOK (J := granaryref03_Code_Rebuild_J N) (cx := 0) (body := granaryref03_Code_Rebuild_c4) (nt := 166) (l := granaryref03_Code_Rebuild_d4) (b := granaryref03_Code_Rebuild_b4 N) (jok_from granaryref03_Code_Rebuild_i4 ⟨trivial, trivial⟩) (granaryref03_Code_Rebuild_e4 N) N
theorem granaryref03_Code_Rebuild_i : loopsOf granaryref03_Code_Rebuild_c = [(0, granaryref03_Code_Rebuild_c0), (2, granaryref03_Code_Rebuild_c2), (4, granaryref03_Code_Rebuild_c4)] := by kernel_rfl
noncomputable def granaryref03_Code_Rebuild_a (N : Nat) (f0 : Int × Int × Int → Option (Int × Int × (List Int))) (f1 : Int × Int × (List Int) → Option (Int × Int × Int × (List Int))) (f2 : (List Int) × (List (List Int)) × Int → Option ((List Int))) (x : (List (List Int)) × (List Bool) × Int × Int) : Option (Int × Int × Int × (List (List Int))) :=
  (let v1 : Int := (wrapF .i64 (x.2.2.1 + x.2.2.2))
  (Option.bind
  (cond (!(decide ((((List.length x.1) : Nat) : Int) = v1)))
  (some true)
  (some (!(decide ((((List.length x.2.1) : Nat) : Int) = v1)))))
  fun r6 =>
  (cond r6
  (some ((2 : Int), x.2.2.1, x.2.2.2, ([] : List (List Int))))
  (Option.bind (granaryref03_Code_Rebuild_l0 N (x.1, x.2.1, v1, (-1 : Int), (0 : Int), (0 : Int), x.2.2.1, x.2.2.2, ([] : List Int), ([] : List (List Int)))) fun r7 =>
  (match r7 with
  | .inl y8 =>
  (some ((2 : Int), y8.1, y8.2, ([] : List (List Int))))
  | .inr z9 =>
  (cond (decide ((4096 : Int) < z9.1))
  (some ((1 : Int), z9.2.2.1, z9.2.2.2.1, ([] : List (List Int))))
  (cond (decide (z9.2.1 < z9.2.2.1))
  (some ((30 : Int), z9.2.2.1, z9.2.2.2.1, ([] : List (List Int))))
  (Option.bind (f1 (z9.2.2.1, z9.2.2.1, z9.2.2.2.2.1)) fun r12 =>
  (Option.bind (granaryref03_Code_Rebuild_l2 N (x.1, x.2.1, v1, z9.1, (0 : Int), z9.2.2.1, z9.2.2.2.2.2, r12.2.2.2, r12.1, r12.2.1, ([] : List (List Int)))) fun r13 =>
  (Option.bind (granaryref03_Code_Rebuild_l4 N (x.1, x.2.1, v1, z9.1, (0 : Int), r13.1, z9.2.2.2.1, r13.2.2.2.2.2, ([] : List (List Int)))) fun r14 =>
  (some ((0 : Int), r14.1, r14.2.1, r14.2.2.2))))))))))))
theorem granaryref03_Code_Rebuild_f (N : Nat) (f0 : Int × Int × Int → Option (Int × Int × (List Int))) (f1 : Int × Int × (List Int) → Option (Int × Int × Int × (List Int))) (f2 : (List Int) × (List (List Int)) × Int → Option ((List Int))) (x) : granaryref03_Code_Rebuild_a N f0 f1 f2 x = fnStep Γ (granaryref03_Code_Rebuild_CA N f0 f1 f2) (granaryref03_Code_Rebuild_J N) 166 Try.f16.results.toList (granaryref03_Code_Rebuild_g N) granaryref03_Code_Rebuild_o granaryref03_Code_Rebuild_c x := by kernel_rfl
theorem granaryref03_Code_Rebuild_e (N : Nat) (x) : (granaryref03_Code_Rebuild_g N).F x = fnStep Γ (granaryref03_Code_Rebuild_C N) (granaryref03_Code_Rebuild_J N) 166 Try.f16.results.toList (granaryref03_Code_Rebuild_g N) granaryref03_Code_Rebuild_o granaryref03_Code_Rebuild_c x := by
  rw [← granaryref03_Code_Rebuild_CE N]
  exact Eq.trans (by kernel_rfl) (granaryref03_Code_Rebuild_f N (granaryref03_Code_Row N) (granaryref02_Inverse N) (granaryref03_Mix_v1 N) x)
theorem granaryref03_Code_Rebuild_y : Try.f16.body = some granaryref03_Code_Rebuild_c := by kernel_rfl
theorem granaryref03_Code_Rebuild_n : (Try.f16.name == "runtime.NumGoroutine") = false := by kernel_rfl
theorem granaryref03_Code_Rebuild_ok (N : Nat) : FnDoes Try.prog 16 (granaryref03_Code_Rebuild_g N) := fn_ok tabOK (granaryref03_Code_Rebuild_t N) mixedOK (J := granaryref03_Code_Rebuild_J N) (body := granaryref03_Code_Rebuild_c) Try.func16 granaryref03_Code_Rebuild_y granaryref03_Code_Rebuild_n Try.ntmps16 (jok_from granaryref03_Code_Rebuild_i ⟨⟨.inr ⟨_, rfl, granaryref03_Code_Rebuild_k0 N⟩, .inr ⟨_, rfl, granaryref03_Code_Rebuild_k2 N⟩, .inr ⟨_, rfl, granaryref03_Code_Rebuild_k4 N⟩, trivial⟩, trivial⟩) rfl rfl (le_of_ble rfl) (granaryref03_Code_Rebuild_e N)
end Go.Rf.W
