/-
  The law's printed function is what the program does.
-/
import Derived.Test.YtmkpcnmjhmdndaaGfK2
import Derived.Test.YtmkpcnmjhmdndaaGfFGfMatrices
set_option linter.unusedVariables false
set_option maxRecDepth 100000
namespace Go.Rf.W
open Go Go.Rf Go.Proofs
noncomputable def granarylaw02_GfMatrices_c : Code := codeOf Try.f11.body
noncomputable def granarylaw02_GfMatrices_c0 : Code := codeOf (getLoop 0 granarylaw02_GfMatrices_c)
def granarylaw02_GfMatrices_d0 : LD := { ins := ⟨[(3, (.av (.one (.const (.ptr ⟨8, 0, 0, 0⟩))))), (4, (.av (.one (.const (.ptr ⟨11, 0, 0, 0⟩))))), (7, (.av (.one (.const (.ptr ⟨16, 0, 0, 0⟩))))), (8, (.av (.one (.const (.ptr ⟨19, 0, 0, 0⟩))))), (25, (.av (.one (.const (.ptr ⟨61, 0, 0, 0⟩))))), (26, (.av (.one (.int .i64))))], [(.keep, false), (.keep, false), (.keep, false), (.keep, false), (.keep, false), (.keep, false), (.keep, false), (.keep, false), (.keep, false), (.keep, false), (.keep, false), (.keep, false), (.keep, false), (.keep, false), (.keep, false), (.keep, false), (.keep, false), (.keep, false), (.keep, false), (.keep, false), (.keep, false), (.keep, false), (.keep, false), (.keep, false), (.keep, false), (.keep, false), (.keep, false), (.keep, false), (.keep, false), (.keep, false), (.keep, false), (.keep, false), (.keep, false), (.keep, false), (.keep, false), (.keep, false), (.keep, false), (.keep, false), (.keep, false), (.keep, false), (.keep, false), (.keep, false), (.keep, false), (.keep, false), (.keep, false), (.keep, false), (.keep, false), (.keep, false), (.keep, false), (.keep, false), (.keep, false), (.keep, false), (.keep, false), (.keep, false), (.keep, false), (.keep, false), (.keep, false), (.keep, false), (.keep, false), (.keep, false), (.sh (.arr (.int .u8) none), false), (.sh (.one (.int .i64)), true), (.sh (.one (.int .i64)), true), (.sh (.one (.const (.slw 60 1))), false)]⟩, mov := [], wr := [60, 61, 62, 63], outs := [(.exit 0, ⟨[], [(.keep, false), (.keep, false), (.keep, false), (.keep, false), (.keep, false), (.keep, false), (.keep, false), (.keep, false), (.keep, false), (.keep, false), (.keep, false), (.keep, false), (.keep, false), (.keep, false), (.keep, false), (.keep, false), (.keep, false), (.keep, false), (.keep, false), (.keep, false), (.keep, false), (.keep, false), (.keep, false), (.keep, false), (.keep, false), (.keep, false), (.keep, false), (.keep, false), (.keep, false), (.keep, false), (.keep, false), (.keep, false), (.keep, false), (.keep, false), (.keep, false), (.keep, false), (.keep, false), (.keep, false), (.keep, false), (.keep, false), (.keep, false), (.keep, false), (.keep, false), (.keep, false), (.keep, false), (.keep, false), (.keep, false), (.keep, false), (.keep, false), (.keep, false), (.keep, false), (.keep, false), (.keep, false), (.keep, false), (.keep, false), (.keep, false), (.keep, false), (.keep, false), (.keep, false), (.keep, false), (.sh (.arr (.int .u8) none), false), (.sh (.one (.int .i64)), true), (.sh (.one (.int .i64)), true), (.sh (.one (.const (.slw 60 1))), false)]⟩)], its := [.int, .lst (.int .u8), .int, .int], ots := [[.lst (.int .u8), .int, .int]] }
noncomputable def granarylaw02_GfMatrices_J (N : Nat) : Nat → Hint := fun cx => hintOf cx [(0, { reg := fun k => assoc0 k [(2, ⟨⟨[(50, (.av (.one .bool)))], [(.keep, true), (.keep, true), (.keep, true), (.keep, true), (.keep, true), (.keep, true), (.keep, true), (.keep, false), (.keep, true), (.keep, true), (.keep, false), (.keep, true), (.keep, true), (.keep, false)]⟩, [], [], [.bool]⟩), (9, ⟨⟨[(99, (.av (.one .bool)))], [(.keep, true), (.keep, true), (.keep, true), (.keep, true), (.keep, true), (.keep, true), (.keep, true), (.keep, false), (.keep, true), (.keep, true), (.keep, false), (.keep, true), (.keep, true), (.keep, false), (.keep, false), (.keep, false), (.keep, true), (.keep, true), (.keep, false), (.keep, true), (.keep, true), (.keep, false), (.keep, false), (.keep, true), (.keep, true), (.keep, false), (.keep, false), (.keep, true), (.keep, true), (.keep, false), (.keep, false), (.keep, true), (.keep, true), (.keep, false), (.keep, false), (.keep, true), (.keep, true), (.keep, false)]⟩, [], [], [.bool]⟩), (15, ⟨⟨[(137, (.av (.one .bool)))], [(.keep, true), (.keep, true), (.keep, true), (.keep, true), (.keep, true), (.keep, true), (.keep, true), (.keep, false), (.keep, true), (.keep, true), (.keep, false), (.keep, true), (.keep, true), (.keep, false), (.keep, false), (.keep, false), (.keep, true), (.keep, true), (.keep, false), (.keep, true), (.keep, true), (.keep, false), (.keep, false), (.keep, true), (.keep, true), (.keep, false), (.keep, false), (.keep, true), (.keep, true), (.keep, false), (.keep, false), (.keep, true), (.keep, true), (.keep, false), (.keep, false), (.keep, true), (.keep, true), (.keep, false), (.keep, false), (.keep, false), (.keep, false), (.keep, true), (.keep, true), (.keep, false), (.keep, false), (.keep, true), (.keep, true), (.keep, false), (.keep, false), (.keep, true), (.keep, true), (.keep, false), (.keep, false), (.keep, true), (.keep, true), (.keep, false)]⟩, [], [], [.bool]⟩), (21, ⟨⟨[(183, (.av (.one .bool)))], [(.keep, true), (.keep, true), (.keep, true), (.keep, true), (.keep, true), (.keep, true), (.keep, true), (.keep, false), (.keep, true), (.keep, true), (.keep, false), (.keep, true), (.keep, true), (.keep, false), (.keep, false), (.keep, false), (.keep, true), (.keep, true), (.keep, false), (.keep, true), (.keep, true), (.keep, false), (.keep, false), (.keep, true), (.keep, true), (.keep, false), (.keep, false), (.keep, true), (.keep, true), (.keep, false), (.keep, false), (.keep, true), (.keep, true), (.keep, false), (.keep, false), (.keep, true), (.keep, true), (.keep, false), (.keep, false), (.keep, false), (.keep, false), (.keep, true), (.keep, true), (.keep, false), (.keep, false), (.keep, true), (.keep, true), (.keep, false), (.keep, false), (.keep, true), (.keep, true), (.keep, false), (.keep, false), (.keep, true), (.keep, true), (.keep, false), (.keep, false), (.keep, false), (.keep, false), (.keep, false)]⟩, [], [], [.bool]⟩), (24, ⟨⟨[(220, (.av (.one .bool)))], [(.keep, true), (.keep, true), (.keep, true), (.keep, true), (.keep, true), (.keep, true), (.keep, true), (.keep, false), (.keep, true), (.keep, true), (.keep, false), (.keep, true), (.keep, true), (.keep, false), (.keep, false), (.keep, false), (.keep, true), (.keep, true), (.keep, false), (.keep, true), (.keep, true), (.keep, false), (.keep, false), (.keep, true), (.keep, true), (.keep, false), (.keep, false), (.keep, true), (.keep, true), (.keep, false), (.keep, false), (.keep, true), (.keep, true), (.keep, false), (.keep, false), (.keep, true), (.keep, true), (.keep, false), (.keep, false), (.keep, false), (.keep, false), (.keep, true), (.keep, true), (.keep, false), (.keep, false), (.keep, true), (.keep, true), (.keep, false), (.keep, false), (.keep, true), (.keep, true), (.keep, false), (.keep, false), (.keep, true), (.keep, true), (.keep, false), (.keep, false), (.keep, false), (.keep, false), (.keep, false), (.keep, false), (.keep, true), (.keep, true), (.keep, false)]⟩, [], [], [.bool]⟩), (30, ⟨⟨[(2, (.av (.one .bool)))], [(.keep, true), (.keep, true), (.keep, true), (.keep, true), (.keep, true), (.keep, true), (.keep, true), (.keep, false), (.keep, true), (.keep, true), (.keep, false), (.keep, true), (.keep, true), (.keep, false), (.keep, false), (.keep, false), (.keep, true), (.keep, true), (.keep, false), (.keep, true), (.keep, true), (.keep, false), (.keep, false), (.keep, true), (.keep, true), (.keep, false), (.keep, false), (.keep, true), (.keep, true), (.keep, false), (.keep, false), (.keep, true), (.keep, true), (.keep, false), (.keep, false), (.keep, true), (.keep, true), (.keep, false), (.keep, false), (.keep, false), (.keep, false), (.keep, true), (.keep, true), (.keep, false), (.keep, false), (.keep, true), (.keep, true), (.keep, false), (.keep, false), (.keep, true), (.keep, true), (.keep, false), (.keep, false), (.keep, true), (.keep, true), (.keep, false), (.keep, false), (.keep, false), (.keep, false), (.keep, false), (.keep, false), (.keep, true), (.keep, true), (.keep, false)]⟩, [], [], [.bool]⟩)], cnd := fun k => assoc0 k [], loop := fun k => assoc0 k [(0, ⟨granarylaw02_GfMatrices_d0, loopF (granarylaw02_GfMatrices_b0 N) N⟩)], nil := fun k => assoc0 k [], unr := fun k => assocN k [], blk := fun k => assoc0 k [] })]
noncomputable def granarylaw02_GfMatrices_C (N : Nat) : Nat → List GS := fun k => tabOf k [(31, [granarylaw02_wide_g N]), (16, [granarylaw02_live_g N]), (34, [granarylaw02_own_g N]), (36, [gf_Product_g N]), (48, [granaryref02_Product_g N]), (37, [gf_Inverse_g N]), (49, [granaryref02_Inverse_g N]), (21, [granarylaw02_same_g N]), (50, [gf_Check_v1_g N]), (15, [granarylaw02_num_g N]), (32, [granaryref02_Check_g N]), (41, [gf_Rows_g N]), (51, [granaryref02_Rows_g N]), (35, [gf_Turn_g N]), (52, [granaryref02_Turn_g N]), (33, [gf_Rank_g N]), (53, [granaryref02_Rank_g N]), (54, [gf_Solve_g N]), (55, [granaryref02_Solve_g N]), (56, [gf_Make_g N]), (38, [granaryref02_Same_v2_g N])]
def granarylaw02_GfMatrices_o : List (Shp × List Nat) := [(⟨[(0, (.av (.one .bool)))], []⟩, [])]
noncomputable def granarylaw02_GfMatrices_g (N : Nat) : GS := { ins := ⟨[(0, (.av (.agg [(.one (.int .i64)), (.one (.int .i64)), (.one (.rsl (.int .u8))), (.one (.int .i64)), (.one (.int .i64)), (.one (.rsl (.int .u8))), (.one (.rsl (.int .i64))), (.one (.rsl (.int .u8)))])))], []⟩, lend := [.keep], outs := granarylaw02_GfMatrices_o.map fun s => ssOf s.1, its := [.int, .int, .lst (.int .u8), .int, .int, .lst (.int .u8), .lst (.int .i64), .lst (.int .u8)], ots := [[.bool]], F := granarylaw02_GfMatrices N }
noncomputable def granarylaw02_GfMatrices_CA (N : Nat) (f0 : Int × Int × (List Int) → Option (Bool)) (f1 : Unit → Option (Bool)) (f2 : Int × Int × (List Int) → Option (Int × Int × (List Int))) (f3 : Int × Int × (List Int) × Int × Int × (List Int) → Option (Int × Int × Int × (List Int))) (f4 : Int × Int × (List Int) × Int × Int × (List Int) → Option (Int × Int × Int × (List Int))) (f5 : Int × Int × (List Int) → Option (Int × Int × Int × (List Int))) (f6 : Int × Int × (List Int) → Option (Int × Int × Int × (List Int))) (f7 : Int × Int × (List Int) × Int × Int × Int × (List Int) × Int → Option (Bool)) (f8 : Int × Int × (List Int) → Option (Int)) (f9 : Int → Option (Int)) (f10 : Int × Int × (List Int) → Option (Int)) (f11 : Int × Int × (List Int) × (List Int) → Option (Int × Int × Int × (List Int))) (f12 : Int × Int × (List Int) × (List Int) → Option (Int × Int × Int × (List Int))) (f13 : Int × Int × (List Int) → Option (Int × Int × Int × (List Int))) (f14 : Int × Int × (List Int) → Option (Int × Int × Int × (List Int))) (f15 : Int × Int × (List Int) → Option (Int × Int)) (f16 : Int × Int × (List Int) → Option (Int × Int)) (f17 : Int × Int × (List Int) × (List Int) → Option (Int × (List Int))) (f18 : Int × Int × (List Int) × (List Int) → Option (Int × (List Int))) (f19 : Int × Int × (List Int) → Option (Int × Int × Int × (List Int))) (f20 : Int × Int × (List Int) × Int × Int × (List Int) → Option (Bool)) : Nat → List GS := fun k => tabOf k [(31, [{ granarylaw02_wide_g N with F := f0 }]), (16, [{ granarylaw02_live_g N with F := f1 }]), (34, [{ granarylaw02_own_g N with F := f2 }]), (36, [{ gf_Product_g N with F := f3 }]), (48, [{ granaryref02_Product_g N with F := f4 }]), (37, [{ gf_Inverse_g N with F := f5 }]), (49, [{ granaryref02_Inverse_g N with F := f6 }]), (21, [{ granarylaw02_same_g N with F := f7 }]), (50, [{ gf_Check_v1_g N with F := f8 }]), (15, [{ granarylaw02_num_g N with F := f9 }]), (32, [{ granaryref02_Check_g N with F := f10 }]), (41, [{ gf_Rows_g N with F := f11 }]), (51, [{ granaryref02_Rows_g N with F := f12 }]), (35, [{ gf_Turn_g N with F := f13 }]), (52, [{ granaryref02_Turn_g N with F := f14 }]), (33, [{ gf_Rank_g N with F := f15 }]), (53, [{ granaryref02_Rank_g N with F := f16 }]), (54, [{ gf_Solve_g N with F := f17 }]), (55, [{ granaryref02_Solve_g N with F := f18 }]), (56, [{ gf_Make_g N with F := f19 }]), (38, [{ granaryref02_Same_v2_g N with F := f20 }])]
theorem granarylaw02_GfMatrices_CE (N : Nat) : granarylaw02_GfMatrices_CA N (granarylaw02_wide) (granarylaw02_live N) (granarylaw02_own) (gf_Product N) (granaryref02_Product N) (gf_Inverse N) (granaryref02_Inverse N) (granarylaw02_same) (gf_Check_v1) (granarylaw02_num) (granaryref02_Check) (gf_Rows N) (granaryref02_Rows N) (gf_Turn N) (granaryref02_Turn N) (gf_Rank N) (granaryref02_Rank N) (gf_Solve N) (granaryref02_Solve N) (gf_Make) (granaryref02_Same_v2) = granarylaw02_GfMatrices_C N := by kernel_rfl
theorem granarylaw02_GfMatrices_t (N : Nat) : TabC Try.prog (granarylaw02_GfMatrices_C N) := tab_ok ⟨⟨granarylaw02_wide_ok N, trivial⟩, ⟨granarylaw02_live_ok N, trivial⟩, ⟨granarylaw02_own_ok N, trivial⟩, ⟨gf_Product_ok N, trivial⟩, ⟨granaryref02_Product_ok N, trivial⟩, ⟨gf_Inverse_ok N, trivial⟩, ⟨granaryref02_Inverse_ok N, trivial⟩, ⟨granarylaw02_same_ok N, trivial⟩, ⟨gf_Check_v1_ok N, trivial⟩, ⟨granarylaw02_num_ok N, trivial⟩, ⟨granaryref02_Check_ok N, trivial⟩, ⟨gf_Rows_ok N, trivial⟩, ⟨granaryref02_Rows_ok N, trivial⟩, ⟨gf_Turn_ok N, trivial⟩, ⟨granaryref02_Turn_ok N, trivial⟩, ⟨gf_Rank_ok N, trivial⟩, ⟨granaryref02_Rank_ok N, trivial⟩, ⟨gf_Solve_ok N, trivial⟩, ⟨granaryref02_Solve_ok N, trivial⟩, ⟨gf_Make_ok N, trivial⟩, ⟨granaryref02_Same_v2_ok N, trivial⟩, trivial⟩
theorem granarylaw02_GfMatrices_i0 : loopsOf granarylaw02_GfMatrices_c0 = [] := by kernel_rfl
noncomputable def granarylaw02_GfMatrices_a0 (N : Nat) (f0 : Int × Int × (List Int) → Option (Bool)) (f1 : Unit → Option (Bool)) (f2 : Int × Int × (List Int) → Option (Int × Int × (List Int))) (f3 : Int × Int × (List Int) × Int × Int × (List Int) → Option (Int × Int × Int × (List Int))) (f4 : Int × Int × (List Int) × Int × Int × (List Int) → Option (Int × Int × Int × (List Int))) (f5 : Int × Int × (List Int) → Option (Int × Int × Int × (List Int))) (f6 : Int × Int × (List Int) → Option (Int × Int × Int × (List Int))) (f7 : Int × Int × (List Int) × Int × Int × Int × (List Int) × Int → Option (Bool)) (f8 : Int × Int × (List Int) → Option (Int)) (f9 : Int → Option (Int)) (f10 : Int × Int × (List Int) → Option (Int)) (f11 : Int × Int × (List Int) × (List Int) → Option (Int × Int × Int × (List Int))) (f12 : Int × Int × (List Int) × (List Int) → Option (Int × Int × Int × (List Int))) (f13 : Int × Int × (List Int) → Option (Int × Int × Int × (List Int))) (f14 : Int × Int × (List Int) → Option (Int × Int × Int × (List Int))) (f15 : Int × Int × (List Int) → Option (Int × Int)) (f16 : Int × Int × (List Int) → Option (Int × Int)) (f17 : Int × Int × (List Int) × (List Int) → Option (Int × (List Int))) (f18 : Int × Int × (List Int) × (List Int) → Option (Int × (List Int))) (f19 : Int × Int × (List Int) → Option (Int × Int × Int × (List Int))) (f20 : Int × Int × (List Int) × Int × Int × (List Int) → Option (Bool)) (next : Int × (List Int) × Int × Int → Option (((List Int) × Int × Int))) (x : Int × (List Int) × Int × Int) : Option (((List Int) × Int × Int)) :=
  (cond (decide (x.1 < (((List.length x.2.1) : Nat) : Int)))
  (cond ((decide ((0 : Int) ≤ x.1)) && (decide (x.1 < (((List.length x.2.1) : Nat) : Int))))
  ((let v3 : Nat := (Int.toNat x.1)
  (cond (decide (v3 < (List.length x.2.1)))
  ((next ((wrapF .i64 (x.1 + (1 : Int))), (List.set x.2.1 v3 (238 : Int)), x.2.2.1, x.2.2.2)))
  none)))
  none)
  (some (x.2.1, x.2.2.1, x.2.2.2)))
theorem granarylaw02_GfMatrices_f0 (N : Nat) (f0 : Int × Int × (List Int) → Option (Bool)) (f1 : Unit → Option (Bool)) (f2 : Int × Int × (List Int) → Option (Int × Int × (List Int))) (f3 : Int × Int × (List Int) × Int × Int × (List Int) → Option (Int × Int × Int × (List Int))) (f4 : Int × Int × (List Int) × Int × Int × (List Int) → Option (Int × Int × Int × (List Int))) (f5 : Int × Int × (List Int) → Option (Int × Int × Int × (List Int))) (f6 : Int × Int × (List Int) → Option (Int × Int × Int × (List Int))) (f7 : Int × Int × (List Int) × Int × Int × Int × (List Int) × Int → Option (Bool)) (f8 : Int × Int × (List Int) → Option (Int)) (f9 : Int → Option (Int)) (f10 : Int × Int × (List Int) → Option (Int)) (f11 : Int × Int × (List Int) × (List Int) → Option (Int × Int × Int × (List Int))) (f12 : Int × Int × (List Int) × (List Int) → Option (Int × Int × Int × (List Int))) (f13 : Int × Int × (List Int) → Option (Int × Int × Int × (List Int))) (f14 : Int × Int × (List Int) → Option (Int × Int × Int × (List Int))) (f15 : Int × Int × (List Int) → Option (Int × Int)) (f16 : Int × Int × (List Int) → Option (Int × Int)) (f17 : Int × Int × (List Int) × (List Int) → Option (Int × (List Int))) (f18 : Int × Int × (List Int) × (List Int) → Option (Int × (List Int))) (f19 : Int × Int × (List Int) → Option (Int × Int × Int × (List Int))) (f20 : Int × Int × (List Int) × Int × Int × (List Int) → Option (Bool)) (next) (x) : granarylaw02_GfMatrices_a0 N f0 f1 f2 f3 f4 f5 f6 f7 f8 f9 f10 f11 f12 f13 f14 f15 f16 f17 f18 f19 f20 next x = loopStep Γ (granarylaw02_GfMatrices_CA N f0 f1 f2 f3 f4 f5 f6 f7 f8 f9 f10 f11 f12 f13 f14 f15 f16 f17 f18 f19 f20) (granarylaw02_GfMatrices_J N) 0 243 granarylaw02_GfMatrices_d0 granarylaw02_GfMatrices_c0 next x := by kernel_rfl
theorem granarylaw02_GfMatrices_e0 (N : Nat) (next) (x) : granarylaw02_GfMatrices_b0 N next x = loopStep Γ (granarylaw02_GfMatrices_C N) (granarylaw02_GfMatrices_J N) 0 243 granarylaw02_GfMatrices_d0 granarylaw02_GfMatrices_c0 next x := by
  rw [← granarylaw02_GfMatrices_CE N]
  exact Eq.trans (by kernel_rfl) (granarylaw02_GfMatrices_f0 N (granarylaw02_wide) (granarylaw02_live N) (granarylaw02_own) (gf_Product N) (granaryref02_Product N) (gf_Inverse N) (granaryref02_Inverse N) (granarylaw02_same) (gf_Check_v1) (granarylaw02_num) (granaryref02_Check) (gf_Rows N) (granaryref02_Rows N) (gf_Turn N) (granaryref02_Turn N) (gf_Rank N) (granaryref02_Rank N) (gf_Solve N) (granaryref02_Solve N) (gf_Make) (granaryref02_Same_v2) next x)
theorem granarylaw02_GfMatrices_k0 (N : Nat) : LoopOK Try.prog 243 granarylaw02_GfMatrices_c0 ⟨granarylaw02_GfMatrices_d0, loopF (granarylaw02_GfMatrices_b0 N) N⟩ := loop_ok tabOK (granarylaw02_GfMatrices_t N) mixedOK (J := granarylaw02_GfMatrices_J N) (cx := 0) (body := granarylaw02_GfMatrices_c0) (nt := 243) (l := granarylaw02_GfMatrices_d0) (b := granarylaw02_GfMatrices_b0 N) (jok_from granarylaw02_GfMatrices_i0 ⟨trivial, trivial⟩) (granarylaw02_GfMatrices_e0 N) N
theorem granarylaw02_GfMatrices_i : loopsOf granarylaw02_GfMatrices_c = [(0, granarylaw02_GfMatrices_c0)] := by kernel_rfl
noncomputable def granarylaw02_GfMatrices_a (N : Nat) (f0 : Int × Int × (List Int) → Option (Bool)) (f1 : Unit → Option (Bool)) (f2 : Int × Int × (List Int) → Option (Int × Int × (List Int))) (f3 : Int × Int × (List Int) × Int × Int × (List Int) → Option (Int × Int × Int × (List Int))) (f4 : Int × Int × (List Int) × Int × Int × (List Int) → Option (Int × Int × Int × (List Int))) (f5 : Int × Int × (List Int) → Option (Int × Int × Int × (List Int))) (f6 : Int × Int × (List Int) → Option (Int × Int × Int × (List Int))) (f7 : Int × Int × (List Int) × Int × Int × Int × (List Int) × Int → Option (Bool)) (f8 : Int × Int × (List Int) → Option (Int)) (f9 : Int → Option (Int)) (f10 : Int × Int × (List Int) → Option (Int)) (f11 : Int × Int × (List Int) × (List Int) → Option (Int × Int × Int × (List Int))) (f12 : Int × Int × (List Int) × (List Int) → Option (Int × Int × Int × (List Int))) (f13 : Int × Int × (List Int) → Option (Int × Int × Int × (List Int))) (f14 : Int × Int × (List Int) → Option (Int × Int × Int × (List Int))) (f15 : Int × Int × (List Int) → Option (Int × Int)) (f16 : Int × Int × (List Int) → Option (Int × Int)) (f17 : Int × Int × (List Int) × (List Int) → Option (Int × (List Int))) (f18 : Int × Int × (List Int) × (List Int) → Option (Int × (List Int))) (f19 : Int × Int × (List Int) → Option (Int × Int × Int × (List Int))) (f20 : Int × Int × (List Int) × Int × Int × (List Int) → Option (Bool)) (x : Int × Int × (List Int) × Int × Int × (List Int) × (List Int) × (List Int)) : Option (Bool) :=
  (Option.bind
  (Option.bind (f0 (x.1, x.2.1, x.2.2.1)) fun r1 =>
  (cond r1
  (some true)
  (Option.bind (f0 (x.2.2.2.1, x.2.2.2.2.1, x.2.2.2.2.2.1)) fun r2 =>
  (cond r2
  (some true)
  (cond (decide ((100 : Int) < (((List.length x.2.2.2.2.2.2.1) : Nat) : Int)))
  (some true)
  (some (decide ((4000 : Int) < (((List.length x.2.2.2.2.2.2.2) : Nat) : Int)))))))))
  fun r7 =>
  (cond r7
  (Option.bind (f1 ()) fun r8 =>
  (some r8))
  (Option.bind (f2 (x.1, x.2.1, x.2.2.1)) fun r9 =>
  (Option.bind (f2 (x.2.2.2.1, x.2.2.2.2.1, x.2.2.2.2.2.1)) fun r10 =>
  (Option.bind (f3 (r9.1, r9.2.1, r9.2.2, r10.1, r10.2.1, r10.2.2)) fun r11 =>
  (Option.bind (f4 (x.1, x.2.1, x.2.2.1, x.2.2.2.1, x.2.2.2.2.1, x.2.2.2.2.2.1)) fun r12 =>
  (Option.bind (f5 (r9.1, r9.2.1, r9.2.2)) fun r13 =>
  (Option.bind (f6 (x.1, x.2.1, x.2.2.1)) fun r14 =>
  (Option.bind
  (Option.bind (f7 (r11.1, r11.2.1, r11.2.2.2, r11.2.2.1, r12.1, r12.2.1, r12.2.2.2, r12.2.2.1)) fun r15 =>
  (cond (!r15)
  (some true)
  (Option.bind (f7 (r13.1, r13.2.1, r13.2.2.2, r13.2.2.1, r14.1, r14.2.1, r14.2.2.2, r14.2.2.1)) fun r17 =>
  (cond (!r17)
  (some true)
  (Option.bind (f8 (r9.1, r9.2.1, r9.2.2)) fun r19 =>
  (Option.bind (f9 r19) fun r20 =>
  (Option.bind (f10 (x.1, x.2.1, x.2.2.1)) fun r21 =>
  (some (!(decide (r20 = r21)))))))))))
  fun r23 =>
  (cond r23
  (some false)
  (cond (fits 8 (List.length x.2.2.2.2.2.2.1))
  ((Option.bind (f11 (r9.1, r9.2.1, r9.2.2, x.2.2.2.2.2.2.1)) fun r25 =>
  (Option.bind (f12 (x.1, x.2.1, x.2.2.1, x.2.2.2.2.2.2.1)) fun r26 =>
  (Option.bind (f13 (r9.1, r9.2.1, r9.2.2)) fun r27 =>
  (Option.bind (f14 (x.1, x.2.1, x.2.2.1)) fun r28 =>
  (Option.bind
  (Option.bind (f7 (r25.1, r25.2.1, r25.2.2.2, r25.2.2.1, r26.1, r26.2.1, r26.2.2.2, r26.2.2.1)) fun r29 =>
  (cond (!r29)
  (some true)
  (Option.bind (f7 (r27.1, r27.2.1, r27.2.2.2, r27.2.2.1, r28.1, r28.2.1, r28.2.2.2, r28.2.2.1)) fun r31 =>
  (some (!r31)))))
  fun r33 =>
  (cond r33
  (some false)
  (Option.bind (f15 (r9.1, r9.2.1, r9.2.2)) fun r34 =>
  (Option.bind (f16 (x.1, x.2.1, x.2.2.1)) fun r35 =>
  (cond (fits 1 (List.length x.2.2.2.2.2.2.2))
  ((Option.bind (f17 (r9.1, r9.2.1, r9.2.2, x.2.2.2.2.2.2.2)) fun r37 =>
  (Option.bind (f18 (x.1, x.2.1, x.2.2.1, x.2.2.2.2.2.2.2)) fun r38 =>
  (Option.bind
  (cond (!(decide (r34.1 = r35.1)))
  (some true)
  (Option.bind (f9 r34.2) fun r40 =>
  (cond (!(decide (r40 = r35.2)))
  (some true)
  (cond (!(decide ((List.map (fun (n : Int) => UInt8.ofNat n.toNat) r37.2) = (List.map (fun (n : Int) => UInt8.ofNat n.toNat) r38.2))))
  (some true)
  (Option.bind (f9 r37.1) fun r45 =>
  (some (!(decide (r45 = r38.1)))))))))
  fun r47 =>
  (cond r47
  (some false)
  (Option.bind (f19 (x.1, x.2.1, r9.2.2)) fun r48 =>
  (Option.bind
  (Option.bind (f9 r48.2.2.1) fun r49 =>
  (Option.bind (f10 (x.1, x.2.1, x.2.2.1)) fun r50 =>
  (cond (!(decide (r49 = r50)))
  (some true)
  (Option.bind (f10 (x.1, x.2.1, x.2.2.1)) fun r52 =>
  (cond (decide (r52 = (0 : Int)))
  (Option.bind (f20 (r48.1, r48.2.1, r48.2.2.2, x.1, x.2.1, x.2.2.1)) fun r54 =>
  (cond (!r54)
  (some true)
  (Option.bind (f10 (x.1, x.2.1, x.2.2.1)) fun r56 =>
  (cond (!(decide (r56 = (0 : Int))))
  (Option.bind (f20 (r48.1, r48.2.1, r48.2.2.2, (0 : Int), (0 : Int), ([] : List Int))) fun r58 =>
  (some (!r58)))
  (some false)))))
  (Option.bind (f10 (x.1, x.2.1, x.2.2.1)) fun r60 =>
  (cond (!(decide (r60 = (0 : Int))))
  (Option.bind (f20 (r48.1, r48.2.1, r48.2.2.2, (0 : Int), (0 : Int), ([] : List Int))) fun r62 =>
  (some (!r62)))
  (some false))))))))
  fun r64 =>
  (cond r64
  (some false)
  (Option.bind (granarylaw02_GfMatrices_l0 N ((0 : Int), r48.2.2.2, r48.1, r48.2.1)) fun r65 =>
  (Option.bind
  (Option.bind (f20 (r9.1, r9.2.1, r9.2.2, x.1, x.2.1, x.2.2.1)) fun r66 =>
  (cond r66
  (Option.bind (f20 (r10.1, r10.2.1, r10.2.2, x.2.2.2.1, x.2.2.2.2.1, x.2.2.2.2.2.1)) fun r67 =>
  (cond r67
  (Option.bind (f1 ()) fun r68 =>
  (some r68))
  (some false)))
  (some false)))
  fun r69 =>
  (some r69)))))))))))
  none))))))))))
  none)))))))))))
theorem granarylaw02_GfMatrices_f (N : Nat) (f0 : Int × Int × (List Int) → Option (Bool)) (f1 : Unit → Option (Bool)) (f2 : Int × Int × (List Int) → Option (Int × Int × (List Int))) (f3 : Int × Int × (List Int) × Int × Int × (List Int) → Option (Int × Int × Int × (List Int))) (f4 : Int × Int × (List Int) × Int × Int × (List Int) → Option (Int × Int × Int × (List Int))) (f5 : Int × Int × (List Int) → Option (Int × Int × Int × (List Int))) (f6 : Int × Int × (List Int) → Option (Int × Int × Int × (List Int))) (f7 : Int × Int × (List Int) × Int × Int × Int × (List Int) × Int → Option (Bool)) (f8 : Int × Int × (List Int) → Option (Int)) (f9 : Int → Option (Int)) (f10 : Int × Int × (List Int) → Option (Int)) (f11 : Int × Int × (List Int) × (List Int) → Option (Int × Int × Int × (List Int))) (f12 : Int × Int × (List Int) × (List Int) → Option (Int × Int × Int × (List Int))) (f13 : Int × Int × (List Int) → Option (Int × Int × Int × (List Int))) (f14 : Int × Int × (List Int) → Option (Int × Int × Int × (List Int))) (f15 : Int × Int × (List Int) → Option (Int × Int)) (f16 : Int × Int × (List Int) → Option (Int × Int)) (f17 : Int × Int × (List Int) × (List Int) → Option (Int × (List Int))) (f18 : Int × Int × (List Int) × (List Int) → Option (Int × (List Int))) (f19 : Int × Int × (List Int) → Option (Int × Int × Int × (List Int))) (f20 : Int × Int × (List Int) × Int × Int × (List Int) → Option (Bool)) (x) : granarylaw02_GfMatrices_a N f0 f1 f2 f3 f4 f5 f6 f7 f8 f9 f10 f11 f12 f13 f14 f15 f16 f17 f18 f19 f20 x = fnStep Γ (granarylaw02_GfMatrices_CA N f0 f1 f2 f3 f4 f5 f6 f7 f8 f9 f10 f11 f12 f13 f14 f15 f16 f17 f18 f19 f20) (granarylaw02_GfMatrices_J N) 243 Try.f11.results.toList (granarylaw02_GfMatrices_g N) granarylaw02_GfMatrices_o granarylaw02_GfMatrices_c x := by kernel_rfl
theorem granarylaw02_GfMatrices_e (N : Nat) (x) : (granarylaw02_GfMatrices_g N).F x = fnStep Γ (granarylaw02_GfMatrices_C N) (granarylaw02_GfMatrices_J N) 243 Try.f11.results.toList (granarylaw02_GfMatrices_g N) granarylaw02_GfMatrices_o granarylaw02_GfMatrices_c x := by
  rw [← granarylaw02_GfMatrices_CE N]
  exact Eq.trans (by kernel_rfl) (granarylaw02_GfMatrices_f N (granarylaw02_wide) (granarylaw02_live N) (granarylaw02_own) (gf_Product N) (granaryref02_Product N) (gf_Inverse N) (granaryref02_Inverse N) (granarylaw02_same) (gf_Check_v1) (granarylaw02_num) (granaryref02_Check) (gf_Rows N) (granaryref02_Rows N) (gf_Turn N) (granaryref02_Turn N) (gf_Rank N) (granaryref02_Rank N) (gf_Solve N) (granaryref02_Solve N) (gf_Make) (granaryref02_Same_v2) x)
theorem granarylaw02_GfMatrices_y : Try.f11.body = some granarylaw02_GfMatrices_c := by kernel_rfl
theorem granarylaw02_GfMatrices_n : (Try.f11.name == "runtime.NumGoroutine") = false := by kernel_rfl
theorem granarylaw02_GfMatrices_ok (N : Nat) : FnDoes Try.prog 11 (granarylaw02_GfMatrices_g N) := fn_ok tabOK (granarylaw02_GfMatrices_t N) mixedOK (J := granarylaw02_GfMatrices_J N) (body := granarylaw02_GfMatrices_c) Try.func11 granarylaw02_GfMatrices_y granarylaw02_GfMatrices_n Try.ntmps11 (jok_from granarylaw02_GfMatrices_i ⟨⟨.inr ⟨_, rfl, granarylaw02_GfMatrices_k0 N⟩, trivial⟩, trivial⟩) rfl rfl (le_of_ble rfl) (granarylaw02_GfMatrices_e N)
end Go.Rf.W
