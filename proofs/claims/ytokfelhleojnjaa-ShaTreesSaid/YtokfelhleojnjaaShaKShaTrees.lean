/-
  The law's printed function is what the program does.
-/
import Derived.Test.YtokfelhleojnjaaShaK1
import Derived.Test.YtokfelhleojnjaaShaFShaTrees
set_option linter.unusedVariables false
set_option maxRecDepth 100000
namespace Go.Rf.W
open Go Go.Rf Go.Proofs
noncomputable def granarylaw05_ShaTrees_c : Code := codeOf Try.f7.body
noncomputable def granarylaw05_ShaTrees_J (N : Nat) : Nat → Hint := fun cx => hintOf cx [(0, { reg := fun k => assoc0 k [(1, ⟨⟨[(27, (.av (.one .bool)))], [(.keep, false)]⟩, [], [], [.bool]⟩), (8, ⟨⟨[(10, (.av (.one .bool)))], [(.keep, false), (.keep, false), (.keep, false), (.keep, false), (.keep, false), (.keep, false), (.keep, false)]⟩, [], [], [.bool]⟩)], cnd := fun k => assoc0 k [], loop := fun k => assoc0 k [], nil := fun k => assoc0 k [], unr := fun k => assocN k [], blk := fun k => assoc0 k [] })]
noncomputable def granarylaw05_ShaTrees_C (N : Nat) : Nat → List GS := fun k => tabOf k [(9, [granarylaw05_live_g N]), (25, [sha_Path_g N]), (26, [granaryref05_Path_g N]), (27, [sha_Climb_g N]), (28, [granaryref05_Climb_g N]), (29, [sha_Root_g N]), (30, [granaryref05_Root_g N]), (31, [granaryref05_Same_v1_g N, granaryref05_Same_g N]), (20, [granarylaw05_num_g N])]
def granarylaw05_ShaTrees_o : List (Shp × List Nat) := [(⟨[(0, (.av (.one .bool)))], []⟩, [])]
noncomputable def granarylaw05_ShaTrees_g (N : Nat) : GS := { ins := ⟨[(0, (.av (.one (.rsl (.arr 32 (.int .u8)))))), (1, (.av (.one (.int .i64)))), (2, (.av (.agg [(.arr (.int .u8) (some 32))]))), (3, (.av (.one (.int .i64)))), (4, (.av (.one (.rsl (.arr 32 (.int .u8))))))], []⟩, lend := [.keep, .keep, .keep, .keep, .keep], outs := granarylaw05_ShaTrees_o.map fun s => ssOf s.1, its := [.lst (.arr 32 (.int .u8)), .int, .lst (.int .u8), .int, .lst (.arr 32 (.int .u8))], ots := [[.bool]], F := granarylaw05_ShaTrees N }
noncomputable def granarylaw05_ShaTrees_CA (N : Nat) (f0 : Unit → Option (Bool)) (f1 : (List (List Int)) × Int → Option (Int × (List (List Int)))) (f2 : (List (List Int)) × Int → Option (Int × (List (List Int)))) (f3 : (List Int) × Int × Int × (List (List Int)) → Option ((List Int) × Int)) (f4 : (List Int) × Int × Int × (List (List Int)) → Option ((List Int) × Int)) (f5 : (List (List Int)) → Option ((List Int))) (f6 : (List (List Int)) → Option ((List Int))) (f7 : (List (List Int)) × (List (List Int)) → Option (Bool)) (f8 : (List (List Int)) × (List (List Int)) → Option (Bool)) (f9 : Int → Option (Int)) : Nat → List GS := fun k => tabOf k [(9, [{ granarylaw05_live_g N with F := f0 }]), (25, [{ sha_Path_g N with F := f1 }]), (26, [{ granaryref05_Path_g N with F := f2 }]), (27, [{ sha_Climb_g N with F := f3 }]), (28, [{ granaryref05_Climb_g N with F := f4 }]), (29, [{ sha_Root_g N with F := f5 }]), (30, [{ granaryref05_Root_g N with F := f6 }]), (31, [{ granaryref05_Same_v1_g N with F := f7 }, { granaryref05_Same_g N with F := f8 }]), (20, [{ granarylaw05_num_g N with F := f9 }])]
theorem granarylaw05_ShaTrees_CE (N : Nat) : granarylaw05_ShaTrees_CA N (granarylaw05_live N) (sha_Path N) (granaryref05_Path N) (sha_Climb N) (granaryref05_Climb N) (sha_Root N) (granaryref05_Root N) (granaryref05_Same_v1 N) (granaryref05_Same N) (granarylaw05_num) = granarylaw05_ShaTrees_C N := by kernel_rfl
theorem granarylaw05_ShaTrees_t (N : Nat) : TabC Try.prog (granarylaw05_ShaTrees_C N) := tab_ok ⟨⟨granarylaw05_live_ok N, trivial⟩, ⟨sha_Path_ok N, trivial⟩, ⟨granaryref05_Path_ok N, trivial⟩, ⟨sha_Climb_ok N, trivial⟩, ⟨granaryref05_Climb_ok N, trivial⟩, ⟨sha_Root_ok N, trivial⟩, ⟨granaryref05_Root_ok N, trivial⟩, ⟨granaryref05_Same_v1_ok N, granaryref05_Same_ok N, trivial⟩, ⟨granarylaw05_num_ok N, trivial⟩, trivial⟩
theorem granarylaw05_ShaTrees_i : loopsOf granarylaw05_ShaTrees_c = [] := by kernel_rfl
noncomputable def granarylaw05_ShaTrees_a (N : Nat) (f0 : Unit → Option (Bool)) (f1 : (List (List Int)) × Int → Option (Int × (List (List Int)))) (f2 : (List (List Int)) × Int → Option (Int × (List (List Int)))) (f3 : (List Int) × Int × Int × (List (List Int)) → Option ((List Int) × Int)) (f4 : (List Int) × Int × Int × (List (List Int)) → Option ((List Int) × Int)) (f5 : (List (List Int)) → Option ((List Int))) (f6 : (List (List Int)) → Option ((List Int))) (f7 : (List (List Int)) × (List (List Int)) → Option (Bool)) (f8 : (List (List Int)) × (List (List Int)) → Option (Bool)) (f9 : Int → Option (Int)) (x : (List (List Int)) × Int × (List Int) × Int × (List (List Int))) : Option (Bool) :=
  (Option.bind
  (cond (decide ((60 : Int) < (((List.length x.1) : Nat) : Int)))
  (some true)
  (some (decide ((60 : Int) < (((List.length x.2.2.2.2) : Nat) : Int)))))
  fun r5 =>
  (cond r5
  (Option.bind (f0 ()) fun r6 =>
  (some r6))
  (cond (fits 32 (List.length x.1))
  ((Option.bind (f1 (x.1, x.2.1)) fun r8 =>
  (Option.bind (f2 (x.1, x.2.1)) fun r9 =>
  (Option.bind (f3 (x.2.2.1, x.2.1, x.2.2.2.1, x.2.2.2.2)) fun r10 =>
  (Option.bind (f4 (x.2.2.1, x.2.1, x.2.2.2.1, x.2.2.2.2)) fun r12 =>
  (Option.bind
  (Option.bind (f5 x.1) fun r14 =>
  (Option.bind (f6 x.1) fun r15 =>
  (cond (decide (r14 = r15))
  (Option.bind (f8 (r8.2, r9.2)) fun r17 =>
  (cond r17
  (Option.bind (f9 r8.1) fun r18 =>
  (cond (decide (r18 = r9.1))
  (cond (decide (r10.1 = r12.1))
  (Option.bind (f9 r10.2) fun r21 =>
  (cond (decide (r21 = r12.2))
  (Option.bind (f7 (x.1, x.1)) fun r23 =>
  (cond r23
  (Option.bind (f0 ()) fun r24 =>
  (some r24))
  (some false)))
  (some false)))
  (some false))
  (some false)))
  (some false)))
  (some false))))
  fun r25 =>
  (some r25)))))))
  none)))
theorem granarylaw05_ShaTrees_f (N : Nat) (f0 : Unit → Option (Bool)) (f1 : (List (List Int)) × Int → Option (Int × (List (List Int)))) (f2 : (List (List Int)) × Int → Option (Int × (List (List Int)))) (f3 : (List Int) × Int × Int × (List (List Int)) → Option ((List Int) × Int)) (f4 : (List Int) × Int × Int × (List (List Int)) → Option ((List Int) × Int)) (f5 : (List (List Int)) → Option ((List Int))) (f6 : (List (List Int)) → Option ((List Int))) (f7 : (List (List Int)) × (List (List Int)) → Option (Bool)) (f8 : (List (List Int)) × (List (List Int)) → Option (Bool)) (f9 : Int → Option (Int)) (x) : granarylaw05_ShaTrees_a N f0 f1 f2 f3 f4 f5 f6 f7 f8 f9 x = fnStep Γ (granarylaw05_ShaTrees_CA N f0 f1 f2 f3 f4 f5 f6 f7 f8 f9) (granarylaw05_ShaTrees_J N) 95 Try.f7.results.toList (granarylaw05_ShaTrees_g N) granarylaw05_ShaTrees_o granarylaw05_ShaTrees_c x := by kernel_rfl
theorem granarylaw05_ShaTrees_e (N : Nat) (x) : (granarylaw05_ShaTrees_g N).F x = fnStep Γ (granarylaw05_ShaTrees_C N) (granarylaw05_ShaTrees_J N) 95 Try.f7.results.toList (granarylaw05_ShaTrees_g N) granarylaw05_ShaTrees_o granarylaw05_ShaTrees_c x := by
  rw [← granarylaw05_ShaTrees_CE N]
  exact Eq.trans (by kernel_rfl) (granarylaw05_ShaTrees_f N (granarylaw05_live N) (sha_Path N) (granaryref05_Path N) (sha_Climb N) (granaryref05_Climb N) (sha_Root N) (granaryref05_Root N) (granaryref05_Same_v1 N) (granaryref05_Same N) (granarylaw05_num) x)
theorem granarylaw05_ShaTrees_y : Try.f7.body = some granarylaw05_ShaTrees_c := by kernel_rfl
theorem granarylaw05_ShaTrees_n : (Try.f7.name == "runtime.NumGoroutine") = false := by kernel_rfl
theorem granarylaw05_ShaTrees_ok (N : Nat) : FnDoes Try.prog 7 (granarylaw05_ShaTrees_g N) := fn_ok tabOK (granarylaw05_ShaTrees_t N) mixedOK (J := granarylaw05_ShaTrees_J N) (body := granarylaw05_ShaTrees_c) Try.func7 granarylaw05_ShaTrees_y granarylaw05_ShaTrees_n Try.ntmps7 (jok_from granarylaw05_ShaTrees_i ⟨trivial, trivial⟩) rfl rfl (le_of_ble rfl) (granarylaw05_ShaTrees_e N)
end Go.Rf.W
