/-
  The law's printed function is what the program does.
-/
import Derived.Test.YtoabbnfjnjbjfaaRsK2
import Derived.Test.YtoabbnfjnjbjfaaRsFRsRebuilds
set_option linter.unusedVariables false
set_option maxRecDepth 100000
namespace Go.Rf.W
open Go Go.Rf Go.Proofs
noncomputable def granarylaw03_RsRebuilds_c : Code := codeOf Try.f3.body
noncomputable def granarylaw03_RsRebuilds_J (N : Nat) : Nat → Hint := fun cx => hintOf cx [(0, { reg := fun k => assoc0 k [(7, ⟨⟨[(70, (.av (.one .bool)))], [(.keep, true), (.keep, true), (.keep, false), (.keep, true), (.keep, false), (.keep, false), (.keep, false), (.keep, false), (.keep, false), (.keep, false), (.keep, false)]⟩, [], [], [.bool]⟩), (10, ⟨⟨[(8, (.av (.one .bool)))], [(.keep, true), (.keep, true), (.keep, false), (.keep, true), (.keep, false), (.keep, false), (.keep, false), (.keep, false), (.keep, false), (.keep, false), (.keep, false)]⟩, [], [], [.bool]⟩)], cnd := fun k => assoc0 k [], loop := fun k => assoc0 k [], nil := fun k => assoc0 k [(51, (.arr 0 (.arr 0 .unit)))], unr := fun k => assocN k [], blk := fun k => assoc0 k [] })]
noncomputable def granarylaw03_RsRebuilds_C (N : Nat) : Nat → List GS := fun k => tabOf k [(11, [granarylaw03_both_g N]), (13, [granarylaw03_live_g N]), (12, [granarylaw03_huge_g N]), (14, [granarylaw03_lent_g N]), (15, [rs_Code_Rebuild_v2_g N]), (16, [granaryref03_Code_Rebuild_g N]), (17, [granaryref03_Same_v1_g N, granaryref03_Same_g N]), (18, [granarylaw03_num_g N]), (19, [granarylaw03_spoil_g N])]
def granarylaw03_RsRebuilds_o : List (Shp × List Nat) := [(⟨[(0, (.av (.one .bool)))], []⟩, [])]
noncomputable def granarylaw03_RsRebuilds_g (N : Nat) : GS := { ins := ⟨[(0, (.av (.one (.int .i64)))), (1, (.av (.one (.int .i64)))), (2, (.av (.one (.rsl (.sl (.int .u8)))))), (3, (.av (.one (.rsl .bool))))], []⟩, lend := [.keep, .keep, .keep, .keep], outs := granarylaw03_RsRebuilds_o.map fun s => ssOf s.1, its := [.int, .int, .lst (.sl (.int .u8)), .lst .bool], ots := [[.bool]], F := granarylaw03_RsRebuilds N }
noncomputable def granarylaw03_RsRebuilds_CA (N : Nat) (f0 : Int × Int → Option ((Bool) ⊕ (Int × Int) ⊕ (Int × Int × (List Int)) ⊕ (Bool × Int × Int × Int × Int × (List Int)))) (f1 : Unit → Option (Bool)) (f2 : (List (List Int)) → Option (Bool)) (f3 : (List (List Int)) → Option ((List (List Int)))) (f4 : (List (List Int)) × (List Bool) × Int × Int × (List Int) → Option (Int × Int × Int × (List Int) × (List (List Int)))) (f5 : (List (List Int)) × (List Bool) × Int × Int → Option (Int × Int × Int × (List (List Int)))) (f6 : (List (List Int)) × (List (List Int)) → Option (Bool)) (f7 : (List (List Int)) × (List (List Int)) → Option (Bool)) (f8 : Int → Option (Int)) (f9 : (List (List Int)) → Option ((List (List Int)))) : Nat → List GS := fun k => tabOf k [(11, [{ granarylaw03_both_g N with F := f0 }]), (13, [{ granarylaw03_live_g N with F := f1 }]), (12, [{ granarylaw03_huge_g N with F := f2 }]), (14, [{ granarylaw03_lent_g N with F := f3 }]), (15, [{ rs_Code_Rebuild_v2_g N with F := f4 }]), (16, [{ granaryref03_Code_Rebuild_g N with F := f5 }]), (17, [{ granaryref03_Same_v1_g N with F := f6 }, { granaryref03_Same_g N with F := f7 }]), (18, [{ granarylaw03_num_g N with F := f8 }]), (19, [{ granarylaw03_spoil_g N with F := f9 }])]
theorem granarylaw03_RsRebuilds_CE (N : Nat) : granarylaw03_RsRebuilds_CA N (granarylaw03_both N) (granarylaw03_live N) (granarylaw03_huge N) (granarylaw03_lent N) (rs_Code_Rebuild_v2 N) (granaryref03_Code_Rebuild N) (granaryref03_Same_v1 N) (granaryref03_Same N) (granarylaw03_num) (granarylaw03_spoil N) = granarylaw03_RsRebuilds_C N := by kernel_rfl
theorem granarylaw03_RsRebuilds_t (N : Nat) : TabC Try.prog (granarylaw03_RsRebuilds_C N) := tab_ok ⟨⟨granarylaw03_both_ok N, trivial⟩, ⟨granarylaw03_live_ok N, trivial⟩, ⟨granarylaw03_huge_ok N, trivial⟩, ⟨granarylaw03_lent_ok N, trivial⟩, ⟨rs_Code_Rebuild_v2_ok N, trivial⟩, ⟨granaryref03_Code_Rebuild_ok N, trivial⟩, ⟨granaryref03_Same_v1_ok N, granaryref03_Same_ok N, trivial⟩, ⟨granarylaw03_num_ok N, trivial⟩, ⟨granarylaw03_spoil_ok N, trivial⟩, trivial⟩
theorem granarylaw03_RsRebuilds_i : loopsOf granarylaw03_RsRebuilds_c = [] := by kernel_rfl
noncomputable def granarylaw03_RsRebuilds_a (N : Nat) (f0 : Int × Int → Option ((Bool) ⊕ (Int × Int) ⊕ (Int × Int × (List Int)) ⊕ (Bool × Int × Int × Int × Int × (List Int)))) (f1 : Unit → Option (Bool)) (f2 : (List (List Int)) → Option (Bool)) (f3 : (List (List Int)) → Option ((List (List Int)))) (f4 : (List (List Int)) × (List Bool) × Int × Int × (List Int) → Option (Int × Int × Int × (List Int) × (List (List Int)))) (f5 : (List (List Int)) × (List Bool) × Int × Int → Option (Int × Int × Int × (List (List Int)))) (f6 : (List (List Int)) × (List (List Int)) → Option (Bool)) (f7 : (List (List Int)) × (List (List Int)) → Option (Bool)) (f8 : Int → Option (Int)) (f9 : (List (List Int)) → Option ((List (List Int)))) (x : Int × Int × (List (List Int)) × (List Bool)) : Option (Bool) :=
  (Option.bind (f0 (x.1, x.2.1)) fun r1 =>
  (match r1 with
  | .inl y2 =>
  (cond (!y2)
  (cond y2
  (Option.bind (f1 ()) fun r5 =>
  (some r5))
  (some false))
  (Option.bind (f2 x.2.2.1) fun r6 =>
  (cond r6
  (cond y2
  (Option.bind (f1 ()) fun r7 =>
  (some r7))
  (some false))
  (cond (decide ((30 : Int) < (((List.length x.2.2.2) : Nat) : Int)))
  (cond y2
  (Option.bind (f1 ()) fun r10 =>
  (some r10))
  (some false))
  (cond y2
  (Option.bind (f1 ()) fun r11 =>
  (some r11))
  (some false))))))
  | .inr z3 =>
  (match z3 with
  | .inl y12 =>
  (some false)
  | .inr z13 =>
  (match z13 with
  | .inl y14 =>
  (some false)
  | .inr z15 =>
  (cond (!z15.1)
  (cond z15.1
  (Option.bind (f1 ()) fun r17 =>
  (some r17))
  (some false))
  (Option.bind (f2 x.2.2.1) fun r18 =>
  (cond r18
  (cond z15.1
  (Option.bind (f1 ()) fun r19 =>
  (some r19))
  (some false))
  (cond (decide ((30 : Int) < (((List.length x.2.2.2) : Nat) : Int)))
  (cond z15.1
  (Option.bind (f1 ()) fun r22 =>
  (some r22))
  (some false))
  (Option.bind (f3 x.2.2.1) fun r23 =>
  (cond (fits 1 (List.length x.2.2.2))
  ((Option.bind (f4 (r23, x.2.2.2, z15.2.1, z15.2.2.1, z15.2.2.2.2.2)) fun r25 =>
  (Option.bind (f5 (x.2.2.1, x.2.2.2, z15.2.2.2.1, z15.2.2.2.2.1)) fun r26 =>
  (Option.bind
  (Option.bind (f7 (r25.2.2.2.2, r26.2.2.2)) fun r27 =>
  (cond (!r27)
  (some true)
  (Option.bind (f8 r25.1) fun r29 =>
  (some (!(decide (r29 = r26.1)))))))
  fun r31 =>
  (cond r31
  (some false)
  (Option.bind (f9 r25.2.2.2.2) fun r32 =>
  (Option.bind
  (Option.bind (f6 (r23, x.2.2.1)) fun r33 =>
  (cond r33
  (Option.bind (f1 ()) fun r34 =>
  (some r34))
  (some false)))
  fun r35 =>
  (some r35))))))))
  none))))))))))
theorem granarylaw03_RsRebuilds_f (N : Nat) (f0 : Int × Int → Option ((Bool) ⊕ (Int × Int) ⊕ (Int × Int × (List Int)) ⊕ (Bool × Int × Int × Int × Int × (List Int)))) (f1 : Unit → Option (Bool)) (f2 : (List (List Int)) → Option (Bool)) (f3 : (List (List Int)) → Option ((List (List Int)))) (f4 : (List (List Int)) × (List Bool) × Int × Int × (List Int) → Option (Int × Int × Int × (List Int) × (List (List Int)))) (f5 : (List (List Int)) × (List Bool) × Int × Int → Option (Int × Int × Int × (List (List Int)))) (f6 : (List (List Int)) × (List (List Int)) → Option (Bool)) (f7 : (List (List Int)) × (List (List Int)) → Option (Bool)) (f8 : Int → Option (Int)) (f9 : (List (List Int)) → Option ((List (List Int)))) (x) : granarylaw03_RsRebuilds_a N f0 f1 f2 f3 f4 f5 f6 f7 f8 f9 x = fnStep Γ (granarylaw03_RsRebuilds_CA N f0 f1 f2 f3 f4 f5 f6 f7 f8 f9) (granarylaw03_RsRebuilds_J N) 79 Try.f3.results.toList (granarylaw03_RsRebuilds_g N) granarylaw03_RsRebuilds_o granarylaw03_RsRebuilds_c x := by kernel_rfl
theorem granarylaw03_RsRebuilds_e (N : Nat) (x) : (granarylaw03_RsRebuilds_g N).F x = fnStep Γ (granarylaw03_RsRebuilds_C N) (granarylaw03_RsRebuilds_J N) 79 Try.f3.results.toList (granarylaw03_RsRebuilds_g N) granarylaw03_RsRebuilds_o granarylaw03_RsRebuilds_c x := by
  rw [← granarylaw03_RsRebuilds_CE N]
  exact Eq.trans (by kernel_rfl) (granarylaw03_RsRebuilds_f N (granarylaw03_both N) (granarylaw03_live N) (granarylaw03_huge N) (granarylaw03_lent N) (rs_Code_Rebuild_v2 N) (granaryref03_Code_Rebuild N) (granaryref03_Same_v1 N) (granaryref03_Same N) (granarylaw03_num) (granarylaw03_spoil N) x)
theorem granarylaw03_RsRebuilds_y : Try.f3.body = some granarylaw03_RsRebuilds_c := by kernel_rfl
theorem granarylaw03_RsRebuilds_n : (Try.f3.name == "runtime.NumGoroutine") = false := by kernel_rfl
theorem granarylaw03_RsRebuilds_ok (N : Nat) : FnDoes Try.prog 3 (granarylaw03_RsRebuilds_g N) := fn_ok tabOK (granarylaw03_RsRebuilds_t N) mixedOK (J := granarylaw03_RsRebuilds_J N) (body := granarylaw03_RsRebuilds_c) Try.func3 granarylaw03_RsRebuilds_y granarylaw03_RsRebuilds_n Try.ntmps3 (jok_from granarylaw03_RsRebuilds_i ⟨trivial, trivial⟩) rfl rfl (le_of_ble rfl) (granarylaw03_RsRebuilds_e N)
end Go.Rf.W
