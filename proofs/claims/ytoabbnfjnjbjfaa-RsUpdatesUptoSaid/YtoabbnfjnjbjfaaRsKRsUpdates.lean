/-
  The law's printed function is what the program does.
-/
import Derived.Test.YtoabbnfjnjbjfaaRsK1
import Derived.Test.YtoabbnfjnjbjfaaRsFRsUpdates
set_option linter.unusedVariables false
set_option maxRecDepth 100000
namespace Go.Rf.W
open Go Go.Rf Go.Proofs
noncomputable def granarylaw03_RsUpdates_c : Code := codeOf Try.f7.body
noncomputable def granarylaw03_RsUpdates_J (N : Nat) : Nat → Hint := fun cx => hintOf cx [(0, { reg := fun k => assoc0 k [(7, ⟨⟨[(79, (.av (.one .bool)))], [(.keep, true), (.keep, true), (.keep, false), (.keep, true), (.keep, false), (.keep, false), (.keep, false), (.keep, false), (.keep, false)]⟩, [], [], [.bool]⟩), (10, ⟨⟨[(12, (.av (.one .bool)))], [(.keep, true), (.keep, true), (.keep, false), (.keep, true), (.keep, false), (.keep, false), (.keep, false), (.keep, false), (.keep, false)]⟩, [], [], [.bool]⟩)], cnd := fun k => assoc0 k [], loop := fun k => assoc0 k [], nil := fun k => assoc0 k [(58, (.arr 0 (.arr 0 .unit)))], unr := fun k => assocN k [], blk := fun k => assoc0 k [] })]
noncomputable def granarylaw03_RsUpdates_C (N : Nat) : Nat → List GS := fun k => tabOf k [(11, [granarylaw03_both_g N]), (13, [granarylaw03_live_g N]), (12, [granarylaw03_huge_g N]), (14, [granarylaw03_lent_g N]), (29, [rs_Code_Update_v1_g N]), (30, [granaryref03_Code_Update_g N]), (17, [granaryref03_Same_v1_g N, granaryref03_Same_g N]), (18, [granarylaw03_num_g N]), (19, [granarylaw03_spoil_g N])]
def granarylaw03_RsUpdates_o : List (Shp × List Nat) := [(⟨[(0, (.av (.one .bool)))], []⟩, [])]
noncomputable def granarylaw03_RsUpdates_g (N : Nat) : GS := { ins := ⟨[(0, (.av (.one (.int .i64)))), (1, (.av (.one (.int .i64)))), (2, (.av (.one (.rsl (.sl (.int .u8)))))), (3, (.av (.one (.int .i64)))), (4, (.av (.one (.rsl (.int .u8))))), (5, (.av (.one (.rsl (.int .u8)))))], []⟩, lend := [.keep, .keep, .keep, .keep, .keep, .keep], outs := granarylaw03_RsUpdates_o.map fun s => ssOf s.1, its := [.int, .int, .lst (.sl (.int .u8)), .int, .lst (.int .u8), .lst (.int .u8)], ots := [[.bool]], F := granarylaw03_RsUpdates N }
noncomputable def granarylaw03_RsUpdates_CA (N : Nat) (f0 : Int × Int → Option ((Bool) ⊕ (Int × Int) ⊕ (Int × Int × (List Int)) ⊕ (Bool × Int × Int × Int × Int × (List Int)))) (f1 : Unit → Option (Bool)) (f2 : (List (List Int)) → Option (Bool)) (f3 : (List (List Int)) → Option ((List (List Int)))) (f4 : (List (List Int)) × Int × (List Int) × (List Int) × Int × Int × (List Int) → Option (Int × Int × Int × (List Int) × (List (List Int)))) (f5 : (List (List Int)) × Int × (List Int) × (List Int) × Int × Int → Option (Int × Int × Int × (List (List Int)))) (f6 : (List (List Int)) × (List (List Int)) → Option (Bool)) (f7 : (List (List Int)) × (List (List Int)) → Option (Bool)) (f8 : Int → Option (Int)) (f9 : (List (List Int)) → Option ((List (List Int)))) : Nat → List GS := fun k => tabOf k [(11, [{ granarylaw03_both_g N with F := f0 }]), (13, [{ granarylaw03_live_g N with F := f1 }]), (12, [{ granarylaw03_huge_g N with F := f2 }]), (14, [{ granarylaw03_lent_g N with F := f3 }]), (29, [{ rs_Code_Update_v1_g N with F := f4 }]), (30, [{ granaryref03_Code_Update_g N with F := f5 }]), (17, [{ granaryref03_Same_v1_g N with F := f6 }, { granaryref03_Same_g N with F := f7 }]), (18, [{ granarylaw03_num_g N with F := f8 }]), (19, [{ granarylaw03_spoil_g N with F := f9 }])]
theorem granarylaw03_RsUpdates_CE (N : Nat) : granarylaw03_RsUpdates_CA N (granarylaw03_both N) (granarylaw03_live N) (granarylaw03_huge N) (granarylaw03_lent N) (rs_Code_Update_v1 N) (granaryref03_Code_Update N) (granaryref03_Same_v1 N) (granaryref03_Same N) (granarylaw03_num) (granarylaw03_spoil N) = granarylaw03_RsUpdates_C N := by kernel_rfl
theorem granarylaw03_RsUpdates_t (N : Nat) : TabC Try.prog (granarylaw03_RsUpdates_C N) := tab_ok ⟨⟨granarylaw03_both_ok N, trivial⟩, ⟨granarylaw03_live_ok N, trivial⟩, ⟨granarylaw03_huge_ok N, trivial⟩, ⟨granarylaw03_lent_ok N, trivial⟩, ⟨rs_Code_Update_v1_ok N, trivial⟩, ⟨granaryref03_Code_Update_ok N, trivial⟩, ⟨granaryref03_Same_v1_ok N, granaryref03_Same_ok N, trivial⟩, ⟨granarylaw03_num_ok N, trivial⟩, ⟨granarylaw03_spoil_ok N, trivial⟩, trivial⟩
theorem granarylaw03_RsUpdates_i : loopsOf granarylaw03_RsUpdates_c = [] := by kernel_rfl
noncomputable def granarylaw03_RsUpdates_a (N : Nat) (f0 : Int × Int → Option ((Bool) ⊕ (Int × Int) ⊕ (Int × Int × (List Int)) ⊕ (Bool × Int × Int × Int × Int × (List Int)))) (f1 : Unit → Option (Bool)) (f2 : (List (List Int)) → Option (Bool)) (f3 : (List (List Int)) → Option ((List (List Int)))) (f4 : (List (List Int)) × Int × (List Int) × (List Int) × Int × Int × (List Int) → Option (Int × Int × Int × (List Int) × (List (List Int)))) (f5 : (List (List Int)) × Int × (List Int) × (List Int) × Int × Int → Option (Int × Int × Int × (List (List Int)))) (f6 : (List (List Int)) × (List (List Int)) → Option (Bool)) (f7 : (List (List Int)) × (List (List Int)) → Option (Bool)) (f8 : Int → Option (Int)) (f9 : (List (List Int)) → Option ((List (List Int)))) (x : Int × Int × (List (List Int)) × Int × (List Int) × (List Int)) : Option (Bool) :=
  (Option.bind (f0 (x.1, x.2.1)) fun r1 =>
  (match r1 with
  | .inl y2 =>
  (cond (!y2)
  (cond y2
  (Option.bind (f1 ()) fun r5 =>
  (some r5))
  (some false))
  (Option.bind (f2 x.2.2.1) fun r6 =>
  (cond r6
  (cond y2
  (Option.bind (f1 ()) fun r7 =>
  (some r7))
  (some false))
  (cond (decide ((9000 : Int) < (wrapF .i64 ((((List.length x.2.2.2.2.1) : Nat) : Int) + (((List.length x.2.2.2.2.2) : Nat) : Int)))))
  (cond y2
  (Option.bind (f1 ()) fun r12 =>
  (some r12))
  (some false))
  (cond y2
  (Option.bind (f1 ()) fun r13 =>
  (some r13))
  (some false))))))
  | .inr z3 =>
  (match z3 with
  | .inl y14 =>
  (some false)
  | .inr z15 =>
  (match z15 with
  | .inl y16 =>
  (some false)
  | .inr z17 =>
  (cond (!z17.1)
  (cond z17.1
  (Option.bind (f1 ()) fun r19 =>
  (some r19))
  (some false))
  (Option.bind (f2 x.2.2.1) fun r20 =>
  (cond r20
  (cond z17.1
  (Option.bind (f1 ()) fun r21 =>
  (some r21))
  (some false))
  (cond (decide ((9000 : Int) < (wrapF .i64 ((((List.length x.2.2.2.2.1) : Nat) : Int) + (((List.length x.2.2.2.2.2) : Nat) : Int)))))
  (cond z17.1
  (Option.bind (f1 ()) fun r26 =>
  (some r26))
  (some false))
  (Option.bind (f3 x.2.2.1) fun r27 =>
  (Option.bind (f4 (r27, x.2.2.2.1, x.2.2.2.2.1, x.2.2.2.2.2, z17.2.1, z17.2.2.1, z17.2.2.2.2.2)) fun r28 =>
  (Option.bind (f5 (x.2.2.1, x.2.2.2.1, x.2.2.2.2.1, x.2.2.2.2.2, z17.2.2.2.1, z17.2.2.2.2.1)) fun r29 =>
  (Option.bind
  (Option.bind (f7 (r28.2.2.2.2, r29.2.2.2)) fun r30 =>
  (cond (!r30)
  (some true)
  (Option.bind (f8 r28.1) fun r32 =>
  (some (!(decide (r32 = r29.1)))))))
  fun r34 =>
  (cond r34
  (some false)
  (Option.bind (f9 r28.2.2.2.2) fun r35 =>
  (Option.bind
  (Option.bind (f6 (r27, x.2.2.1)) fun r36 =>
  (cond r36
  (Option.bind (f1 ()) fun r37 =>
  (some r37))
  (some false)))
  fun r38 =>
  (some r38))))))))))))))))
theorem granarylaw03_RsUpdates_f (N : Nat) (f0 : Int × Int → Option ((Bool) ⊕ (Int × Int) ⊕ (Int × Int × (List Int)) ⊕ (Bool × Int × Int × Int × Int × (List Int)))) (f1 : Unit → Option (Bool)) (f2 : (List (List Int)) → Option (Bool)) (f3 : (List (List Int)) → Option ((List (List Int)))) (f4 : (List (List Int)) × Int × (List Int) × (List Int) × Int × Int × (List Int) → Option (Int × Int × Int × (List Int) × (List (List Int)))) (f5 : (List (List Int)) × Int × (List Int) × (List Int) × Int × Int → Option (Int × Int × Int × (List (List Int)))) (f6 : (List (List Int)) × (List (List Int)) → Option (Bool)) (f7 : (List (List Int)) × (List (List Int)) → Option (Bool)) (f8 : Int → Option (Int)) (f9 : (List (List Int)) → Option ((List (List Int)))) (x) : granarylaw03_RsUpdates_a N f0 f1 f2 f3 f4 f5 f6 f7 f8 f9 x = fnStep Γ (granarylaw03_RsUpdates_CA N f0 f1 f2 f3 f4 f5 f6 f7 f8 f9) (granarylaw03_RsUpdates_J N) 88 Try.f7.results.toList (granarylaw03_RsUpdates_g N) granarylaw03_RsUpdates_o granarylaw03_RsUpdates_c x := by kernel_rfl
theorem granarylaw03_RsUpdates_e (N : Nat) (x) : (granarylaw03_RsUpdates_g N).F x = fnStep Γ (granarylaw03_RsUpdates_C N) (granarylaw03_RsUpdates_J N) 88 Try.f7.results.toList (granarylaw03_RsUpdates_g N) granarylaw03_RsUpdates_o granarylaw03_RsUpdates_c x := by
  rw [← granarylaw03_RsUpdates_CE N]
  exact Eq.trans (by kernel_rfl) (granarylaw03_RsUpdates_f N (granarylaw03_both N) (granarylaw03_live N) (granarylaw03_huge N) (granarylaw03_lent N) (rs_Code_Update_v1 N) (granaryref03_Code_Update N) (granaryref03_Same_v1 N) (granaryref03_Same N) (granarylaw03_num) (granarylaw03_spoil N) x)
theorem granarylaw03_RsUpdates_y : Try.f7.body = some granarylaw03_RsUpdates_c := by kernel_rfl
theorem granarylaw03_RsUpdates_n : (Try.f7.name == "runtime.NumGoroutine") = false := by kernel_rfl
theorem granarylaw03_RsUpdates_ok (N : Nat) : FnDoes Try.prog 7 (granarylaw03_RsUpdates_g N) := fn_ok tabOK (granarylaw03_RsUpdates_t N) mixedOK (J := granarylaw03_RsUpdates_J N) (body := granarylaw03_RsUpdates_c) Try.func7 granarylaw03_RsUpdates_y granarylaw03_RsUpdates_n Try.ntmps7 (jok_from granarylaw03_RsUpdates_i ⟨trivial, trivial⟩) rfl rfl (le_of_ble rfl) (granarylaw03_RsUpdates_e N)
end Go.Rf.W
