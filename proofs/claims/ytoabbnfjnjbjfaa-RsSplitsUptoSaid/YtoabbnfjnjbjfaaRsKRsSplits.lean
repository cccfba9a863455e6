/-
  The law's printed function is what the program does.
-/
import Derived.Test.YtoabbnfjnjbjfaaRsK1
import Derived.Test.YtoabbnfjnjbjfaaRsFRsSplits
set_option linter.unusedVariables false
set_option maxRecDepth 100000
namespace Go.Rf.W
open Go Go.Rf Go.Proofs
noncomputable def granarylaw03_RsSplits_c : Code := codeOf Try.f8.body
noncomputable def granarylaw03_RsSplits_J (N : Nat) : Nat → Hint := fun cx => hintOf cx [(0, { reg := fun k => assoc0 k [(7, ⟨⟨[(75, (.av (.one .bool)))], [(.keep, true), (.keep, true), (.keep, false), (.keep, true), (.keep, false), (.keep, false), (.keep, false), (.keep, false), (.keep, false), (.keep, false)]⟩, [], [], [.bool]⟩), (11, ⟨⟨[(95, (.av (.one .bool)))], [(.keep, true), (.keep, true), (.keep, false), (.keep, true), (.keep, false), (.keep, false), (.keep, false), (.keep, false), (.keep, false), (.keep, false), (.keep, false)]⟩, [], [], [.bool]⟩), (16, ⟨⟨[(10, (.av (.one .bool)))], [(.keep, true), (.keep, true), (.keep, false), (.keep, true), (.keep, false), (.keep, false), (.keep, false), (.keep, false), (.keep, false), (.keep, false), (.keep, false), (.keep, false), (.keep, false)]⟩, [], [], [.bool]⟩)], cnd := fun k => assoc0 k [(77, ⟨[], [0, 1, 2, 5], [(.normal, ⟨[], [(.sh (.one (.int .i64)), true), (.sh (.one (.int .i64)), true), (.sh (.one (.const (.slw 5 1))), false), (.keep, true), (.keep, false), (.sh (.arr (.int .u8) none), false), (.keep, false), (.keep, false), (.keep, false), (.keep, false)]⟩), (.ret, ⟨[(10, (.av (.one (.const (.bool false)))))], [(.sh (.one (.int .i64)), true), (.sh (.one (.int .i64)), true), (.sh (.one (.const (.slw 5 1))), false), (.keep, true), (.keep, false), (.sh (.arr (.int .u8) none), false), (.keep, false), (.keep, false), (.keep, false), (.keep, false)]⟩)], [[.int, .int, .lst (.int .u8)], [.int, .int, .lst (.int .u8)]]⟩)], loop := fun k => assoc0 k [], nil := fun k => assoc0 k [(57, (.arr 0 (.arr 0 .unit)))], unr := fun k => assocN k [], blk := fun k => assoc0 k [] })]
noncomputable def granarylaw03_RsSplits_C (N : Nat) : Nat → List GS := fun k => tabOf k [(11, [granarylaw03_both_g N]), (13, [granarylaw03_live_g N]), (12, [granarylaw03_huge_g N]), (31, [rs_Code_Split_v1_g N]), (32, [granaryref03_Code_Split_g N]), (17, [granaryref03_Same_g N]), (18, [granarylaw03_num_g N]), (33, [rs_Code_Join_v1_g N]), (14, [granarylaw03_lent_g N]), (34, [granaryref03_Code_Join_g N]), (19, [granarylaw03_spoil_g N])]
def granarylaw03_RsSplits_o : List (Shp × List Nat) := [(⟨[(0, (.av (.one .bool)))], []⟩, [])]
noncomputable def granarylaw03_RsSplits_g (N : Nat) : GS := { ins := ⟨[(0, (.av (.one (.int .i64)))), (1, (.av (.one (.int .i64)))), (2, (.av (.one (.rsl (.int .u8))))), (3, (.av (.one (.rsl (.sl (.int .u8)))))), (4, (.av (.one (.int .i64))))], []⟩, lend := [.keep, .keep, .keep, .keep, .keep], outs := granarylaw03_RsSplits_o.map fun s => ssOf s.1, its := [.int, .int, .lst (.int .u8), .lst (.sl (.int .u8)), .int], ots := [[.bool]], F := granarylaw03_RsSplits N }
noncomputable def granarylaw03_RsSplits_CA (N : Nat) (f0 : Int × Int → Option ((Bool) ⊕ (Int × Int) ⊕ (Int × Int × (List Int)) ⊕ (Bool × Int × Int × Int × Int × (List Int)))) (f1 : Unit → Option (Bool)) (f2 : (List (List Int)) → Option (Bool)) (f3 : (List Int) × Int × Int × (List Int) → Option (Int × Int × Int × (List Int) × (List (List Int)))) (f4 : (List Int) × Int × Int → Option (Int × Int × Int × (List (List Int)))) (f5 : (List (List Int)) × (List (List Int)) → Option (Bool)) (f6 : Int → Option (Int)) (f7 : (List (List Int)) × Int × Int × Int × (List Int) → Option (Nat × Nat × Int × Int × Int × (List Int) × (List Int))) (f8 : (List (List Int)) → Option ((List (List Int)))) (f9 : (List (List Int)) × Int × Int × Int → Option (Nat × Nat × Int × Int × Int × (List Int))) (f10 : (List (List Int)) → Option ((List (List Int)))) : Nat → List GS := fun k => tabOf k [(11, [{ granarylaw03_both_g N with F := f0 }]), (13, [{ granarylaw03_live_g N with F := f1 }]), (12, [{ granarylaw03_huge_g N with F := f2 }]), (31, [{ rs_Code_Split_v1_g N with F := f3 }]), (32, [{ granaryref03_Code_Split_g N with F := f4 }]), (17, [{ granaryref03_Same_g N with F := f5 }]), (18, [{ granarylaw03_num_g N with F := f6 }]), (33, [{ rs_Code_Join_v1_g N with F := f7 }]), (14, [{ granarylaw03_lent_g N with F := f8 }]), (34, [{ granaryref03_Code_Join_g N with F := f9 }]), (19, [{ granarylaw03_spoil_g N with F := f10 }])]
theorem granarylaw03_RsSplits_CE (N : Nat) : granarylaw03_RsSplits_CA N (granarylaw03_both N) (granarylaw03_live N) (granarylaw03_huge N) (rs_Code_Split_v1 N) (granaryref03_Code_Split N) (granaryref03_Same N) (granarylaw03_num) (rs_Code_Join_v1 N) (granarylaw03_lent N) (granaryref03_Code_Join N) (granarylaw03_spoil N) = granarylaw03_RsSplits_C N := by kernel_rfl
theorem granarylaw03_RsSplits_t (N : Nat) : TabC Try.prog (granarylaw03_RsSplits_C N) := tab_ok ⟨⟨granarylaw03_both_ok N, trivial⟩, ⟨granarylaw03_live_ok N, trivial⟩, ⟨granarylaw03_huge_ok N, trivial⟩, ⟨rs_Code_Split_v1_ok N, trivial⟩, ⟨granaryref03_Code_Split_ok N, trivial⟩, ⟨granaryref03_Same_ok N, trivial⟩, ⟨granarylaw03_num_ok N, trivial⟩, ⟨rs_Code_Join_v1_ok N, trivial⟩, ⟨granarylaw03_lent_ok N, trivial⟩, ⟨granaryref03_Code_Join_ok N, trivial⟩, ⟨granarylaw03_spoil_ok N, trivial⟩, trivial⟩
theorem granarylaw03_RsSplits_i : loopsOf granarylaw03_RsSplits_c = [] := by kernel_rfl
noncomputable def granarylaw03_RsSplits_a (N : Nat) (f0 : Int × Int → Option ((Bool) ⊕ (Int × Int) ⊕ (Int × Int × (List Int)) ⊕ (Bool × Int × Int × Int × Int × (List Int)))) (f1 : Unit → Option (Bool)) (f2 : (List (List Int)) → Option (Bool)) (f3 : (List Int) × Int × Int × (List Int) → Option (Int × Int × Int × (List Int) × (List (List Int)))) (f4 : (List Int) × Int × Int → Option (Int × Int × Int × (List (List Int)))) (f5 : (List (List Int)) × (List (List Int)) → Option (Bool)) (f6 : Int → Option (Int)) (f7 : (List (List Int)) × Int × Int × Int × (List Int) → Option (Nat × Nat × Int × Int × Int × (List Int) × (List Int))) (f8 : (List (List Int)) → Option ((List (List Int)))) (f9 : (List (List Int)) × Int × Int × Int → Option (Nat × Nat × Int × Int × Int × (List Int))) (f10 : (List (List Int)) → Option ((List (List Int)))) (x : Int × Int × (List Int) × (List (List Int)) × Int) : Option (Bool) :=
  (Option.bind (f0 (x.1, x.2.1)) fun r1 =>
  (match r1 with
  | .inl y2 =>
  (cond (!y2)
  (cond y2
  (Option.bind (f1 ()) fun r5 =>
  (some r5))
  (some false))
  (Option.bind (f2 x.2.2.2.1) fun r6 =>
  (cond r6
  (cond y2
  (Option.bind (f1 ()) fun r7 =>
  (some r7))
  (some false))
  (cond (decide ((69632 : Int) < (((List.length x.2.2.1) : Nat) : Int)))
  (cond y2
  (Option.bind (f1 ()) fun r10 =>
  (some r10))
  (some false))
  (cond y2
  (Option.bind (f1 ()) fun r11 =>
  (some r11))
  (some false))))))
  | .inr z3 =>
  (match z3 with
  | .inl y12 =>
  (some false)
  | .inr z13 =>
  (match z13 with
  | .inl y14 =>
  (some false)
  | .inr z15 =>
  (cond (!z15.1)
  (cond z15.1
  (Option.bind (f1 ()) fun r17 =>
  (some r17))
  (some false))
  (Option.bind (f2 x.2.2.2.1) fun r18 =>
  (cond r18
  (cond z15.1
  (Option.bind (f1 ()) fun r19 =>
  (some r19))
  (some false))
  (cond (decide ((69632 : Int) < (((List.length x.2.2.1) : Nat) : Int)))
  (cond z15.1
  (Option.bind (f1 ()) fun r22 =>
  (some r22))
  (some false))
  (cond (fits 1 (List.length x.2.2.1))
  ((Option.bind (f3 (x.2.2.1, z15.2.1, z15.2.2.1, z15.2.2.2.2.2)) fun r24 =>
  (Option.bind (f4 (x.2.2.1, z15.2.2.2.1, z15.2.2.2.2.1)) fun r25 =>
  (Option.bind
  (Option.bind (f5 (r24.2.2.2.2, r25.2.2.2)) fun r26 =>
  (cond (!r26)
  (some true)
  (Option.bind (f6 r24.1) fun r28 =>
  (some (!(decide (r28 = r25.1)))))))
  fun r30 =>
  (cond r30
  (some false)
  (Option.bind
  ((cond (decide (r25.1 = (0 : Int)))
  (Option.bind (f7 (r24.2.2.2.2, (((List.length x.2.2.1) : Nat) : Int), r24.2.1, r24.2.2.1, r24.2.2.2.1)) fun r33 =>
  (Option.bind
  (Option.bind (f6 r33.2.2.1) fun r34 =>
  (cond (!(decide (r34 = (0 : Int))))
  (some true)
  (cond (decide ((r33.1 + r33.2.1) ≤ (List.length r33.2.2.2.2.2.2)))
  ((some (!(decide ((List.map (fun (n : Int) => UInt8.ofNat n.toNat) (List.take r33.2.1 (List.drop r33.1 r33.2.2.2.2.2.2))) = (List.map (fun (n : Int) => UInt8.ofNat n.toNat) x.2.2.1))))))
  none)))
  fun r39 =>
  (cond r39
  (some (.inr ((r33.2.2.2.1, r33.2.2.2.2.1, r33.2.2.2.2.2.1))))
  (some (.inl (r33.2.2.2.1, r33.2.2.2.2.1, r33.2.2.2.2.2.1))))))
  (some (.inl (r24.2.1, r24.2.2.1, r24.2.2.2.1)))) : Option ((Int × Int × (List Int)) ⊕ (Int × Int × (List Int))))
  fun r40 =>
  (match r40 with
  | .inl y41 =>
  (Option.bind (f8 x.2.2.2.1) fun r43 =>
  (Option.bind (f7 (r43, x.2.2.2.2, y41.1, y41.2.1, y41.2.2)) fun r44 =>
  (Option.bind (f9 (x.2.2.2.1, x.2.2.2.2, r25.2.1, r25.2.2.1)) fun r45 =>
  (Option.bind (f10 r24.2.2.2.2) fun r46 =>
  (Option.bind
  (cond (decide ((r44.1 + r44.2.1) ≤ (List.length r44.2.2.2.2.2.2)))
  ((cond (decide ((r45.1 + r45.2.1) ≤ (List.length r45.2.2.2.2.2)))
  ((cond (decide ((List.map (fun (n : Int) => UInt8.ofNat n.toNat) (List.take r44.2.1 (List.drop r44.1 r44.2.2.2.2.2.2))) = (List.map (fun (n : Int) => UInt8.ofNat n.toNat) (List.take r45.2.1 (List.drop r45.1 r45.2.2.2.2.2)))))
  (Option.bind (f6 r44.2.2.1) fun r50 =>
  (cond (decide (r50 = r45.2.2.1))
  (cond (decide ((List.map (fun (n : Int) => UInt8.ofNat n.toNat) x.2.2.1) = (List.map (fun (n : Int) => UInt8.ofNat n.toNat) x.2.2.1)))
  (Option.bind (f1 ()) fun r55 =>
  (some r55))
  (some false))
  (some false)))
  (some false)))
  none))
  none)
  fun r56 =>
  (some r56))))))
  | .inr z42 =>
  (some false))))))))
  none)))))))))
theorem granarylaw03_RsSplits_f (N : Nat) (f0 : Int × Int → Option ((Bool) ⊕ (Int × Int) ⊕ (Int × Int × (List Int)) ⊕ (Bool × Int × Int × Int × Int × (List Int)))) (f1 : Unit → Option (Bool)) (f2 : (List (List Int)) → Option (Bool)) (f3 : (List Int) × Int × Int × (List Int) → Option (Int × Int × Int × (List Int) × (List (List Int)))) (f4 : (List Int) × Int × Int → Option (Int × Int × Int × (List (List Int)))) (f5 : (List (List Int)) × (List (List Int)) → Option (Bool)) (f6 : Int → Option (Int)) (f7 : (List (List Int)) × Int × Int × Int × (List Int) → Option (Nat × Nat × Int × Int × Int × (List Int) × (List Int))) (f8 : (List (List Int)) → Option ((List (List Int)))) (f9 : (List (List Int)) × Int × Int × Int → Option (Nat × Nat × Int × Int × Int × (List Int))) (f10 : (List (List Int)) → Option ((List (List Int)))) (x) : granarylaw03_RsSplits_a N f0 f1 f2 f3 f4 f5 f6 f7 f8 f9 f10 x = fnStep Γ (granarylaw03_RsSplits_CA N f0 f1 f2 f3 f4 f5 f6 f7 f8 f9 f10) (granarylaw03_RsSplits_J N) 134 Try.f8.results.toList (granarylaw03_RsSplits_g N) granarylaw03_RsSplits_o granarylaw03_RsSplits_c x := by kernel_rfl
theorem granarylaw03_RsSplits_e (N : Nat) (x) : (granarylaw03_RsSplits_g N).F x = fnStep Γ (granarylaw03_RsSplits_C N) (granarylaw03_RsSplits_J N) 134 Try.f8.results.toList (granarylaw03_RsSplits_g N) granarylaw03_RsSplits_o granarylaw03_RsSplits_c x := by
  rw [← granarylaw03_RsSplits_CE N]
  exact Eq.trans (by kernel_rfl) (granarylaw03_RsSplits_f N (granarylaw03_both N) (granarylaw03_live N) (granarylaw03_huge N) (rs_Code_Split_v1 N) (granaryref03_Code_Split N) (granaryref03_Same N) (granarylaw03_num) (rs_Code_Join_v1 N) (granarylaw03_lent N) (granaryref03_Code_Join N) (granarylaw03_spoil N) x)
theorem granarylaw03_RsSplits_y : Try.f8.body = some granarylaw03_RsSplits_c := by kernel_rfl
theorem granarylaw03_RsSplits_n : (Try.f8.name == "runtime.NumGoroutine") = false := by kernel_rfl
theorem granarylaw03_RsSplits_ok (N : Nat) : FnDoes Try.prog 8 (granarylaw03_RsSplits_g N) := fn_ok tabOK (granarylaw03_RsSplits_t N) mixedOK (J := granarylaw03_RsSplits_J N) (body := granarylaw03_RsSplits_c) Try.func8 granarylaw03_RsSplits_y granarylaw03_RsSplits_n Try.ntmps8 (jok_from granarylaw03_RsSplits_i ⟨trivial, trivial⟩) rfl rfl (le_of_ble rfl) (granarylaw03_RsSplits_e N)
end Go.Rf.W
