/-
  The law's printed function is what the program does.
-/
import Derived.Test.YtoabbnfjnjbjfaaRsK1
import Derived.Test.YtoabbnfjnjbjfaaRsFRsEncodes
set_option linter.unusedVariables false
set_option maxRecDepth 100000
namespace Go.Rf.W
open Go Go.Rf Go.Proofs
noncomputable def granarylaw03_RsEncodes_c : Code := codeOf Try.f5.body
noncomputable def granarylaw03_RsEncodes_J (N : Nat) : Nat → Hint := fun cx => hintOf cx [(0, { reg := fun k => assoc0 k [(7, ⟨⟨[(68, (.av (.one .bool)))], [(.keep, true), (.keep, true), (.keep, false), (.keep, true), (.keep, false), (.keep, false), (.keep, false), (.keep, false), (.keep, false)]⟩, [], [], [.bool]⟩), (11, ⟨⟨[(89, (.av (.one .bool)))], [(.keep, true), (.keep, true), (.keep, false), (.keep, true), (.keep, false), (.keep, false), (.keep, false), (.keep, false), (.keep, false)]⟩, [], [], [.bool]⟩), (17, ⟨⟨[(6, (.av (.one .bool)))], [(.keep, true), (.keep, true), (.keep, false), (.keep, true), (.keep, false), (.keep, false), (.keep, false), (.keep, false), (.keep, false), (.dead, false), (.keep, false)]⟩, [], [], [.bool]⟩)], cnd := fun k => assoc0 k [], loop := fun k => assoc0 k [], nil := fun k => assoc0 k [(50, (.arr 0 (.arr 0 .unit)))], unr := fun k => assocN k [], blk := fun k => assoc0 k [] })]
noncomputable def granarylaw03_RsEncodes_C (N : Nat) : Nat → List GS := fun k => tabOf k [(11, [granarylaw03_both_g N]), (13, [granarylaw03_live_g N]), (12, [granarylaw03_huge_g N]), (14, [granarylaw03_lent_g N]), (24, [rs_Code_Encode_v2_g N]), (25, [granaryref03_Code_Encode_g N]), (17, [granaryref03_Same_v1_g N, granaryref03_Same_g N]), (18, [granarylaw03_num_g N]), (26, [rs_Code_Check_v1_g N]), (27, [granaryref03_Code_Check_g N, granaryref03_Code_Check_v1_g N]), (19, [granarylaw03_spoil_g N])]
def granarylaw03_RsEncodes_o : List (Shp × List Nat) := [(⟨[(0, (.av (.one .bool)))], []⟩, [])]
noncomputable def granarylaw03_RsEncodes_g (N : Nat) : GS := { ins := ⟨[(0, (.av (.one (.int .i64)))), (1, (.av (.one (.int .i64)))), (2, (.av (.one (.rsl (.sl (.int .u8))))))], []⟩, lend := [.keep, .keep, .keep], outs := granarylaw03_RsEncodes_o.map fun s => ssOf s.1, its := [.int, .int, .lst (.sl (.int .u8))], ots := [[.bool]], F := granarylaw03_RsEncodes N }
noncomputable def granarylaw03_RsEncodes_CA (N : Nat) (f0 : Int × Int → Option ((Bool) ⊕ (Int × Int) ⊕ (Int × Int × (List Int)) ⊕ (Bool × Int × Int × Int × Int × (List Int)))) (f1 : Unit → Option (Bool)) (f2 : (List (List Int)) → Option (Bool)) (f3 : (List (List Int)) → Option ((List (List Int)))) (f4 : (List (List Int)) × Int × Int × (List Int) → Option (Int × Int × Int × (List Int) × (List (List Int)))) (f5 : (List (List Int)) × Int × Int → Option (Int × Int × Int × (List (List Int)))) (f6 : (List (List Int)) × (List (List Int)) → Option (Bool)) (f7 : (List (List Int)) × (List (List Int)) → Option (Bool)) (f8 : Int → Option (Int)) (f9 : (List (List Int)) × Int × Int × (List Int) → Option (Bool × Int × Int × Int × (List Int))) (f10 : (List (List Int)) × Int × Int → Option (Bool × Int × Int × Int)) (f11 : (List (List Int)) × Int × Int → Option (Bool × Int × Int × Int)) (f12 : (List (List Int)) → Option ((List (List Int)))) : Nat → List GS := fun k => tabOf k [(11, [{ granarylaw03_both_g N with F := f0 }]), (13, [{ granarylaw03_live_g N with F := f1 }]), (12, [{ granarylaw03_huge_g N with F := f2 }]), (14, [{ granarylaw03_lent_g N with F := f3 }]), (24, [{ rs_Code_Encode_v2_g N with F := f4 }]), (25, [{ granaryref03_Code_Encode_g N with F := f5 }]), (17, [{ granaryref03_Same_v1_g N with F := f6 }, { granaryref03_Same_g N with F := f7 }]), (18, [{ granarylaw03_num_g N with F := f8 }]), (26, [{ rs_Code_Check_v1_g N with F := f9 }]), (27, [{ granaryref03_Code_Check_g N with F := f10 }, { granaryref03_Code_Check_v1_g N with F := f11 }]), (19, [{ granarylaw03_spoil_g N with F := f12 }])]
theorem granarylaw03_RsEncodes_CE (N : Nat) : granarylaw03_RsEncodes_CA N (granarylaw03_both N) (granarylaw03_live N) (granarylaw03_huge N) (granarylaw03_lent N) (rs_Code_Encode_v2 N) (granaryref03_Code_Encode N) (granaryref03_Same_v1 N) (granaryref03_Same N) (granarylaw03_num) (rs_Code_Check_v1 N) (granaryref03_Code_Check N) (granaryref03_Code_Check_v1 N) (granarylaw03_spoil N) = granarylaw03_RsEncodes_C N := by kernel_rfl
theorem granarylaw03_RsEncodes_t (N : Nat) : TabC Try.prog (granarylaw03_RsEncodes_C N) := tab_ok ⟨⟨granarylaw03_both_ok N, trivial⟩, ⟨granarylaw03_live_ok N, trivial⟩, ⟨granarylaw03_huge_ok N, trivial⟩, ⟨granarylaw03_lent_ok N, trivial⟩, ⟨rs_Code_Encode_v2_ok N, trivial⟩, ⟨granaryref03_Code_Encode_ok N, trivial⟩, ⟨granaryref03_Same_v1_ok N, granaryref03_Same_ok N, trivial⟩, ⟨granarylaw03_num_ok N, trivial⟩, ⟨rs_Code_Check_v1_ok N, trivial⟩, ⟨granaryref03_Code_Check_ok N, granaryref03_Code_Check_v1_ok N, trivial⟩, ⟨granarylaw03_spoil_ok N, trivial⟩, trivial⟩
theorem granarylaw03_RsEncodes_i : loopsOf granarylaw03_RsEncodes_c = [] := by kernel_rfl
noncomputable def granarylaw03_RsEncodes_a (N : Nat) (f0 : Int × Int → Option ((Bool) ⊕ (Int × Int) ⊕ (Int × Int × (List Int)) ⊕ (Bool × Int × Int × Int × Int × (List Int)))) (f1 : Unit → Option (Bool)) (f2 : (List (List Int)) → Option (Bool)) (f3 : (List (List Int)) → Option ((List (List Int)))) (f4 : (List (List Int)) × Int × Int × (List Int) → Option (Int × Int × Int × (List Int) × (List (List Int)))) (f5 : (List (List Int)) × Int × Int → Option (Int × Int × Int × (List (List Int)))) (f6 : (List (List Int)) × (List (List Int)) → Option (Bool)) (f7 : (List (List Int)) × (List (List Int)) → Option (Bool)) (f8 : Int → Option (Int)) (f9 : (List (List Int)) × Int × Int × (List Int) → Option (Bool × Int × Int × Int × (List Int))) (f10 : (List (List Int)) × Int × Int → Option (Bool × Int × Int × Int)) (f11 : (List (List Int)) × Int × Int → Option (Bool × Int × Int × Int)) (f12 : (List (List Int)) → Option ((List (List Int)))) (x : Int × Int × (List (List Int))) : Option (Bool) :=
  (Option.bind (f0 (x.1, x.2.1)) fun r1 =>
  (match r1 with
  | .inl y2 =>
  (cond (!y2)
  (cond y2
  (Option.bind (f1 ()) fun r5 =>
  (some r5))
  (some false))
  (Option.bind (f2 x.2.2) fun r6 =>
  (cond r6
  (cond y2
  (Option.bind (f1 ()) fun r7 =>
  (some r7))
  (some false))
  (cond y2
  (Option.bind (f1 ()) fun r8 =>
  (some r8))
  (some false)))))
  | .inr z3 =>
  (match z3 with
  | .inl y9 =>
  (some false)
  | .inr z10 =>
  (match z10 with
  | .inl y11 =>
  (some false)
  | .inr z12 =>
  (cond (!z12.1)
  (cond z12.1
  (Option.bind (f1 ()) fun r14 =>
  (some r14))
  (some false))
  (Option.bind (f2 x.2.2) fun r15 =>
  (cond r15
  (cond z12.1
  (Option.bind (f1 ()) fun r16 =>
  (some r16))
  (some false))
  (Option.bind (f3 x.2.2) fun r17 =>
  (Option.bind (f4 (r17, z12.2.1, z12.2.2.1, z12.2.2.2.2.2)) fun r18 =>
  (Option.bind (f5 (x.2.2, z12.2.2.2.1, z12.2.2.2.2.1)) fun r19 =>
  (Option.bind
  (Option.bind (f7 (r18.2.2.2.2, r19.2.2.2)) fun r20 =>
  (cond (!r20)
  (some true)
  (Option.bind (f8 r18.1) fun r22 =>
  (some (!(decide (r22 = r19.1)))))))
  fun r24 =>
  (cond r24
  (some false)
  (Option.bind (f9 (r17, r18.2.1, r18.2.2.1, r18.2.2.2.1)) fun r25 =>
  (Option.bind (f10 (x.2.2, r19.2.1, r19.2.2.1)) fun r26 =>
  (Option.bind
  (cond (!(r25.1 == r26.1))
  (some true)
  (Option.bind (f8 r25.2.1) fun r28 =>
  (some (!(decide (r28 = r26.2.1))))))
  fun r30 =>
  (cond r30
  (some false)
  (Option.bind (f3 x.2.2) fun r31 =>
  (cond (fits 24 ((List.length r31) + (List.length r19.2.2.2)))
  ((let v32 : List (List Int) := (r31 ++ r19.2.2.2)
  (Option.bind (f9 (v32, r25.2.2.1, r25.2.2.2.1, r25.2.2.2.2)) fun r33 =>
  (Option.bind (f11 (v32, r26.2.2.1, r26.2.2.2)) fun r34 =>
  (Option.bind (f12 r18.2.2.2.2) fun r35 =>
  (Option.bind
  (cond (r33.1 == r34.1)
  (Option.bind (f8 r33.2.1) fun r37 =>
  (cond (decide (r37 = r34.2.1))
  (Option.bind (f6 (r17, x.2.2)) fun r39 =>
  (cond r39
  (Option.bind (f1 ()) fun r40 =>
  (some r40))
  (some false)))
  (some false)))
  (some false))
  fun r41 =>
  (some r41)))))))
  none))))))))))))))))))
theorem granarylaw03_RsEncodes_f (N : Nat) (f0 : Int × Int → Option ((Bool) ⊕ (Int × Int) ⊕ (Int × Int × (List Int)) ⊕ (Bool × Int × Int × Int × Int × (List Int)))) (f1 : Unit → Option (Bool)) (f2 : (List (List Int)) → Option (Bool)) (f3 : (List (List Int)) → Option ((List (List Int)))) (f4 : (List (List Int)) × Int × Int × (List Int) → Option (Int × Int × Int × (List Int) × (List (List Int)))) (f5 : (List (List Int)) × Int × Int → Option (Int × Int × Int × (List (List Int)))) (f6 : (List (List Int)) × (List (List Int)) → Option (Bool)) (f7 : (List (List Int)) × (List (List Int)) → Option (Bool)) (f8 : Int → Option (Int)) (f9 : (List (List Int)) × Int × Int × (List Int) → Option (Bool × Int × Int × Int × (List Int))) (f10 : (List (List Int)) × Int × Int → Option (Bool × Int × Int × Int)) (f11 : (List (List Int)) × Int × Int → Option (Bool × Int × Int × Int)) (f12 : (List (List Int)) → Option ((List (List Int)))) (x) : granarylaw03_RsEncodes_a N f0 f1 f2 f3 f4 f5 f6 f7 f8 f9 f10 f11 f12 x = fnStep Γ (granarylaw03_RsEncodes_CA N f0 f1 f2 f3 f4 f5 f6 f7 f8 f9 f10 f11 f12) (granarylaw03_RsEncodes_J N) 125 Try.f5.results.toList (granarylaw03_RsEncodes_g N) granarylaw03_RsEncodes_o granarylaw03_RsEncodes_c x := by kernel_rfl
theorem granarylaw03_RsEncodes_e (N : Nat) (x) : (granarylaw03_RsEncodes_g N).F x = fnStep Γ (granarylaw03_RsEncodes_C N) (granarylaw03_RsEncodes_J N) 125 Try.f5.results.toList (granarylaw03_RsEncodes_g N) granarylaw03_RsEncodes_o granarylaw03_RsEncodes_c x := by
  rw [← granarylaw03_RsEncodes_CE N]
  exact Eq.trans (by kernel_rfl) (granarylaw03_RsEncodes_f N (granarylaw03_both N) (granarylaw03_live N) (granarylaw03_huge N) (granarylaw03_lent N) (rs_Code_Encode_v2 N) (granaryref03_Code_Encode N) (granaryref03_Same_v1 N) (granaryref03_Same N) (granarylaw03_num) (rs_Code_Check_v1 N) (granaryref03_Code_Check N) (granaryref03_Code_Check_v1 N) (granarylaw03_spoil N) x)
theorem granarylaw03_RsEncodes_y : Try.f5.body = some granarylaw03_RsEncodes_c := by kernel_rfl
theorem granarylaw03_RsEncodes_n : (Try.f5.name == "runtime.NumGoroutine") = false := by kernel_rfl
theorem granarylaw03_RsEncodes_ok (N : Nat) : FnDoes Try.prog 5 (granarylaw03_RsEncodes_g N) := fn_ok tabOK (granarylaw03_RsEncodes_t N) mixedOK (J := granarylaw03_RsEncodes_J N) (body := granarylaw03_RsEncodes_c) Try.func5 granarylaw03_RsEncodes_y granarylaw03_RsEncodes_n Try.ntmps5 (jok_from granarylaw03_RsEncodes_i ⟨trivial, trivial⟩) rfl rfl (le_of_ble rfl) (granarylaw03_RsEncodes_e N)
end Go.Rf.W
