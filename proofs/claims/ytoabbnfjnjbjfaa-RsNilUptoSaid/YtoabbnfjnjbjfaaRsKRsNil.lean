/-
  The law's printed function is what the program does.
-/
import Derived.Test.YtoabbnfjnjbjfaaRsK1
import Derived.Test.YtoabbnfjnjbjfaaRsFRsNil
set_option linter.unusedVariables false
set_option maxRecDepth 100000
namespace Go.Rf.W
open Go Go.Rf Go.Proofs
noncomputable def granarylaw03_RsNil_c : Code := codeOf Try.f10.body
noncomputable def granarylaw03_RsNil_J (N : Nat) : Nat → Hint := fun cx => hintOf cx [(0, { reg := fun k => assoc0 k [(10, ⟨⟨[(4, (.av (.one .bool)))], []⟩, [], [], [.bool]⟩)], cnd := fun k => assoc0 k [], loop := fun k => assoc0 k [], nil := fun k => assoc0 k [(24, (.arr 2 .unit)), (36, (.arr 6 .unit))], unr := fun k => assocN k [], blk := fun k => assoc0 k [] })]
noncomputable def granarylaw03_RsNil_C (N : Nat) : Nat → List GS := fun k => tabOf k [(12, [granarylaw03_huge_g N]), (13, [granarylaw03_live_g N]), (24, [rs_Code_Encode_v1_g N]), (26, [rs_Code_Check_g N]), (15, [rs_Code_Rebuild_v1_g N]), (29, [rs_Code_Update_g N]), (31, [rs_Code_Split_g N]), (33, [rs_Code_Join_g N]), (18, [granarylaw03_num_g N]), (20, [rs_Code_Data_g N]), (21, [rs_Code_Parity_g N]), (22, [rs_Code_Row_v1_g N])]
def granarylaw03_RsNil_o : List (Shp × List Nat) := [(⟨[(0, (.av (.one .bool)))], []⟩, [])]
noncomputable def granarylaw03_RsNil_g (N : Nat) : GS := { ins := ⟨[(0, (.av (.one (.rsl (.sl (.int .u8)))))), (1, (.av (.one (.int .i64))))], []⟩, lend := [.keep, .keep], outs := granarylaw03_RsNil_o.map fun s => ssOf s.1, its := [.lst (.sl (.int .u8)), .int], ots := [[.bool]], F := granarylaw03_RsNil N }
noncomputable def granarylaw03_RsNil_CA (N : Nat) (f0 : (List (List Int)) → Option (Bool)) (f1 : Unit → Option (Bool)) (f2 : (List (List Int)) → Option (Unit)) (f3 : (List (List Int)) → Option (Unit)) (f4 : (List (List Int)) × (List Bool) → Option (Unit)) (f5 : (List (List Int)) × Int × (List Int) × (List Int) → Option (Unit)) (f6 : (List Int) → Option (Unit)) (f7 : (List (List Int)) × Int → Option (Unit)) (f8 : Int → Option (Int)) (f9 : Unit → Option (Unit)) (f10 : Unit → Option (Unit)) (f11 : Int → Option (Unit)) : Nat → List GS := fun k => tabOf k [(12, [{ granarylaw03_huge_g N with F := f0 }]), (13, [{ granarylaw03_live_g N with F := f1 }]), (24, [{ rs_Code_Encode_v1_g N with F := f2 }]), (26, [{ rs_Code_Check_g N with F := f3 }]), (15, [{ rs_Code_Rebuild_v1_g N with F := f4 }]), (29, [{ rs_Code_Update_g N with F := f5 }]), (31, [{ rs_Code_Split_g N with F := f6 }]), (33, [{ rs_Code_Join_g N with F := f7 }]), (18, [{ granarylaw03_num_g N with F := f8 }]), (20, [{ rs_Code_Data_g N with F := f9 }]), (21, [{ rs_Code_Parity_g N with F := f10 }]), (22, [{ rs_Code_Row_v1_g N with F := f11 }])]
theorem granarylaw03_RsNil_CE (N : Nat) : granarylaw03_RsNil_CA N (granarylaw03_huge N) (granarylaw03_live N) (rs_Code_Encode_v1) (rs_Code_Check) (rs_Code_Rebuild_v1) (rs_Code_Update) (rs_Code_Split) (rs_Code_Join) (granarylaw03_num) (rs_Code_Data) (rs_Code_Parity) (rs_Code_Row_v1) = granarylaw03_RsNil_C N := by kernel_rfl
theorem granarylaw03_RsNil_t (N : Nat) : TabC Try.prog (granarylaw03_RsNil_C N) := tab_ok ⟨⟨granarylaw03_huge_ok N, trivial⟩, ⟨granarylaw03_live_ok N, trivial⟩, ⟨rs_Code_Encode_v1_ok N, trivial⟩, ⟨rs_Code_Check_ok N, trivial⟩, ⟨rs_Code_Rebuild_v1_ok N, trivial⟩, ⟨rs_Code_Update_ok N, trivial⟩, ⟨rs_Code_Split_ok N, trivial⟩, ⟨rs_Code_Join_ok N, trivial⟩, ⟨granarylaw03_num_ok N, trivial⟩, ⟨rs_Code_Data_ok N, trivial⟩, ⟨rs_Code_Parity_ok N, trivial⟩, ⟨rs_Code_Row_v1_ok N, trivial⟩, trivial⟩
theorem granarylaw03_RsNil_i : loopsOf granarylaw03_RsNil_c = [] := by kernel_rfl
noncomputable def granarylaw03_RsNil_a (N : Nat) (f0 : (List (List Int)) → Option (Bool)) (f1 : Unit → Option (Bool)) (f2 : (List (List Int)) → Option (Unit)) (f3 : (List (List Int)) → Option (Unit)) (f4 : (List (List Int)) × (List Bool) → Option (Unit)) (f5 : (List (List Int)) × Int × (List Int) × (List Int) → Option (Unit)) (f6 : (List Int) → Option (Unit)) (f7 : (List (List Int)) × Int → Option (Unit)) (f8 : Int → Option (Int)) (f9 : Unit → Option (Unit)) (f10 : Unit → Option (Unit)) (f11 : Int → Option (Unit)) (x : (List (List Int)) × Int) : Option (Bool) :=
  (Option.bind (f0 x.1) fun r1 =>
  (cond r1
  (Option.bind (f1 ()) fun r2 =>
  (some r2))
  (Option.bind (f2 x.1) fun r3 =>
  (Option.bind (f3 x.1) fun r4 =>
  (Option.bind (f4 (x.1, ([] : List Bool))) fun r5 =>
  (Option.bind (f5 (x.1, x.2, ([] : List Int), ([] : List Int))) fun r6 =>
  (Option.bind (f6 ([] : List Int)) fun r7 =>
  (Option.bind (f7 (x.1, x.2)) fun r8 =>
  (Option.bind
  (Option.bind (f8 (7 : Int)) fun r9 =>
  (cond (decide (r9 = (7 : Int)))
  (Option.bind (f8 (7 : Int)) fun r11 =>
  (cond (decide (r11 = (7 : Int)))
  (Option.bind (f8 (7 : Int)) fun r13 =>
  (cond (decide (r13 = (7 : Int)))
  (Option.bind (f8 (7 : Int)) fun r15 =>
  (cond (decide (r15 = (7 : Int)))
  (Option.bind (f8 (7 : Int)) fun r17 =>
  (cond (decide (r17 = (7 : Int)))
  (Option.bind (f8 (7 : Int)) fun r19 =>
  (cond (decide (r19 = (7 : Int)))
  (Option.bind (f9 ()) fun r21 =>
  (Option.bind (f10 ()) fun r22 =>
  (Option.bind (f11 x.2) fun r23 =>
  (Option.bind (f1 ()) fun r24 =>
  (some r24)))))
  (some false)))
  (some false)))
  (some false)))
  (some false)))
  (some false)))
  (some false)))
  fun r25 =>
  (some r25))))))))))
theorem granarylaw03_RsNil_f (N : Nat) (f0 : (List (List Int)) → Option (Bool)) (f1 : Unit → Option (Bool)) (f2 : (List (List Int)) → Option (Unit)) (f3 : (List (List Int)) → Option (Unit)) (f4 : (List (List Int)) × (List Bool) → Option (Unit)) (f5 : (List (List Int)) × Int × (List Int) × (List Int) → Option (Unit)) (f6 : (List Int) → Option (Unit)) (f7 : (List (List Int)) × Int → Option (Unit)) (f8 : Int → Option (Int)) (f9 : Unit → Option (Unit)) (f10 : Unit → Option (Unit)) (f11 : Int → Option (Unit)) (x) : granarylaw03_RsNil_a N f0 f1 f2 f3 f4 f5 f6 f7 f8 f9 f10 f11 x = fnStep Γ (granarylaw03_RsNil_CA N f0 f1 f2 f3 f4 f5 f6 f7 f8 f9 f10 f11) (granarylaw03_RsNil_J N) 135 Try.f10.results.toList (granarylaw03_RsNil_g N) granarylaw03_RsNil_o granarylaw03_RsNil_c x := by kernel_rfl
theorem granarylaw03_RsNil_e (N : Nat) (x) : (granarylaw03_RsNil_g N).F x = fnStep Γ (granarylaw03_RsNil_C N) (granarylaw03_RsNil_J N) 135 Try.f10.results.toList (granarylaw03_RsNil_g N) granarylaw03_RsNil_o granarylaw03_RsNil_c x := by
  rw [← granarylaw03_RsNil_CE N]
  exact Eq.trans (by kernel_rfl) (granarylaw03_RsNil_f N (granarylaw03_huge N) (granarylaw03_live N) (rs_Code_Encode_v1) (rs_Code_Check) (rs_Code_Rebuild_v1) (rs_Code_Update) (rs_Code_Split) (rs_Code_Join) (granarylaw03_num) (rs_Code_Data) (rs_Code_Parity) (rs_Code_Row_v1) x)
theorem granarylaw03_RsNil_y : Try.f10.body = some granarylaw03_RsNil_c := by kernel_rfl
theorem granarylaw03_RsNil_n : (Try.f10.name == "runtime.NumGoroutine") = false := by kernel_rfl
theorem granarylaw03_RsNil_ok (N : Nat) : FnDoes Try.prog 10 (granarylaw03_RsNil_g N) := fn_ok tabOK (granarylaw03_RsNil_t N) mixedOK (J := granarylaw03_RsNil_J N) (body := granarylaw03_RsNil_c) Try.func10 granarylaw03_RsNil_y granarylaw03_RsNil_n Try.ntmps10 (jok_from granarylaw03_RsNil_i ⟨trivial, trivial⟩) rfl rfl (le_of_ble rfl) (granarylaw03_RsNil_e N)
end Go.Rf.W
