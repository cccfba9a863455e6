/-
  The law's printed function is what the program does.
-/
import Derived.Test.YtoabbnfjnjbjfaaRsK1
import Derived.Test.YtoabbnfjnjbjfaaRsFRsRows
set_option linter.unusedVariables false
set_option maxRecDepth 100000
namespace Go.Rf.W
open Go Go.Rf Go.Proofs
noncomputable def granarylaw03_RsRows_c : Code := codeOf Try.f4.body
noncomputable def granarylaw03_RsRows_J (N : Nat) : Nat → Hint := fun cx => hintOf cx [(0, { reg := fun k => assoc0 k [(6, ⟨⟨[(6, (.av (.one .bool)))], [(.sh (.one (.int .i64)), true), (.sh (.one (.int .i64)), true), (.sh (.one (.const (.slw 5 1))), false), (.sh (.one (.int .i64)), true), (.sh (.one (.int .i64)), false), (.sh (.arr (.int .u8) none), false)]⟩, [], [0, 1, 2, 3, 4, 5], [.bool, .int, .int, .int, .int, .lst (.int .u8)]⟩)], cnd := fun k => assoc0 k [], loop := fun k => assoc0 k [], nil := fun k => assoc0 k [], unr := fun k => assocN k [], blk := fun k => assoc0 k [] })]
noncomputable def granarylaw03_RsRows_C (N : Nat) : Nat → List GS := fun k => tabOf k [(11, [granarylaw03_both_g N]), (13, [granarylaw03_live_g N]), (20, [rs_Code_Data_v1_g N]), (21, [rs_Code_Parity_v1_g N]), (22, [rs_Code_Row_g N]), (23, [granaryref03_Code_Row_g N])]
def granarylaw03_RsRows_o : List (Shp × List Nat) := [(⟨[(0, (.av (.one .bool)))], []⟩, [])]
noncomputable def granarylaw03_RsRows_g (N : Nat) : GS := { ins := ⟨[(0, (.av (.one (.int .i64)))), (1, (.av (.one (.int .i64)))), (2, (.av (.one (.int .i64))))], []⟩, lend := [.keep, .keep, .keep], outs := granarylaw03_RsRows_o.map fun s => ssOf s.1, its := [.int, .int, .int], ots := [[.bool]], F := granarylaw03_RsRows N }
noncomputable def granarylaw03_RsRows_CA (N : Nat) (f0 : Int × Int → Option ((Bool) ⊕ (Int × Int) ⊕ (Int × Int × (List Int)) ⊕ (Bool × Int × Int × Int × Int × (List Int)))) (f1 : Unit → Option (Bool)) (f2 : Int × Int × (List Int) → Option (Int × Int × Int × (List Int))) (f3 : Int × Int × (List Int) → Option (Int × Int × Int × (List Int))) (f4 : Int × Int × Int × (List Int) → Option (Int × Int × (List Int) × (List Int))) (f5 : Int × Int × Int → Option (Int × Int × (List Int))) : Nat → List GS := fun k => tabOf k [(11, [{ granarylaw03_both_g N with F := f0 }]), (13, [{ granarylaw03_live_g N with F := f1 }]), (20, [{ rs_Code_Data_v1_g N with F := f2 }]), (21, [{ rs_Code_Parity_v1_g N with F := f3 }]), (22, [{ rs_Code_Row_g N with F := f4 }]), (23, [{ granaryref03_Code_Row_g N with F := f5 }])]
theorem granarylaw03_RsRows_CE (N : Nat) : granarylaw03_RsRows_CA N (granarylaw03_both N) (granarylaw03_live N) (rs_Code_Data_v1) (rs_Code_Parity_v1) (rs_Code_Row) (granaryref03_Code_Row N) = granarylaw03_RsRows_C N := by kernel_rfl
theorem granarylaw03_RsRows_t (N : Nat) : TabC Try.prog (granarylaw03_RsRows_C N) := tab_ok ⟨⟨granarylaw03_both_ok N, trivial⟩, ⟨granarylaw03_live_ok N, trivial⟩, ⟨rs_Code_Data_v1_ok N, trivial⟩, ⟨rs_Code_Parity_v1_ok N, trivial⟩, ⟨rs_Code_Row_ok N, trivial⟩, ⟨granaryref03_Code_Row_ok N, trivial⟩, trivial⟩
theorem granarylaw03_RsRows_i : loopsOf granarylaw03_RsRows_c = [] := by kernel_rfl
noncomputable def granarylaw03_RsRows_a (N : Nat) (f0 : Int × Int → Option ((Bool) ⊕ (Int × Int) ⊕ (Int × Int × (List Int)) ⊕ (Bool × Int × Int × Int × Int × (List Int)))) (f1 : Unit → Option (Bool)) (f2 : Int × Int × (List Int) → Option (Int × Int × Int × (List Int))) (f3 : Int × Int × (List Int) → Option (Int × Int × Int × (List Int))) (f4 : Int × Int × Int × (List Int) → Option (Int × Int × (List Int) × (List Int))) (f5 : Int × Int × Int → Option (Int × Int × (List Int))) (x : Int × Int × Int) : Option (Bool) :=
  (Option.bind (f0 (x.1, x.2.1)) fun r1 =>
  (match r1 with
  | .inl y2 =>
  (cond (!y2)
  (some false)
  (Option.bind (f1 ()) fun r5 =>
  (some r5)))
  | .inr z3 =>
  (match z3 with
  | .inl y6 =>
  (some false)
  | .inr z7 =>
  (match z7 with
  | .inl y8 =>
  (some false)
  | .inr z9 =>
  (cond (!z9.1)
  (some false)
  (Option.bind
  (Option.bind (f2 (z9.2.1, z9.2.2.1, z9.2.2.2.2.2)) fun r11 =>
  (cond (decide (r11.1 = x.1))
  (Option.bind (f3 (r11.2.1, r11.2.2.1, r11.2.2.2)) fun r13 =>
  (cond (decide (r13.1 = x.2.1))
  (Option.bind (f4 (x.2.2, r13.2.1, r13.2.2.1, r13.2.2.2)) fun r15 =>
  (Option.bind (f5 (x.2.2, z9.2.2.2.1, z9.2.2.2.2.1)) fun r17 =>
  (cond (decide ((List.map (fun (n : Int) => UInt8.ofNat n.toNat) r15.2.2.2) = (List.map (fun (n : Int) => UInt8.ofNat n.toNat) r17.2.2)))
  (Option.bind (f1 ()) fun r20 =>
  (some (r20, r15.1, r15.2.1, r17.1, r17.2.1, r15.2.2.1)))
  (some (false, r15.1, r15.2.1, r17.1, r17.2.1, r15.2.2.1)))))
  (some (false, r13.2.1, r13.2.2.1, z9.2.2.2.1, z9.2.2.2.2.1, r13.2.2.2))))
  (some (false, r11.2.1, r11.2.2.1, z9.2.2.2.1, z9.2.2.2.2.1, r11.2.2.2))))
  fun r21 =>
  (some r21.1)))))))
theorem granarylaw03_RsRows_f (N : Nat) (f0 : Int × Int → Option ((Bool) ⊕ (Int × Int) ⊕ (Int × Int × (List Int)) ⊕ (Bool × Int × Int × Int × Int × (List Int)))) (f1 : Unit → Option (Bool)) (f2 : Int × Int × (List Int) → Option (Int × Int × Int × (List Int))) (f3 : Int × Int × (List Int) → Option (Int × Int × Int × (List Int))) (f4 : Int × Int × Int × (List Int) → Option (Int × Int × (List Int) × (List Int))) (f5 : Int × Int × Int → Option (Int × Int × (List Int))) (x) : granarylaw03_RsRows_a N f0 f1 f2 f3 f4 f5 x = fnStep Γ (granarylaw03_RsRows_CA N f0 f1 f2 f3 f4 f5) (granarylaw03_RsRows_J N) 46 Try.f4.results.toList (granarylaw03_RsRows_g N) granarylaw03_RsRows_o granarylaw03_RsRows_c x := by kernel_rfl
theorem granarylaw03_RsRows_e (N : Nat) (x) : (granarylaw03_RsRows_g N).F x = fnStep Γ (granarylaw03_RsRows_C N) (granarylaw03_RsRows_J N) 46 Try.f4.results.toList (granarylaw03_RsRows_g N) granarylaw03_RsRows_o granarylaw03_RsRows_c x := by
  rw [← granarylaw03_RsRows_CE N]
  exact Eq.trans (by kernel_rfl) (granarylaw03_RsRows_f N (granarylaw03_both N) (granarylaw03_live N) (rs_Code_Data_v1) (rs_Code_Parity_v1) (rs_Code_Row) (granaryref03_Code_Row N) x)
theorem granarylaw03_RsRows_y : Try.f4.body = some granarylaw03_RsRows_c := by kernel_rfl
theorem granarylaw03_RsRows_n : (Try.f4.name == "runtime.NumGoroutine") = false := by kernel_rfl
theorem granarylaw03_RsRows_ok (N : Nat) : FnDoes Try.prog 4 (granarylaw03_RsRows_g N) := fn_ok tabOK (granarylaw03_RsRows_t N) mixedOK (J := granarylaw03_RsRows_J N) (body := granarylaw03_RsRows_c) Try.func4 granarylaw03_RsRows_y granarylaw03_RsRows_n Try.ntmps4 (jok_from granarylaw03_RsRows_i ⟨trivial, trivial⟩) rfl rfl (le_of_ble rfl) (granarylaw03_RsRows_e N)
end Go.Rf.W
