/-
  The law's printed function is what the program does.
-/
import Derived.Test.YtmkpcnmjhmdndaaGfK2
import Derived.Test.YtmkpcnmjhmdndaaGfFGfVectors
set_option linter.unusedVariables false
set_option maxRecDepth 100000
namespace Go.Rf.W
open Go Go.Rf Go.Proofs
noncomputable def granarylaw02_GfVectors_c : Code := codeOf Try.f10.body
noncomputable def granarylaw02_GfVectors_J (N : Nat) : Nat → Hint := fun cx => hintOf cx [(0, { reg := fun k => assoc0 k [(1, ⟨⟨[(24, (.av (.one .bool)))], []⟩, [], [], [.bool]⟩), (8, ⟨⟨[(6, (.av (.one .bool)))], [(.keep, false), (.keep, false), (.keep, false), (.keep, false), (.keep, false), (.keep, false), (.keep, false), (.keep, false)]⟩, [], [], [.bool]⟩)], cnd := fun k => assoc0 k [], loop := fun k => assoc0 k [], nil := fun k => assoc0 k [], unr := fun k => assocN k [], blk := fun k => assoc0 k [] })]
noncomputable def granarylaw02_GfVectors_C (N : Nat) : Nat → List GS := fun k => tabOf k [(16, [granarylaw02_live_g N]), (42, [gf_Sum_g N]), (43, [granaryref02_Sum_g N]), (39, [gf_Through_g N]), (44, [granaryref02_Through_g N]), (45, [gf_Scale_g N]), (46, [granaryref02_Scale_g N]), (15, [granarylaw02_num_g N]), (40, [gf_Eval_g N]), (47, [granaryref02_Eval_g N])]
def granarylaw02_GfVectors_o : List (Shp × List Nat) := [(⟨[(0, (.av (.one .bool)))], []⟩, [])]
noncomputable def granarylaw02_GfVectors_g (N : Nat) : GS := { ins := ⟨[(0, (.av (.one (.int .u8)))), (1, (.av (.one (.rsl (.int .u8))))), (2, (.av (.one (.rsl (.int .u8)))))], []⟩, lend := [.keep, .keep, .keep], outs := granarylaw02_GfVectors_o.map fun s => ssOf s.1, its := [.int, .lst (.int .u8), .lst (.int .u8)], ots := [[.bool]], F := granarylaw02_GfVectors N }
noncomputable def granarylaw02_GfVectors_CA (N : Nat) (f0 : Unit → Option (Bool)) (f1 : (List Int) × (List Int) → Option (Int × (List Int))) (f2 : (List Int) × (List Int) → Option (Int × (List Int))) (f3 : (List Int) × (List Int) → Option (Int × (List Int))) (f4 : (List Int) × (List Int) → Option (Int × (List Int))) (f5 : Int × (List Int) → Option ((List Int))) (f6 : Int × (List Int) → Option ((List Int))) (f7 : Int → Option (Int)) (f8 : (List Int) × Int → Option (Int)) (f9 : (List Int) × Int → Option (Int)) : Nat → List GS := fun k => tabOf k [(16, [{ granarylaw02_live_g N with F := f0 }]), (42, [{ gf_Sum_g N with F := f1 }]), (43, [{ granaryref02_Sum_g N with F := f2 }]), (39, [{ gf_Through_g N with F := f3 }]), (44, [{ granaryref02_Through_g N with F := f4 }]), (45, [{ gf_Scale_g N with F := f5 }]), (46, [{ granaryref02_Scale_g N with F := f6 }]), (15, [{ granarylaw02_num_g N with F := f7 }]), (40, [{ gf_Eval_g N with F := f8 }]), (47, [{ granaryref02_Eval_g N with F := f9 }])]
theorem granarylaw02_GfVectors_CE (N : Nat) : granarylaw02_GfVectors_CA N (granarylaw02_live N) (gf_Sum N) (granaryref02_Sum N) (gf_Through N) (granaryref02_Through N) (gf_Scale N) (granaryref02_Scale N) (granarylaw02_num) (gf_Eval N) (granaryref02_Eval N) = granarylaw02_GfVectors_C N := by kernel_rfl
theorem granarylaw02_GfVectors_t (N : Nat) : TabC Try.prog (granarylaw02_GfVectors_C N) := tab_ok ⟨⟨granarylaw02_live_ok N, trivial⟩, ⟨gf_Sum_ok N, trivial⟩, ⟨granaryref02_Sum_ok N, trivial⟩, ⟨gf_Through_ok N, trivial⟩, ⟨granaryref02_Through_ok N, trivial⟩, ⟨gf_Scale_ok N, trivial⟩, ⟨granaryref02_Scale_ok N, trivial⟩, ⟨granarylaw02_num_ok N, trivial⟩, ⟨gf_Eval_ok N, trivial⟩, ⟨granaryref02_Eval_ok N, trivial⟩, trivial⟩
theorem granarylaw02_GfVectors_i : loopsOf granarylaw02_GfVectors_c = [] := by kernel_rfl
noncomputable def granarylaw02_GfVectors_a (N : Nat) (f0 : Unit → Option (Bool)) (f1 : (List Int) × (List Int) → Option (Int × (List Int))) (f2 : (List Int) × (List Int) → Option (Int × (List Int))) (f3 : (List Int) × (List Int) → Option (Int × (List Int))) (f4 : (List Int) × (List Int) → Option (Int × (List Int))) (f5 : Int × (List Int) → Option ((List Int))) (f6 : Int × (List Int) → Option ((List Int))) (f7 : Int → Option (Int)) (f8 : (List Int) × Int → Option (Int)) (f9 : (List Int) × Int → Option (Int)) (x : Int × (List Int) × (List Int)) : Option (Bool) :=
  (Option.bind
  (cond (decide ((200 : Int) < (((List.length x.2.1) : Nat) : Int)))
  (some true)
  (some (decide ((200 : Int) < (((List.length x.2.2) : Nat) : Int)))))
  fun r5 =>
  (cond r5
  (Option.bind (f0 ()) fun r6 =>
  (some r6))
  (cond (fits 1 (List.length x.2.1))
  ((cond (fits 1 (List.length x.2.2))
  ((Option.bind (f1 (x.2.1, x.2.2)) fun r9 =>
  (Option.bind (f2 (x.2.1, x.2.2)) fun r10 =>
  (Option.bind (f3 (x.2.1, x.2.2)) fun r11 =>
  (Option.bind (f4 (x.2.1, x.2.2)) fun r12 =>
  (Option.bind
  (Option.bind (f5 (x.1, x.2.1)) fun r13 =>
  (Option.bind (f6 (x.1, x.2.1)) fun r15 =>
  (cond (decide ((List.map (fun (n : Int) => UInt8.ofNat n.toNat) r13) = (List.map (fun (n : Int) => UInt8.ofNat n.toNat) r15)))
  (cond (decide ((List.map (fun (n : Int) => UInt8.ofNat n.toNat) r9.2) = (List.map (fun (n : Int) => UInt8.ofNat n.toNat) r10.2)))
  (Option.bind (f7 r9.1) fun r21 =>
  (cond (decide (r21 = r10.1))
  (cond (decide ((List.map (fun (n : Int) => UInt8.ofNat n.toNat) r11.2) = (List.map (fun (n : Int) => UInt8.ofNat n.toNat) r12.2)))
  (Option.bind (f7 r11.1) fun r26 =>
  (cond (decide (r26 = r12.1))
  (Option.bind (f8 (x.2.1, x.1)) fun r28 =>
  (Option.bind (f9 (x.2.1, x.1)) fun r29 =>
  (cond (decide (r28 = r29))
  (cond (decide ((List.map (fun (n : Int) => UInt8.ofNat n.toNat) x.2.1) = (List.map (fun (n : Int) => UInt8.ofNat n.toNat) x.2.1)))
  (cond (decide ((List.map (fun (n : Int) => UInt8.ofNat n.toNat) x.2.2) = (List.map (fun (n : Int) => UInt8.ofNat n.toNat) x.2.2)))
  (Option.bind (f0 ()) fun r37 =>
  (some r37))
  (some false))
  (some false))
  (some false))))
  (some false)))
  (some false))
  (some false)))
  (some false))
  (some false))))
  fun r38 =>
  (some r38)))))))
  none))
  none)))
theorem granarylaw02_GfVectors_f (N : Nat) (f0 : Unit → Option (Bool)) (f1 : (List Int) × (List Int) → Option (Int × (List Int))) (f2 : (List Int) × (List Int) → Option (Int × (List Int))) (f3 : (List Int) × (List Int) → Option (Int × (List Int))) (f4 : (List Int) × (List Int) → Option (Int × (List Int))) (f5 : Int × (List Int) → Option ((List Int))) (f6 : Int × (List Int) → Option ((List Int))) (f7 : Int → Option (Int)) (f8 : (List Int) × Int → Option (Int)) (f9 : (List Int) × Int → Option (Int)) (x) : granarylaw02_GfVectors_a N f0 f1 f2 f3 f4 f5 f6 f7 f8 f9 x = fnStep Γ (granarylaw02_GfVectors_CA N f0 f1 f2 f3 f4 f5 f6 f7 f8 f9) (granarylaw02_GfVectors_J N) 117 Try.f10.results.toList (granarylaw02_GfVectors_g N) granarylaw02_GfVectors_o granarylaw02_GfVectors_c x := by kernel_rfl
theorem granarylaw02_GfVectors_e (N : Nat) (x) : (granarylaw02_GfVectors_g N).F x = fnStep Γ (granarylaw02_GfVectors_C N) (granarylaw02_GfVectors_J N) 117 Try.f10.results.toList (granarylaw02_GfVectors_g N) granarylaw02_GfVectors_o granarylaw02_GfVectors_c x := by
  rw [← granarylaw02_GfVectors_CE N]
  exact Eq.trans (by kernel_rfl) (granarylaw02_GfVectors_f N (granarylaw02_live N) (gf_Sum N) (granaryref02_Sum N) (gf_Through N) (granaryref02_Through N) (gf_Scale N) (granaryref02_Scale N) (granarylaw02_num) (gf_Eval N) (granaryref02_Eval N) x)
theorem granarylaw02_GfVectors_y : Try.f10.body = some granarylaw02_GfVectors_c := by kernel_rfl
theorem granarylaw02_GfVectors_n : (Try.f10.name == "runtime.NumGoroutine") = false := by kernel_rfl
theorem granarylaw02_GfVectors_ok (N : Nat) : FnDoes Try.prog 10 (granarylaw02_GfVectors_g N) := fn_ok tabOK (granarylaw02_GfVectors_t N) mixedOK (J := granarylaw02_GfVectors_J N) (body := granarylaw02_GfVectors_c) Try.func10 granarylaw02_GfVectors_y granarylaw02_GfVectors_n Try.ntmps10 (jok_from granarylaw02_GfVectors_i ⟨trivial, trivial⟩) rfl rfl (le_of_ble rfl) (granarylaw02_GfVectors_e N)
end Go.Rf.W
