/-
  The law's printed function is what the program does.
-/
import Derived.Test.YtmkpcnmjhmdndaaGfK2
import Derived.Test.YtmkpcnmjhmdndaaGfFGfThrough
set_option linter.unusedVariables false
set_option maxRecDepth 100000
namespace Go.Rf.W
open Go Go.Rf Go.Proofs
noncomputable def granarylaw02_GfThrough_c : Code := codeOf Try.f8.body
noncomputable def granarylaw02_GfThrough_c0 : Code := codeOf (getLoop 0 granarylaw02_GfThrough_c)
noncomputable def granarylaw02_GfThrough_c2 : Code := codeOf (getLoop 2 granarylaw02_GfThrough_c)
def granarylaw02_GfThrough_d0 : LD := { ins := ⟨[(0, (.av (.one (.rsl (.int .u8))))), (1, (.av (.one (.rsl (.int .u8))))), (2, (.av (.one (.rsl (.int .u8))))), (7, (.av (.one (.const (.slw 4 1))))), (9, (.av (.one (.const (.slw 5 1))))), (10, (.av (.one (.int .i64))))], [(.keep, false), (.keep, false), (.keep, false), (.keep, false), (.sh (.arr (.int .u8) none), false), (.sh (.arr (.int .u8) none), false)]⟩, mov := [5], wr := [4], outs := [(.ret, ⟨[(6, (.av (.one (.const (.bool false)))))], [(.keep, false), (.keep, false), (.keep, false), (.keep, false), (.sh (.arr (.int .u8) none), false), (.dead, false)]⟩), (.exit 0, ⟨[(9, (.av (.one (.const (.slw 6 1)))))], [(.keep, false), (.keep, false), (.keep, false), (.keep, false), (.sh (.arr (.int .u8) none), false), (.dead, false), (.sh (.arr (.int .u8) none), false)]⟩)], its := [.lst (.int .u8), .lst (.int .u8), .lst (.int .u8), .int, .lst (.int .u8), .lst (.int .u8)], ots := [[.lst (.int .u8)], [.lst (.int .u8), .lst (.int .u8)]] }
def granarylaw02_GfThrough_d2 : LD := { ins := ⟨[(2, (.av (.one (.rsl (.int .u8))))), (11, (.av (.one (.const (.slw 9 1))))), (13, (.av (.one (.int .i64))))], [(.keep, false), (.keep, false), (.keep, false), (.keep, false), (.keep, false), (.keep, false), (.keep, false), (.keep, false), (.keep, false), (.sh (.arr (.int .u8) none), false)]⟩, mov := [], wr := [9], outs := [(.ret, ⟨[(6, (.av (.one (.const (.bool false)))))], [(.keep, false), (.keep, false), (.keep, false), (.keep, false), (.keep, false), (.keep, false), (.keep, false), (.keep, false), (.keep, false), (.sh (.arr (.int .u8) none), false)]⟩), (.exit 2, ⟨[], [(.keep, false), (.keep, false), (.keep, false), (.keep, false), (.keep, false), (.keep, false), (.keep, false), (.keep, false), (.keep, false), (.sh (.arr (.int .u8) none), false)]⟩)], its := [.lst (.int .u8), .int, .lst (.int .u8)], ots := [[.lst (.int .u8)], [.lst (.int .u8)]] }
noncomputable def granarylaw02_GfThrough_J (N : Nat) : Nat → Hint := fun cx => hintOf cx [(0, { reg := fun k => assoc0 k [(1, ⟨⟨[(27, (.av (.one .bool)))], []⟩, [], [], [.bool]⟩), (18, ⟨⟨[(99, (.av (.one .bool)))], [(.keep, false), (.keep, false), (.keep, false), (.keep, false), (.keep, false), (.dead, false), (.keep, false), (.keep, false), (.keep, false), (.keep, false)]⟩, [], [], [.bool]⟩)], cnd := fun k => assoc0 k [(109, ⟨[], [], [(.normal, ⟨[(14, (.av (.one (.int .u8))))], [(.dead, false), (.dead, false), (.dead, false), (.dead, false), (.dead, false), (.dead, false), (.dead, false), (.dead, false), (.dead, false), (.keep, false)]⟩)], [[.int]]⟩)], loop := fun k => assoc0 k [(0, ⟨granarylaw02_GfThrough_d0, loopF (granarylaw02_GfThrough_b0 N) N⟩), (2, ⟨granarylaw02_GfThrough_d2, loopF (granarylaw02_GfThrough_b2 N) N⟩)], nil := fun k => assoc0 k [], unr := fun k => assocN k [], blk := fun k => assoc0 k [] })]
noncomputable def granarylaw02_GfThrough_C (N : Nat) : Nat → List GS := fun k => tabOf k [(16, [granarylaw02_live_g N]), (39, [gf_Through_g N]), (15, [granarylaw02_num_g N]), (40, [gf_Eval_g N])]
def granarylaw02_GfThrough_o : List (Shp × List Nat) := [(⟨[(0, (.av (.one .bool)))], []⟩, [])]
noncomputable def granarylaw02_GfThrough_g (N : Nat) : GS := { ins := ⟨[(0, (.av (.one (.rsl (.int .u8))))), (1, (.av (.one (.rsl (.int .u8))))), (2, (.av (.one (.rsl (.int .u8)))))], []⟩, lend := [.keep, .keep, .keep], outs := granarylaw02_GfThrough_o.map fun s => ssOf s.1, its := [.lst (.int .u8), .lst (.int .u8), .lst (.int .u8)], ots := [[.bool]], F := granarylaw02_GfThrough N }
noncomputable def granarylaw02_GfThrough_CA (N : Nat) (f0 : Unit → Option (Bool)) (f1 : (List Int) × (List Int) → Option (Int × (List Int))) (f2 : Int → Option (Int)) (f3 : (List Int) × Int → Option (Int)) : Nat → List GS := fun k => tabOf k [(16, [{ granarylaw02_live_g N with F := f0 }]), (39, [{ gf_Through_g N with F := f1 }]), (15, [{ granarylaw02_num_g N with F := f2 }]), (40, [{ gf_Eval_g N with F := f3 }])]
theorem granarylaw02_GfThrough_CE (N : Nat) : granarylaw02_GfThrough_CA N (granarylaw02_live N) (gf_Through N) (granarylaw02_num) (gf_Eval N) = granarylaw02_GfThrough_C N := by kernel_rfl
theorem granarylaw02_GfThrough_t (N : Nat) : TabC Try.prog (granarylaw02_GfThrough_C N) := tab_ok ⟨⟨granarylaw02_live_ok N, trivial⟩, ⟨gf_Through_ok N, trivial⟩, ⟨granarylaw02_num_ok N, trivial⟩, ⟨gf_Eval_ok N, trivial⟩, trivial⟩
theorem granarylaw02_GfThrough_i0 : loopsOf granarylaw02_GfThrough_c0 = [] := by kernel_rfl
noncomputable def granarylaw02_GfThrough_a0 (N : Nat) (f0 : Unit → Option (Bool)) (f1 : (List Int) × (List Int) → Option (Int × (List Int))) (f2 : Int → Option (Int)) (f3 : (List Int) × Int → Option (Int)) (next : (List Int) × (List Int) × (List Int) × Int × (List Int) × (List Int) → Option (((List Int)) ⊕ ((List Int) × (List Int)))) (x : (List Int) × (List Int) × (List Int) × Int × (List Int) × (List Int)) : Option (((List Int)) ⊕ ((List Int) × (List Int))) :=
  (cond (decide (x.2.2.2.1 < (((List.length x.1) : Nat) : Int)))
  (cond ((decide ((0 : Int) ≤ x.2.2.2.1)) && (decide (x.2.2.2.1 < (((List.length x.1) : Nat) : Int))))
  ((Option.bind (f3 (x.2.2.2.2.1, (List.getD x.1 (Int.toNat x.2.2.2.1) (EK.dflt (.int .u8))))) fun r4 =>
  (cond ((decide ((0 : Int) ≤ x.2.2.2.1)) && (decide (x.2.2.2.1 < (((List.length x.2.1) : Nat) : Int))))
  ((cond (!(decide (r4 = (List.getD x.2.1 (Int.toNat x.2.2.2.1) (EK.dflt (.int .u8))))))
  (some (.inl x.2.2.2.2.1))
  (cond (fits 1 (List.length x.2.2.1))
  ((cond ((decide ((0 : Int) ≤ x.2.2.2.1)) && (decide (x.2.2.2.1 < (((List.length x.1) : Nat) : Int))))
  ((Option.bind (f3 (x.2.2.1, (List.getD x.1 (Int.toNat x.2.2.2.1) (EK.dflt (.int .u8))))) fun r9 =>
  (let v10 : List Int := ([r9] : List Int)
  (cond ((decide (1 ≤ (List.length v10))) && (fits 1 ((List.length x.2.2.2.2.2) + (List.length (List.take 1 (List.drop 0 v10))))))
  ((next (x.1, x.2.1, x.2.2.1, (wrapF .i64 (x.2.2.2.1 + (1 : Int))), x.2.2.2.2.1, (x.2.2.2.2.2 ++ (List.take 1 (List.drop 0 v10))))))
  none))))
  none))
  none)))
  none)))
  none)
  (some (.inr ((x.2.2.2.2.1, x.2.2.2.2.2)))))
theorem granarylaw02_GfThrough_f0 (N : Nat) (f0 : Unit → Option (Bool)) (f1 : (List Int) × (List Int) → Option (Int × (List Int))) (f2 : Int → Option (Int)) (f3 : (List Int) × Int → Option (Int)) (next) (x) : granarylaw02_GfThrough_a0 N f0 f1 f2 f3 next x = loopStep Γ (granarylaw02_GfThrough_CA N f0 f1 f2 f3) (granarylaw02_GfThrough_J N) 0 121 granarylaw02_GfThrough_d0 granarylaw02_GfThrough_c0 next x := by kernel_rfl
theorem granarylaw02_GfThrough_e0 (N : Nat) (next) (x) : granarylaw02_GfThrough_b0 N next x = loopStep Γ (granarylaw02_GfThrough_C N) (granarylaw02_GfThrough_J N) 0 121 granarylaw02_GfThrough_d0 granarylaw02_GfThrough_c0 next x := by
  rw [← granarylaw02_GfThrough_CE N]
  exact Eq.trans (by kernel_rfl) (granarylaw02_GfThrough_f0 N (granarylaw02_live N) (gf_Through N) (granarylaw02_num) (gf_Eval N) next x)
theorem granarylaw02_GfThrough_k0 (N : Nat) : LoopOK Try.prog 121 granarylaw02_GfThrough_c0 ⟨granarylaw02_GfThrough_d0, loopF (granarylaw02_GfThrough_b0 N) N⟩ := loop_ok tabOK (granarylaw02_GfThrough_t N) mixedOK (J := granarylaw02_GfThrough_J N) (cx := 0) (body := granarylaw02_GfThrough_c0) (nt := 121) (l := granarylaw02_GfThrough_d0) (b := granarylaw02_GfThrough_b0 N) (jok_from granarylaw02_GfThrough_i0 ⟨trivial, trivial⟩) (granarylaw02_GfThrough_e0 N) N
theorem granarylaw02_GfThrough_i2 : loopsOf granarylaw02_GfThrough_c2 = [] := by kernel_rfl
noncomputable def granarylaw02_GfThrough_a2 (N : Nat) (f0 : Unit → Option (Bool)) (f1 : (List Int) × (List Int) → Option (Int × (List Int))) (f2 : Int → Option (Int)) (f3 : (List Int) × Int → Option (Int)) (next : (List Int) × Int × (List Int) → Option (((List Int)) ⊕ ((List Int)))) (x : (List Int) × Int × (List Int)) : Option (((List Int)) ⊕ ((List Int))) :=
  (cond (decide (x.2.1 < (((List.length x.2.2) : Nat) : Int)))
  (Option.bind
  (cond (decide (x.2.1 < (((List.length x.1) : Nat) : Int)))
  (cond ((decide ((0 : Int) ≤ x.2.1)) && (decide (x.2.1 < (((List.length x.1) : Nat) : Int))))
  ((some (List.getD x.1 (Int.toNat x.2.1) (EK.dflt (.int .u8)))))
  none)
  (some (0 : Int)))
  fun r6 =>
  (cond ((decide ((0 : Int) ≤ x.2.1)) && (decide (x.2.1 < (((List.length x.2.2) : Nat) : Int))))
  ((let v7 : Nat := (Int.toNat x.2.1)
  (cond (decide (v7 < (List.length x.2.2)))
  ((cond (!(decide ((List.getD x.2.2 v7 (EK.dflt (.int .u8))) = r6)))
  (some (.inl x.2.2))
  (next (x.1, (wrapF .i64 (x.2.1 + (1 : Int))), x.2.2))))
  none)))
  none))
  (some (.inr (x.2.2))))
theorem granarylaw02_GfThrough_f2 (N : Nat) (f0 : Unit → Option (Bool)) (f1 : (List Int) × (List Int) → Option (Int × (List Int))) (f2 : Int → Option (Int)) (f3 : (List Int) × Int → Option (Int)) (next) (x) : granarylaw02_GfThrough_a2 N f0 f1 f2 f3 next x = loopStep Γ (granarylaw02_GfThrough_CA N f0 f1 f2 f3) (granarylaw02_GfThrough_J N) 0 121 granarylaw02_GfThrough_d2 granarylaw02_GfThrough_c2 next x := by kernel_rfl
theorem granarylaw02_GfThrough_e2 (N : Nat) (next) (x) : granarylaw02_GfThrough_b2 N next x = loopStep Γ (granarylaw02_GfThrough_C N) (granarylaw02_GfThrough_J N) 0 121 granarylaw02_GfThrough_d2 granarylaw02_GfThrough_c2 next x := by
  rw [← granarylaw02_GfThrough_CE N]
  exact Eq.trans (by kernel_rfl) (granarylaw02_GfThrough_f2 N (granarylaw02_live N) (gf_Through N) (granarylaw02_num) (gf_Eval N) next x)
theorem granarylaw02_GfThrough_k2 (N : Nat) : LoopOK Try.prog 121 granarylaw02_GfThrough_c2 ⟨granarylaw02_GfThrough_d2, loopF (granarylaw02_GfThrough_b2 N) N⟩ := loop_ok tabOK (granarylaw02_GfThrough_t N) mixedOK (J := granarylaw02_GfThrough_J N) (cx := 0) (body := granarylaw02_GfThrough_c2) (nt := 121) (l := granarylaw02_GfThrough_d2) (b := granarylaw02_GfThrough_b2 N) (jok_from granarylaw02_GfThrough_i2 ⟨trivial, trivial⟩) (granarylaw02_GfThrough_e2 N) N
theorem granarylaw02_GfThrough_i : loopsOf granarylaw02_GfThrough_c = [(0, granarylaw02_GfThrough_c0), (2, granarylaw02_GfThrough_c2)] := by kernel_rfl
noncomputable def granarylaw02_GfThrough_a (N : Nat) (f0 : Unit → Option (Bool)) (f1 : (List Int) × (List Int) → Option (Int × (List Int))) (f2 : Int → Option (Int)) (f3 : (List Int) × Int → Option (Int)) (x : (List Int) × (List Int) × (List Int)) : Option (Bool) :=
  (Option.bind
  (cond (decide ((60 : Int) < (((List.length x.1) : Nat) : Int)))
  (some true)
  (cond (decide ((60 : Int) < (((List.length x.2.1) : Nat) : Int)))
  (some true)
  (some (decide ((60 : Int) < (((List.length x.2.2) : Nat) : Int))))))
  fun r7 =>
  (cond r7
  (Option.bind (f0 ()) fun r8 =>
  (some r8))
  (cond (fits 1 (List.length x.1))
  ((cond (fits 1 (List.length x.2.1))
  ((Option.bind (f1 (x.1, x.2.1)) fun r11 =>
  (Option.bind (f2 r11.1) fun r12 =>
  (cond (!(decide (r12 = (0 : Int))))
  (Option.bind (f0 ()) fun r14 =>
  (some r14))
  (cond (!(decide ((((List.length r11.2) : Nat) : Int) = (((List.length x.1) : Nat) : Int))))
  (some false)
  (Option.bind (granarylaw02_GfThrough_l0 N (x.1, x.2.1, x.2.2, (0 : Int), r11.2, ([] : List Int))) fun r18 =>
  (match r18 with
  | .inl y19 =>
  (some false)
  | .inr z20 =>
  (cond (decide ((((List.length x.1) : Nat) : Int) < (((List.length x.2.2) : Nat) : Int)))
  (Option.bind (f0 ()) fun r24 =>
  (some r24))
  (cond (fits 1 (List.length x.1))
  ((Option.bind (f1 (x.1, z20.2)) fun r26 =>
  (Option.bind
  (Option.bind (f2 r26.1) fun r27 =>
  (cond (!(decide (r27 = (0 : Int))))
  (some true)
  (some (!(decide ((((List.length r26.2) : Nat) : Int) = (((List.length x.1) : Nat) : Int)))))))
  fun r32 =>
  (cond r32
  (some false)
  (Option.bind (granarylaw02_GfThrough_l2 N (x.2.2, (0 : Int), r26.2)) fun r33 =>
  (match r33 with
  | .inl y34 =>
  (some false)
  | .inr z35 =>
  (Option.bind (f0 ()) fun r36 =>
  (some r36))))))))
  none)))))))))
  none))
  none)))
theorem granarylaw02_GfThrough_f (N : Nat) (f0 : Unit → Option (Bool)) (f1 : (List Int) × (List Int) → Option (Int × (List Int))) (f2 : Int → Option (Int)) (f3 : (List Int) × Int → Option (Int)) (x) : granarylaw02_GfThrough_a N f0 f1 f2 f3 x = fnStep Γ (granarylaw02_GfThrough_CA N f0 f1 f2 f3) (granarylaw02_GfThrough_J N) 121 Try.f8.results.toList (granarylaw02_GfThrough_g N) granarylaw02_GfThrough_o granarylaw02_GfThrough_c x := by kernel_rfl
theorem granarylaw02_GfThrough_e (N : Nat) (x) : (granarylaw02_GfThrough_g N).F x = fnStep Γ (granarylaw02_GfThrough_C N) (granarylaw02_GfThrough_J N) 121 Try.f8.results.toList (granarylaw02_GfThrough_g N) granarylaw02_GfThrough_o granarylaw02_GfThrough_c x := by
  rw [← granarylaw02_GfThrough_CE N]
  exact Eq.trans (by kernel_rfl) (granarylaw02_GfThrough_f N (granarylaw02_live N) (gf_Through N) (granarylaw02_num) (gf_Eval N) x)
theorem granarylaw02_GfThrough_y : Try.f8.body = some granarylaw02_GfThrough_c := by kernel_rfl
theorem granarylaw02_GfThrough_n : (Try.f8.name == "runtime.NumGoroutine") = false := by kernel_rfl
theorem granarylaw02_GfThrough_ok (N : Nat) : FnDoes Try.prog 8 (granarylaw02_GfThrough_g N) := fn_ok tabOK (granarylaw02_GfThrough_t N) mixedOK (J := granarylaw02_GfThrough_J N) (body := granarylaw02_GfThrough_c) Try.func8 granarylaw02_GfThrough_y granarylaw02_GfThrough_n Try.ntmps8 (jok_from granarylaw02_GfThrough_i ⟨⟨.inr ⟨_, rfl, granarylaw02_GfThrough_k0 N⟩, .inr ⟨_, rfl, granarylaw02_GfThrough_k2 N⟩, trivial⟩, trivial⟩) rfl rfl (le_of_ble rfl) (granarylaw02_GfThrough_e N)
end Go.Rf.W
