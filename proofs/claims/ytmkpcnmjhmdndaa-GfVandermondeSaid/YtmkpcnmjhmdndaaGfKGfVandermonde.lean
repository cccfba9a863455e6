/-
  The law's printed function is what the program does.
-/
import Derived.Test.YtmkpcnmjhmdndaaGfK2
import Derived.Test.YtmkpcnmjhmdndaaGfFGfVandermonde
set_option linter.unusedVariables false
set_option maxRecDepth 100000
namespace Go.Rf.W
open Go Go.Rf Go.Proofs
noncomputable def granarylaw02_GfVandermonde_c : Code := codeOf Try.f9.body
noncomputable def granarylaw02_GfVandermonde_c0 : Code := codeOf (getLoop 0 granarylaw02_GfVandermonde_c)
noncomputable def granarylaw02_GfVandermonde_c2 : Code := codeOf (getLoop 2 granarylaw02_GfVandermonde_c)
def granarylaw02_GfVandermonde_d2 : LD := { ins := ⟨[(0, (.av (.one (.rsl (.int .i64))))), (3, (.av (.one (.int .i64)))), (4, (.av (.one (.int .i64))))], []⟩, mov := [], wr := [], outs := [(.ret, ⟨[(2, (.av (.one .bool)))], []⟩), (.exit 2, ⟨[], []⟩)], its := [.lst (.int .i64), .int, .int], ots := [[.bool], []] }
def granarylaw02_GfVandermonde_d0 : LD := { ins := ⟨[(0, (.av (.one (.rsl (.int .i64))))), (3, (.av (.one (.int .i64))))], []⟩, mov := [], wr := [], outs := [(.ret, ⟨[(2, (.av (.one .bool)))], []⟩), (.exit 0, ⟨[], []⟩)], its := [.lst (.int .i64), .int], ots := [[.bool], []] }
noncomputable def granarylaw02_GfVandermonde_J (N : Nat) : Nat → Hint := fun cx => hintOf cx [(0, { reg := fun k => assoc0 k [(1, ⟨⟨[(24, (.av (.one .bool)))], []⟩, [], [], [.bool]⟩), (6, ⟨⟨[(43, (.av (.one .bool)))], []⟩, [], [], [.bool]⟩), (19, ⟨⟨[(2, (.av (.one .bool)))], [(.keep, false), (.keep, true), (.keep, true), (.keep, false), (.keep, false), (.keep, false), (.keep, false), (.keep, true), (.keep, true), (.keep, false), (.keep, false), (.keep, true), (.keep, true), (.keep, false), (.keep, false), (.keep, true), (.keep, true), (.keep, false), (.keep, false), (.keep, true), (.keep, true), (.keep, false)]⟩, [], [], [.bool]⟩)], cnd := fun k => assoc0 k [], loop := fun k => assoc0 k [(2, ⟨granarylaw02_GfVandermonde_d2, loopF (granarylaw02_GfVandermonde_b2 N) N⟩), (0, ⟨granarylaw02_GfVandermonde_d0, loopF (granarylaw02_GfVandermonde_b0 N) N⟩)], nil := fun k => assoc0 k [], unr := fun k => assocN k [], blk := fun k => assoc0 k [] })]
noncomputable def granarylaw02_GfVandermonde_C (N : Nat) : Nat → List GS := fun k => tabOf k [(16, [granarylaw02_live_g N]), (19, [gf_Powers_g N]), (41, [gf_Rows_g N]), (37, [gf_Inverse_g N]), (36, [gf_Product_g N]), (18, [granaryref02_Identity_g N]), (33, [gf_Rank_g N]), (15, [granarylaw02_num_g N]), (38, [granaryref02_Same_g N])]
def granarylaw02_GfVandermonde_o : List (Shp × List Nat) := [(⟨[(0, (.av (.one .bool)))], []⟩, [])]
noncomputable def granarylaw02_GfVandermonde_g (N : Nat) : GS := { ins := ⟨[(0, (.av (.one (.rsl (.int .i64)))))], []⟩, lend := [.keep], outs := granarylaw02_GfVandermonde_o.map fun s => ssOf s.1, its := [.lst (.int .i64)], ots := [[.bool]], F := granarylaw02_GfVandermonde N }
noncomputable def granarylaw02_GfVandermonde_CA (N : Nat) (f0 : Unit → Option (Bool)) (f1 : Int × Int → Option (Int × Int × Int × (List Int))) (f2 : Int × Int × (List Int) × (List Int) → Option (Int × Int × Int × (List Int))) (f3 : Int × Int × (List Int) → Option (Int × Int × Int × (List Int))) (f4 : Int × Int × (List Int) × Int × Int × (List Int) → Option (Int × Int × Int × (List Int))) (f5 : Int → Option (Int × Int × Int × (List Int))) (f6 : Int × Int × (List Int) → Option (Int × Int)) (f7 : Int → Option (Int)) (f8 : Int × Int × (List Int) × Int × Int × (List Int) → Option (Bool)) : Nat → List GS := fun k => tabOf k [(16, [{ granarylaw02_live_g N with F := f0 }]), (19, [{ gf_Powers_g N with F := f1 }]), (41, [{ gf_Rows_g N with F := f2 }]), (37, [{ gf_Inverse_g N with F := f3 }]), (36, [{ gf_Product_g N with F := f4 }]), (18, [{ granaryref02_Identity_g N with F := f5 }]), (33, [{ gf_Rank_g N with F := f6 }]), (15, [{ granarylaw02_num_g N with F := f7 }]), (38, [{ granaryref02_Same_g N with F := f8 }])]
theorem granarylaw02_GfVandermonde_CE (N : Nat) : granarylaw02_GfVandermonde_CA N (granarylaw02_live N) (gf_Powers N) (gf_Rows N) (gf_Inverse N) (gf_Product N) (granaryref02_Identity N) (gf_Rank N) (granarylaw02_num) (granaryref02_Same) = granarylaw02_GfVandermonde_C N := by kernel_rfl
theorem granarylaw02_GfVandermonde_t (N : Nat) : TabC Try.prog (granarylaw02_GfVandermonde_C N) := tab_ok ⟨⟨granarylaw02_live_ok N, trivial⟩, ⟨gf_Powers_ok N, trivial⟩, ⟨gf_Rows_ok N, trivial⟩, ⟨gf_Inverse_ok N, trivial⟩, ⟨gf_Product_ok N, trivial⟩, ⟨granaryref02_Identity_ok N, trivial⟩, ⟨gf_Rank_ok N, trivial⟩, ⟨granarylaw02_num_ok N, trivial⟩, ⟨granaryref02_Same_ok N, trivial⟩, trivial⟩
theorem granarylaw02_GfVandermonde_i2 : loopsOf granarylaw02_GfVandermonde_c2 = [] := by kernel_rfl
noncomputable def granarylaw02_GfVandermonde_a2 (N : Nat) (f0 : Unit → Option (Bool)) (f1 : Int × Int → Option (Int × Int × Int × (List Int))) (f2 : Int × Int × (List Int) × (List Int) → Option (Int × Int × Int × (List Int))) (f3 : Int × Int × (List Int) → Option (Int × Int × Int × (List Int))) (f4 : Int × Int × (List Int) × Int × Int × (List Int) → Option (Int × Int × Int × (List Int))) (f5 : Int → Option (Int × Int × Int × (List Int))) (f6 : Int × Int × (List Int) → Option (Int × Int)) (f7 : Int → Option (Int)) (f8 : Int × Int × (List Int) × Int × Int × (List Int) → Option (Bool)) (next : (List Int) × Int × Int → Option (Bool ⊕ Unit)) (x : (List Int) × Int × Int) : Option (Bool ⊕ Unit) :=
  (cond (decide (x.2.2 < x.2.1))
  (cond ((decide ((0 : Int) ≤ x.2.2)) && (decide (x.2.2 < (((List.length x.1) : Nat) : Int))))
  ((cond ((decide ((0 : Int) ≤ x.2.1)) && (decide (x.2.1 < (((List.length x.1) : Nat) : Int))))
  ((cond (decide ((List.getD x.1 (Int.toNat x.2.2) (EK.dflt (.int .i64))) = (List.getD x.1 (Int.toNat x.2.1) (EK.dflt (.int .i64)))))
  (Option.bind (f0 ()) fun r5 =>
  (some (.inl r5)))
  (next (x.1, x.2.1, (wrapF .i64 (x.2.2 + (1 : Int)))))))
  none))
  none)
  (some (.inr (()))))
theorem granarylaw02_GfVandermonde_f2 (N : Nat) (f0 : Unit → Option (Bool)) (f1 : Int × Int → Option (Int × Int × Int × (List Int))) (f2 : Int × Int × (List Int) × (List Int) → Option (Int × Int × Int × (List Int))) (f3 : Int × Int × (List Int) → Option (Int × Int × Int × (List Int))) (f4 : Int × Int × (List Int) × Int × Int × (List Int) → Option (Int × Int × Int × (List Int))) (f5 : Int → Option (Int × Int × Int × (List Int))) (f6 : Int × Int × (List Int) → Option (Int × Int)) (f7 : Int → Option (Int)) (f8 : Int × Int × (List Int) × Int × Int × (List Int) → Option (Bool)) (next) (x) : granarylaw02_GfVandermonde_a2 N f0 f1 f2 f3 f4 f5 f6 f7 f8 next x = loopStep Γ (granarylaw02_GfVandermonde_CA N f0 f1 f2 f3 f4 f5 f6 f7 f8) (granarylaw02_GfVandermonde_J N) 0 133 granarylaw02_GfVandermonde_d2 granarylaw02_GfVandermonde_c2 next x := by kernel_rfl
theorem granarylaw02_GfVandermonde_e2 (N : Nat) (next) (x) : granarylaw02_GfVandermonde_b2 N next x = loopStep Γ (granarylaw02_GfVandermonde_C N) (granarylaw02_GfVandermonde_J N) 0 133 granarylaw02_GfVandermonde_d2 granarylaw02_GfVandermonde_c2 next x := by
  rw [← granarylaw02_GfVandermonde_CE N]
  exact Eq.trans (by kernel_rfl) (granarylaw02_GfVandermonde_f2 N (granarylaw02_live N) (gf_Powers N) (gf_Rows N) (gf_Inverse N) (gf_Product N) (granaryref02_Identity N) (gf_Rank N) (granarylaw02_num) (granaryref02_Same) next x)
theorem granarylaw02_GfVandermonde_k2 (N : Nat) : LoopOK Try.prog 133 granarylaw02_GfVandermonde_c2 ⟨granarylaw02_GfVandermonde_d2, loopF (granarylaw02_GfVandermonde_b2 N) N⟩ := loop_ok tabOK (granarylaw02_GfVandermonde_t N) mixedOK (J := granarylaw02_GfVandermonde_J N) (cx := 0) (body := granarylaw02_GfVandermonde_c2) (nt := 133) (l := granarylaw02_GfVandermonde_d2) (b := granarylaw02_GfVandermonde_b2 N) (jok_from granarylaw02_GfVandermonde_i2 ⟨trivial, trivial⟩) (granarylaw02_GfVandermonde_e2 N) N
theorem granarylaw02_GfVandermonde_i0 : loopsOf granarylaw02_GfVandermonde_c0 = [(2, granarylaw02_GfVandermonde_c2)] := by kernel_rfl
noncomputable def granarylaw02_GfVandermonde_a0 (N : Nat) (f0 : Unit → Option (Bool)) (f1 : Int × Int → Option (Int × Int × Int × (List Int))) (f2 : Int × Int × (List Int) × (List Int) → Option (Int × Int × Int × (List Int))) (f3 : Int × Int × (List Int) → Option (Int × Int × Int × (List Int))) (f4 : Int × Int × (List Int) × Int × Int × (List Int) → Option (Int × Int × Int × (List Int))) (f5 : Int → Option (Int × Int × Int × (List Int))) (f6 : Int × Int × (List Int) → Option (Int × Int)) (f7 : Int → Option (Int)) (f8 : Int × Int × (List Int) × Int × Int × (List Int) → Option (Bool)) (next : (List Int) × Int → Option (Bool ⊕ Unit)) (x : (List Int) × Int) : Option (Bool ⊕ Unit) :=
  (cond (decide (x.2 < (((List.length x.1) : Nat) : Int)))
  (Option.bind
  (cond ((decide ((0 : Int) ≤ x.2)) && (decide (x.2 < (((List.length x.1) : Nat) : Int))))
  ((cond (decide ((List.getD x.1 (Int.toNat x.2) (EK.dflt (.int .i64))) < (0 : Int)))
  (some true)
  (cond ((decide ((0 : Int) ≤ x.2)) && (decide (x.2 < (((List.length x.1) : Nat) : Int))))
  ((some (decide ((64 : Int) ≤ (List.getD x.1 (Int.toNat x.2) (EK.dflt (.int .i64)))))))
  none)))
  none)
  fun r7 =>
  (cond r7
  (Option.bind (f0 ()) fun r8 =>
  (some (.inl r8)))
  (Option.bind (granarylaw02_GfVandermonde_l2 N (x.1, x.2, (0 : Int))) fun r9 =>
  (match r9 with
  | .inl y10 =>
  (some (.inl y10))
  | .inr z11 =>
  (next (x.1, (wrapF .i64 (x.2 + (1 : Int)))))))))
  (some (.inr (()))))
theorem granarylaw02_GfVandermonde_f0 (N : Nat) (f0 : Unit → Option (Bool)) (f1 : Int × Int → Option (Int × Int × Int × (List Int))) (f2 : Int × Int × (List Int) × (List Int) → Option (Int × Int × Int × (List Int))) (f3 : Int × Int × (List Int) → Option (Int × Int × Int × (List Int))) (f4 : Int × Int × (List Int) × Int × Int × (List Int) → Option (Int × Int × Int × (List Int))) (f5 : Int → Option (Int × Int × Int × (List Int))) (f6 : Int × Int × (List Int) → Option (Int × Int)) (f7 : Int → Option (Int)) (f8 : Int × Int × (List Int) × Int × Int × (List Int) → Option (Bool)) (next) (x) : granarylaw02_GfVandermonde_a0 N f0 f1 f2 f3 f4 f5 f6 f7 f8 next x = loopStep Γ (granarylaw02_GfVandermonde_CA N f0 f1 f2 f3 f4 f5 f6 f7 f8) (granarylaw02_GfVandermonde_J N) 0 133 granarylaw02_GfVandermonde_d0 granarylaw02_GfVandermonde_c0 next x := by kernel_rfl
theorem granarylaw02_GfVandermonde_e0 (N : Nat) (next) (x) : granarylaw02_GfVandermonde_b0 N next x = loopStep Γ (granarylaw02_GfVandermonde_C N) (granarylaw02_GfVandermonde_J N) 0 133 granarylaw02_GfVandermonde_d0 granarylaw02_GfVandermonde_c0 next x := by
  rw [← granarylaw02_GfVandermonde_CE N]
  exact Eq.trans (by kernel_rfl) (granarylaw02_GfVandermonde_f0 N (granarylaw02_live N) (gf_Powers N) (gf_Rows N) (gf_Inverse N) (gf_Product N) (granaryref02_Identity N) (gf_Rank N) (granarylaw02_num) (granaryref02_Same) next x)
theorem granarylaw02_GfVandermonde_k0 (N : Nat) : LoopOK Try.prog 133 granarylaw02_GfVandermonde_c0 ⟨granarylaw02_GfVandermonde_d0, loopF (granarylaw02_GfVandermonde_b0 N) N⟩ := loop_ok tabOK (granarylaw02_GfVandermonde_t N) mixedOK (J := granarylaw02_GfVandermonde_J N) (cx := 0) (body := granarylaw02_GfVandermonde_c0) (nt := 133) (l := granarylaw02_GfVandermonde_d0) (b := granarylaw02_GfVandermonde_b0 N) (jok_from granarylaw02_GfVandermonde_i0 ⟨⟨.inr ⟨_, rfl, granarylaw02_GfVandermonde_k2 N⟩, trivial⟩, trivial⟩) (granarylaw02_GfVandermonde_e0 N) N
theorem granarylaw02_GfVandermonde_i : loopsOf granarylaw02_GfVandermonde_c = [(0, granarylaw02_GfVandermonde_c0), (2, granarylaw02_GfVandermonde_c2)] := by kernel_rfl
noncomputable def granarylaw02_GfVandermonde_a (N : Nat) (f0 : Unit → Option (Bool)) (f1 : Int × Int → Option (Int × Int × Int × (List Int))) (f2 : Int × Int × (List Int) × (List Int) → Option (Int × Int × Int × (List Int))) (f3 : Int × Int × (List Int) → Option (Int × Int × Int × (List Int))) (f4 : Int × Int × (List Int) × Int × Int × (List Int) → Option (Int × Int × Int × (List Int))) (f5 : Int → Option (Int × Int × Int × (List Int))) (f6 : Int × Int × (List Int) → Option (Int × Int)) (f7 : Int → Option (Int)) (f8 : Int × Int × (List Int) × Int × Int × (List Int) → Option (Bool)) (x : (List Int)) : Option (Bool) :=
  (Option.bind
  (cond (decide ((((List.length x) : Nat) : Int) < (1 : Int)))
  (some true)
  (some (decide ((16 : Int) < (((List.length x) : Nat) : Int)))))
  fun r5 =>
  (cond r5
  (Option.bind (f0 ()) fun r6 =>
  (some r6))
  (Option.bind (granarylaw02_GfVandermonde_l0 N (x, (0 : Int))) fun r7 =>
  (match r7 with
  | .inl y8 =>
  (some y8)
  | .inr z9 =>
  (Option.bind (f1 ((64 : Int), (((List.length x) : Nat) : Int))) fun r11 =>
  (cond (fits 8 (List.length x))
  ((Option.bind (f2 (r11.1, r11.2.1, r11.2.2.2, x)) fun r13 =>
  (Option.bind (f3 (r13.1, r13.2.1, r13.2.2.2)) fun r14 =>
  (Option.bind (f4 (r13.1, r13.2.1, r13.2.2.2, r14.1, r14.2.1, r14.2.2.2)) fun r15 =>
  (Option.bind (f5 (((List.length x) : Nat) : Int)) fun r17 =>
  (Option.bind (f6 (r13.1, r13.2.1, r13.2.2.2)) fun r18 =>
  (Option.bind
  (Option.bind (f7 r11.2.2.1) fun r19 =>
  (cond (decide (r19 = (0 : Int)))
  (Option.bind (f7 r13.2.2.1) fun r21 =>
  (cond (decide (r21 = (0 : Int)))
  (Option.bind (f7 r14.2.2.1) fun r23 =>
  (cond (decide (r23 = (0 : Int)))
  (Option.bind (f7 r15.2.2.1) fun r25 =>
  (cond (decide (r25 = (0 : Int)))
  (Option.bind (f8 (r15.1, r15.2.1, r15.2.2.2, r17.1, r17.2.1, r17.2.2.2)) fun r27 =>
  (cond r27
  (cond (decide (r18.1 = (((List.length x) : Nat) : Int)))
  (Option.bind (f7 r18.2) fun r30 =>
  (cond (decide (r30 = (0 : Int)))
  (Option.bind (f0 ()) fun r32 =>
  (some r32))
  (some false)))
  (some false))
  (some false)))
  (some false)))
  (some false)))
  (some false)))
  (some false)))
  fun r33 =>
  (some r33))))))))
  none))))))
theorem granarylaw02_GfVandermonde_f (N : Nat) (f0 : Unit → Option (Bool)) (f1 : Int × Int → Option (Int × Int × Int × (List Int))) (f2 : Int × Int × (List Int) × (List Int) → Option (Int × Int × Int × (List Int))) (f3 : Int × Int × (List Int) → Option (Int × Int × Int × (List Int))) (f4 : Int × Int × (List Int) × Int × Int × (List Int) → Option (Int × Int × Int × (List Int))) (f5 : Int → Option (Int × Int × Int × (List Int))) (f6 : Int × Int × (List Int) → Option (Int × Int)) (f7 : Int → Option (Int)) (f8 : Int × Int × (List Int) × Int × Int × (List Int) → Option (Bool)) (x) : granarylaw02_GfVandermonde_a N f0 f1 f2 f3 f4 f5 f6 f7 f8 x = fnStep Γ (granarylaw02_GfVandermonde_CA N f0 f1 f2 f3 f4 f5 f6 f7 f8) (granarylaw02_GfVandermonde_J N) 133 Try.f9.results.toList (granarylaw02_GfVandermonde_g N) granarylaw02_GfVandermonde_o granarylaw02_GfVandermonde_c x := by kernel_rfl
theorem granarylaw02_GfVandermonde_e (N : Nat) (x) : (granarylaw02_GfVandermonde_g N).F x = fnStep Γ (granarylaw02_GfVandermonde_C N) (granarylaw02_GfVandermonde_J N) 133 Try.f9.results.toList (granarylaw02_GfVandermonde_g N) granarylaw02_GfVandermonde_o granarylaw02_GfVandermonde_c x := by
  rw [← granarylaw02_GfVandermonde_CE N]
  exact Eq.trans (by kernel_rfl) (granarylaw02_GfVandermonde_f N (granarylaw02_live N) (gf_Powers N) (gf_Rows N) (gf_Inverse N) (gf_Product N) (granaryref02_Identity N) (gf_Rank N) (granarylaw02_num) (granaryref02_Same) x)
theorem granarylaw02_GfVandermonde_y : Try.f9.body = some granarylaw02_GfVandermonde_c := by kernel_rfl
theorem granarylaw02_GfVandermonde_n : (Try.f9.name == "runtime.NumGoroutine") = false := by kernel_rfl
theorem granarylaw02_GfVandermonde_ok (N : Nat) : FnDoes Try.prog 9 (granarylaw02_GfVandermonde_g N) := fn_ok tabOK (granarylaw02_GfVandermonde_t N) mixedOK (J := granarylaw02_GfVandermonde_J N) (body := granarylaw02_GfVandermonde_c) Try.func9 granarylaw02_GfVandermonde_y granarylaw02_GfVandermonde_n Try.ntmps9 (jok_from granarylaw02_GfVandermonde_i ⟨⟨.inr ⟨_, rfl, granarylaw02_GfVandermonde_k0 N⟩, .inr ⟨_, rfl, granarylaw02_GfVandermonde_k2 N⟩, trivial⟩, trivial⟩) rfl rfl (le_of_ble rfl) (granarylaw02_GfVandermonde_e N)
end Go.Rf.W
