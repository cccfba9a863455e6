/-
  The printed functions are what the program does.
-/
import Derived.Test.YtmkpcnmjhmdndaaGfHEval
set_option linter.unusedVariables false
set_option maxRecDepth 100000
namespace Go.Rf.W
open Go Go.Rf Go.Proofs
noncomputable def gf_Through_c : Code := codeOf Try.f39.body
noncomputable def gf_Through_c0 : Code := codeOf (getLoop 0 gf_Through_c)
noncomputable def gf_Through_c2 : Code := codeOf (getLoop 2 gf_Through_c)
noncomputable def gf_Through_c4 : Code := codeOf (getLoop 4 gf_Through_c)
noncomputable def gf_Through_c6 : Code := codeOf (getLoop 6 gf_Through_c)
def gf_Through_d0 : LD := { ins := ⟨[(0, (.av (.one (.rsl (.int .u8))))), (1, (.av (.one (.rsl (.int .u8))))), (21, (.av (.one (.rsl (.int .u8))))), (22, (.av (.one (.int .i64)))), (23, (.av (.one (.int .i64))))], []⟩, mov := [], wr := [], outs := [(.ret, ⟨[(4, (.av (.one (.const .nils)))), (5, (.av (.one (.const (.int .i64 (21 : Int))))))], []⟩), (.exit 0, ⟨[], []⟩)], its := [.lst (.int .u8), .lst (.int .u8), .lst (.int .u8), .int, .int], ots := [[], []] }
def gf_Through_d4 : LD := { ins := ⟨[(1, (.av (.one (.rsl (.int .u8))))), (8, (.av (.one (.const (.slw 0 1))))), (9, (.av (.one (.const (.slw 1 1))))), (10, (.av (.one (.int .i64)))), (11, (.av (.one (.int .u8)))), (12, (.av (.one (.int .u8)))), (43, (.av (.one (.rsl (.int .u8))))), (44, (.av (.one (.int .i64)))), (45, (.av (.one (.int .i64)))), (69, (.av (.one (.int .i64)))), (70, (.av (.one (.int .i64))))], [(.sh (.arr (.int .u8) none), false), (.sh (.arr (.int .u8) none), false)]⟩, mov := [], wr := [0, 1], outs := [(.exit 4, ⟨[], [(.sh (.arr (.int .u8) none), false), (.sh (.arr (.int .u8) none), false)]⟩)], its := [.lst (.int .u8), .int, .int, .int, .lst (.int .u8), .int, .int, .int, .int, .lst (.int .u8), .lst (.int .u8)], ots := [[.lst (.int .u8), .lst (.int .u8)]] }
def gf_Through_d6 : LD := { ins := ⟨[(1, (.av (.one (.rsl (.int .u8))))), (8, (.av (.one (.const (.slw 0 1))))), (9, (.av (.one (.const (.slw 1 1))))), (11, (.av (.one (.int .u8)))), (15, (.av (.one (.int .i64)))), (43, (.av (.one (.rsl (.int .u8))))), (44, (.av (.one (.int .i64)))), (45, (.av (.one (.int .i64))))], [(.keep, false), (.sh (.arr (.int .u8) none), false)]⟩, mov := [], wr := [1], outs := [(.exit 6, ⟨[], [(.keep, false), (.sh (.arr (.int .u8) none), false)]⟩)], its := [.lst (.int .u8), .int, .int, .lst (.int .u8), .int, .int, .lst (.int .u8)], ots := [[.lst (.int .u8)]] }
def gf_Through_d2 : LD := { ins := ⟨[(1, (.av (.one (.rsl (.int .u8))))), (8, (.av (.one (.const (.slw 0 1))))), (9, (.av (.one (.const (.slw 1 1))))), (43, (.av (.one (.rsl (.int .u8))))), (44, (.av (.one (.int .i64)))), (45, (.av (.one (.int .i64))))], [(.sh (.arr (.int .u8) none), false), (.sh (.arr (.int .u8) none), false)]⟩, mov := [], wr := [0, 1], outs := [(.exit 2, ⟨[], [(.sh (.arr (.int .u8) none), false), (.sh (.arr (.int .u8) none), false)]⟩)], its := [.lst (.int .u8), .lst (.int .u8), .int, .int, .lst (.int .u8), .lst (.int .u8)], ots := [[.lst (.int .u8), .lst (.int .u8)]] }
noncomputable def gf_Through_J (N : Nat) : Nat → Hint := fun cx => hintOf cx [(0, { reg := fun k => assoc0 k [], cnd := fun k => assoc0 k [], loop := fun k => assoc0 k [(0, ⟨gf_Through_d0, loopF (gf_Through_b0 N) N⟩), (4, ⟨gf_Through_d4, loopF (gf_Through_b4 N) N⟩), (6, ⟨gf_Through_d6, loopF (gf_Through_b6 N) N⟩), (2, ⟨gf_Through_d2, loopF (gf_Through_b2 N) N⟩)], nil := fun k => assoc0 k [], unr := fun k => assocN k [], blk := fun k => assoc0 k [] })]
noncomputable def gf_Through_C (N : Nat) : Nat → List GS := fun k => tabOf k [(67, [slices_Contains_byte_byte_g N]), (40, [gf_Eval_g N]), (22, [gf_Div_g N]), (12, [gf_Mul_g N])]
def gf_Through_o : List (Shp × List Nat) := [(⟨[(0, (.tup [(.one (.const (.slw 0 1))), (.one (.int .i64))]))], [(.sh (.arr (.int .u8) none), false)]⟩, [])]
noncomputable def gf_Through_g (N : Nat) : GS := { ins := ⟨[(0, (.av (.one (.rsl (.int .u8))))), (1, (.av (.one (.rsl (.int .u8)))))], []⟩, lend := [.lend (.int .u8), .lend (.int .u8)], outs := gf_Through_o.map fun s => ssOf s.1, its := [.lst (.int .u8), .lst (.int .u8)], ots := [[.int, .lst (.int .u8)]], F := gf_Through N }
noncomputable def gf_Through_CA (N : Nat) (f0 : (List Int) × Int → Option (Bool)) (f1 : (List Int) × Int → Option (Int)) (f2 : Int × Int → Option (Int × Int)) (f3 : Int × Int → Option (Int)) : Nat → List GS := fun k => tabOf k [(67, [{ slices_Contains_byte_byte_g N with F := f0 }]), (40, [{ gf_Eval_g N with F := f1 }]), (22, [{ gf_Div_g N with F := f2 }]), (12, [{ gf_Mul_g N with F := f3 }])]
theorem gf_Through_CE (N : Nat) : gf_Through_CA N (slices_Contains_byte_byte N) (gf_Eval N) (gf_Div N) (gf_Mul N) = gf_Through_C N := by kernel_rfl
theorem gf_Through_t (N : Nat) : TabC Try.prog (gf_Through_C N) := tab_ok ⟨⟨slices_Contains_byte_byte_ok N, trivial⟩, ⟨gf_Eval_ok N, trivial⟩, ⟨gf_Div_ok N, trivial⟩, ⟨gf_Mul_ok N, trivial⟩, trivial⟩
theorem gf_Through_i4 : loopsOf gf_Through_c4 = [] := by kernel_rfl
noncomputable def gf_Through_a4 (N : Nat) (f0 : (List Int) × Int → Option (Bool)) (f1 : (List Int) × Int → Option (Int)) (f2 : Int × Int → Option (Int × Int)) (f3 : Int × Int → Option (Int)) (next : (List Int) × Int × Int × Int × (List Int) × Int × Int × Int × Int × (List Int) × (List Int) → Option (((List Int) × (List Int)))) (x : (List Int) × Int × Int × Int × (List Int) × Int × Int × Int × Int × (List Int) × (List Int)) : Option (((List Int) × (List Int))) :=
  (cond (decide (x.2.2.2.2.2.2.2.2.1 < x.2.2.2.2.2.2.2.1))
  (cond ((decide ((0 : Int) ≤ x.2.2.2.2.2.2.2.2.1)) && (decide (x.2.2.2.2.2.2.2.2.1 < (((List.length x.2.2.2.2.2.2.2.2.2.1) : Nat) : Int))))
  ((let v2 : Nat := (Int.toNat x.2.2.2.2.2.2.2.2.1)
  (cond (decide (v2 < (List.length x.2.2.2.2.2.2.2.2.2.1)))
  ((cond ((decide ((0 : Int) ≤ x.2.2.2.2.2.2.2.2.1)) && (decide (x.2.2.2.2.2.2.2.2.1 < (((List.length x.2.2.2.2.2.2.2.2.2.2) : Nat) : Int))))
  ((let v4 : Nat := (Int.toNat x.2.2.2.2.2.2.2.2.1)
  (cond (decide (v4 < (List.length x.2.2.2.2.2.2.2.2.2.2)))
  ((Option.bind (f3 (x.2.2.2.1, (List.getD x.2.2.2.2.2.2.2.2.2.2 v4 (EK.dflt (.int .u8))))) fun r6 =>
  (cond ((decide ((0 : Int) ≤ x.2.2.2.2.2.2.2.2.1)) && (decide (x.2.2.2.2.2.2.2.2.1 < (((List.length x.2.2.2.2.2.2.2.2.2.1) : Nat) : Int))))
  ((let v8 : Nat := (Int.toNat x.2.2.2.2.2.2.2.2.1)
  (cond (decide (v8 < (List.length x.2.2.2.2.2.2.2.2.2.1)))
  ((next (x.1, x.2.1, x.2.2.1, x.2.2.2.1, x.2.2.2.2.1, x.2.2.2.2.2.1, x.2.2.2.2.2.2.1, x.2.2.2.2.2.2.2.1, (wrapF .i64 (x.2.2.2.2.2.2.2.2.1 + (1 : Int))), (List.set x.2.2.2.2.2.2.2.2.2.1 v8 (xorF .u8 (List.getD x.2.2.2.2.2.2.2.2.2.1 v2 (EK.dflt (.int .u8))) r6)), x.2.2.2.2.2.2.2.2.2.2)))
  none)))
  none)))
  none)))
  none))
  none)))
  none)
  (some (x.2.2.2.2.2.2.2.2.2.1, x.2.2.2.2.2.2.2.2.2.2)))
theorem gf_Through_f4 (N : Nat) (f0 : (List Int) × Int → Option (Bool)) (f1 : (List Int) × Int → Option (Int)) (f2 : Int × Int → Option (Int × Int)) (f3 : Int × Int → Option (Int)) (next) (x) : gf_Through_a4 N f0 f1 f2 f3 next x = loopStep Γ (gf_Through_CA N f0 f1 f2 f3) (gf_Through_J N) 0 116 gf_Through_d4 gf_Through_c4 next x := by kernel_rfl
theorem gf_Through_e4 (N : Nat) (next) (x) : gf_Through_b4 N next x = loopStep Γ (gf_Through_C N) (gf_Through_J N) 0 116 gf_Through_d4 gf_Through_c4 next x := by
  rw [← gf_Through_CE N]
  exact Eq.trans (by kernel_rfl) (gf_Through_f4 N (slices_Contains_byte_byte N) (gf_Eval N) (gf_Div N) (gf_Mul N) next x)
theorem gf_Through_k4 (N : Nat) : LoopOK Try.prog 116 gf_Through_c4 ⟨gf_Through_d4, loopF (gf_Through_b4 N) N⟩ := loop_ok tabOK (gf_Through_t N) mixedOK (J := gf_Through_J N) (cx := 0) (body := gf_Through_c4) (nt := 116) (l := gf_Through_d4) (b := gf_Through_b4 N) (jok_from gf_Through_i4 ⟨trivial, trivial⟩) (gf_Through_e4 N) N
theorem gf_Through_i6 : loopsOf gf_Through_c6 = [] := by kernel_rfl
noncomputable def gf_Through_a6 (N : Nat) (f0 : (List Int) × Int → Option (Bool)) (f1 : (List Int) × Int → Option (Int)) (f2 : Int × Int → Option (Int × Int)) (f3 : Int × Int → Option (Int)) (next : (List Int) × Int × Int × (List Int) × Int × Int × (List Int) → Option (((List Int)))) (x : (List Int) × Int × Int × (List Int) × Int × Int × (List Int)) : Option (((List Int))) :=
  (cond (decide ((0 : Int) < x.2.2.1))
  (let v2 : Int := (wrapF .i64 (x.2.2.1 - (1 : Int)))
  (cond ((decide ((0 : Int) ≤ v2)) && (decide (v2 < (((List.length x.2.2.2.2.2.2) : Nat) : Int))))
  ((let v3 : Nat := (Int.toNat v2)
  (cond (decide (v3 < (List.length x.2.2.2.2.2.2)))
  ((cond ((decide ((0 : Int) ≤ x.2.2.1)) && (decide (x.2.2.1 < (((List.length x.2.2.2.2.2.2) : Nat) : Int))))
  ((let v5 : Nat := (Int.toNat x.2.2.1)
  (cond (decide (v5 < (List.length x.2.2.2.2.2.2)))
  ((Option.bind (f3 ((List.getD x.2.2.2.2.2.2 v5 (EK.dflt (.int .u8))), x.2.1)) fun r7 =>
  (cond ((decide ((0 : Int) ≤ x.2.2.1)) && (decide (x.2.2.1 < (((List.length x.2.2.2.2.2.2) : Nat) : Int))))
  ((let v9 : Nat := (Int.toNat x.2.2.1)
  (cond (decide (v9 < (List.length x.2.2.2.2.2.2)))
  ((next (x.1, x.2.1, (wrapF .i64 (x.2.2.1 - (1 : Int))), x.2.2.2.1, x.2.2.2.2.1, x.2.2.2.2.2.1, (List.set x.2.2.2.2.2.2 v9 (xorF .u8 (List.getD x.2.2.2.2.2.2 v3 (EK.dflt (.int .u8))) r7)))))
  none)))
  none)))
  none)))
  none))
  none)))
  none))
  (some x.2.2.2.2.2.2))
theorem gf_Through_f6 (N : Nat) (f0 : (List Int) × Int → Option (Bool)) (f1 : (List Int) × Int → Option (Int)) (f2 : Int × Int → Option (Int × Int)) (f3 : Int × Int → Option (Int)) (next) (x) : gf_Through_a6 N f0 f1 f2 f3 next x = loopStep Γ (gf_Through_CA N f0 f1 f2 f3) (gf_Through_J N) 0 116 gf_Through_d6 gf_Through_c6 next x := by kernel_rfl
theorem gf_Through_e6 (N : Nat) (next) (x) : gf_Through_b6 N next x = loopStep Γ (gf_Through_C N) (gf_Through_J N) 0 116 gf_Through_d6 gf_Through_c6 next x := by
  rw [← gf_Through_CE N]
  exact Eq.trans (by kernel_rfl) (gf_Through_f6 N (slices_Contains_byte_byte N) (gf_Eval N) (gf_Div N) (gf_Mul N) next x)
theorem gf_Through_k6 (N : Nat) : LoopOK Try.prog 116 gf_Through_c6 ⟨gf_Through_d6, loopF (gf_Through_b6 N) N⟩ := loop_ok tabOK (gf_Through_t N) mixedOK (J := gf_Through_J N) (cx := 0) (body := gf_Through_c6) (nt := 116) (l := gf_Through_d6) (b := gf_Through_b6 N) (jok_from gf_Through_i6 ⟨trivial, trivial⟩) (gf_Through_e6 N) N
theorem gf_Through_i0 : loopsOf gf_Through_c0 = [] := by kernel_rfl
noncomputable def gf_Through_a0 (N : Nat) (f0 : (List Int) × Int → Option (Bool)) (f1 : (List Int) × Int → Option (Int)) (f2 : Int × Int → Option (Int × Int)) (f3 : Int × Int → Option (Int)) (next : (List Int) × (List Int) × (List Int) × Int × Int → Option (Unit ⊕ Unit)) (x : (List Int) × (List Int) × (List Int) × Int × Int) : Option (Unit ⊕ Unit) :=
  (cond (decide (x.2.2.2.2 < x.2.2.2.1))
  (cond ((decide ((0 : Int) ≤ x.2.2.2.2)) && (decide (x.2.2.2.2 < (((List.length x.2.2.1) : Nat) : Int))))
  ((cond ((decide ((0 : Int) ≤ x.2.2.2.2)) && (decide (x.2.2.2.2 ≤ (((List.length x.1) : Nat) : Int))))
  ((Option.bind (f0 ((List.take (Int.toNat x.2.2.2.2) (List.drop 0 x.1)), (List.getD x.2.2.1 (Int.toNat x.2.2.2.2) (EK.dflt (.int .u8))))) fun r4 =>
  (cond r4
  (some (.inl ()))
  (next (x.1, x.2.1, x.2.2.1, x.2.2.2.1, (wrapF .i64 (x.2.2.2.2 + (1 : Int))))))))
  none))
  none)
  (some (.inr (()))))
theorem gf_Through_f0 (N : Nat) (f0 : (List Int) × Int → Option (Bool)) (f1 : (List Int) × Int → Option (Int)) (f2 : Int × Int → Option (Int × Int)) (f3 : Int × Int → Option (Int)) (next) (x) : gf_Through_a0 N f0 f1 f2 f3 next x = loopStep Γ (gf_Through_CA N f0 f1 f2 f3) (gf_Through_J N) 0 116 gf_Through_d0 gf_Through_c0 next x := by kernel_rfl
theorem gf_Through_e0 (N : Nat) (next) (x) : gf_Through_b0 N next x = loopStep Γ (gf_Through_C N) (gf_Through_J N) 0 116 gf_Through_d0 gf_Through_c0 next x := by
  rw [← gf_Through_CE N]
  exact Eq.trans (by kernel_rfl) (gf_Through_f0 N (slices_Contains_byte_byte N) (gf_Eval N) (gf_Div N) (gf_Mul N) next x)
theorem gf_Through_k0 (N : Nat) : LoopOK Try.prog 116 gf_Through_c0 ⟨gf_Through_d0, loopF (gf_Through_b0 N) N⟩ := loop_ok tabOK (gf_Through_t N) mixedOK (J := gf_Through_J N) (cx := 0) (body := gf_Through_c0) (nt := 116) (l := gf_Through_d0) (b := gf_Through_b0 N) (jok_from gf_Through_i0 ⟨trivial, trivial⟩) (gf_Through_e0 N) N
theorem gf_Through_i2 : loopsOf gf_Through_c2 = [(4, gf_Through_c4), (6, gf_Through_c6)] := by kernel_rfl
noncomputable def gf_Through_a2 (N : Nat) (f0 : (List Int) × Int → Option (Bool)) (f1 : (List Int) × Int → Option (Int)) (f2 : Int × Int → Option (Int × Int)) (f3 : Int × Int → Option (Int)) (next : (List Int) × (List Int) × Int × Int × (List Int) × (List Int) → Option (((List Int) × (List Int)))) (x : (List Int) × (List Int) × Int × Int × (List Int) × (List Int)) : Option (((List Int) × (List Int))) :=
  (cond (decide (x.2.2.2.1 < x.2.2.1))
  (cond ((decide ((0 : Int) ≤ x.2.2.2.1)) && (decide (x.2.2.2.1 < (((List.length x.2.1) : Nat) : Int))))
  ((let v2 : Int := (List.getD x.2.1 (Int.toNat x.2.2.2.1) (EK.dflt (.int .u8)))
  (cond ((decide ((0 : Int) ≤ x.2.2.2.1)) && (decide (x.2.2.2.1 < (((List.length x.1) : Nat) : Int))))
  ((Option.bind (f1 (x.2.2.2.2.1, v2)) fun r4 =>
  (let v6 : Int := (wrapF .i64 (x.2.2.2.1 + (1 : Int)))
  (cond ((decide ((0 : Int) ≤ v6)) && (decide (v6 ≤ (((List.length x.2.2.2.2.2) : Nat) : Int))))
  ((let v7 : Nat := (Int.toNat v6)
  (cond (cond (decide ((0 + v7) ≤ (List.length x.2.2.2.2.2))) true false)
  (Option.bind (f1 ((List.take v7 (List.drop 0 x.2.2.2.2.2)), v2)) fun r8 =>
  (Option.bind (f2 ((xorF .u8 (List.getD x.1 (Int.toNat x.2.2.2.1) (EK.dflt (.int .u8))) r4), r8)) fun r9 =>
  (Option.bind (gf_Through_l4 N (x.1, x.2.2.2.1, v2, r9.1, x.2.1, x.2.2.1, x.2.2.2.1, (wrapF .i64 (x.2.2.2.1 + (1 : Int))), (0 : Int), x.2.2.2.2.1, x.2.2.2.2.2)) fun r11 =>
  (Option.bind (gf_Through_l6 N (x.1, v2, (wrapF .i64 (x.2.2.2.1 + (1 : Int))), x.2.1, x.2.2.1, x.2.2.2.1, r11.2)) fun r13 =>
  (cond (decide ((0 : Int) < (((List.length r13) : Nat) : Int)))
  ((cond (decide (0 < (List.length r13)))
  ((Option.bind (f3 ((List.getD r13 0 (EK.dflt (.int .u8))), v2)) fun r15 =>
  (cond (decide ((0 : Int) < (((List.length r13) : Nat) : Int)))
  ((cond (decide (0 < (List.length r13)))
  ((next (x.1, x.2.1, x.2.2.1, (wrapF .i64 (x.2.2.2.1 + (1 : Int))), r11.1, (List.set r13 0 r15))))
  none))
  none)))
  none))
  none)))))
  none)))
  none))))
  none)))
  none)
  (some (x.2.2.2.2.1, x.2.2.2.2.2)))
theorem gf_Through_f2 (N : Nat) (f0 : (List Int) × Int → Option (Bool)) (f1 : (List Int) × Int → Option (Int)) (f2 : Int × Int → Option (Int × Int)) (f3 : Int × Int → Option (Int)) (next) (x) : gf_Through_a2 N f0 f1 f2 f3 next x = loopStep Γ (gf_Through_CA N f0 f1 f2 f3) (gf_Through_J N) 0 116 gf_Through_d2 gf_Through_c2 next x := by kernel_rfl
theorem gf_Through_e2 (N : Nat) (next) (x) : gf_Through_b2 N next x = loopStep Γ (gf_Through_C N) (gf_Through_J N) 0 116 gf_Through_d2 gf_Through_c2 next x := by
  rw [← gf_Through_CE N]
  exact Eq.trans (by kernel_rfl) (gf_Through_f2 N (slices_Contains_byte_byte N) (gf_Eval N) (gf_Div N) (gf_Mul N) next x)
theorem gf_Through_k2 (N : Nat) : LoopOK Try.prog 116 gf_Through_c2 ⟨gf_Through_d2, loopF (gf_Through_b2 N) N⟩ := loop_ok tabOK (gf_Through_t N) mixedOK (J := gf_Through_J N) (cx := 0) (body := gf_Through_c2) (nt := 116) (l := gf_Through_d2) (b := gf_Through_b2 N) (jok_from gf_Through_i2 ⟨⟨.inr ⟨_, rfl, gf_Through_k4 N⟩, .inr ⟨_, rfl, gf_Through_k6 N⟩, trivial⟩, trivial⟩) (gf_Through_e2 N) N
theorem gf_Through_i : loopsOf gf_Through_c = [(0, gf_Through_c0), (2, gf_Through_c2), (4, gf_Through_c4), (6, gf_Through_c6)] := by kernel_rfl
noncomputable def gf_Through_a (N : Nat) (f0 : (List Int) × Int → Option (Bool)) (f1 : (List Int) × Int → Option (Int)) (f2 : Int × Int → Option (Int × Int)) (f3 : Int × Int → Option (Int)) (x : (List Int) × (List Int)) : Option (Int × (List Int)) :=
  (cond (!(decide ((((List.length x.1) : Nat) : Int) = (((List.length x.2) : Nat) : Int))))
  (some ((23 : Int), ([] : List Int)))
  (Option.bind (gf_Through_l0 N (x.1, x.2, x.1, (((List.length x.1) : Nat) : Int), (0 : Int))) fun r5 =>
  (match r5 with
  | .inl y6 =>
  (some ((21 : Int), ([] : List Int)))
  | .inr z7 =>
  (let v8 : Int := (((List.length x.1) : Nat) : Int)
  (cond ((decide ((0 : Int) ≤ v8)) && (fits 1 (Int.toNat v8)))
  ((let v11 : Int := (wrapF .i64 ((((List.length x.1) : Nat) : Int) + (1 : Int)))
  (cond ((decide ((0 : Int) ≤ v11)) && (fits 1 (Int.toNat v11)))
  ((let v12 : List Int := (List.replicate (Int.toNat v11) (EK.dflt (.int .u8)))
  (cond (decide ((0 : Int) < (((List.length v12) : Nat) : Int)))
  ((cond (decide (0 < (List.length v12)))
  ((Option.bind (gf_Through_l2 N (x.2, x.1, (((List.length x.1) : Nat) : Int), (0 : Int), (List.replicate (Int.toNat v8) (EK.dflt (.int .u8))), (List.set v12 0 (1 : Int)))) fun r15 =>
  (some ((0 : Int), r15.1))))
  none))
  none)))
  none)))
  none)))))
theorem gf_Through_f (N : Nat) (f0 : (List Int) × Int → Option (Bool)) (f1 : (List Int) × Int → Option (Int)) (f2 : Int × Int → Option (Int × Int)) (f3 : Int × Int → Option (Int)) (x) : gf_Through_a N f0 f1 f2 f3 x = fnStep Γ (gf_Through_CA N f0 f1 f2 f3) (gf_Through_J N) 116 Try.f39.results.toList (gf_Through_g N) gf_Through_o gf_Through_c x := by kernel_rfl
theorem gf_Through_e (N : Nat) (x) : (gf_Through_g N).F x = fnStep Γ (gf_Through_C N) (gf_Through_J N) 116 Try.f39.results.toList (gf_Through_g N) gf_Through_o gf_Through_c x := by
  rw [← gf_Through_CE N]
  exact Eq.trans (by kernel_rfl) (gf_Through_f N (slices_Contains_byte_byte N) (gf_Eval N) (gf_Div N) (gf_Mul N) x)
theorem gf_Through_y : Try.f39.body = some gf_Through_c := by kernel_rfl
theorem gf_Through_n : (Try.f39.name == "runtime.NumGoroutine") = false := by kernel_rfl
theorem gf_Through_ok (N : Nat) : FnDoes Try.prog 39 (gf_Through_g N) := fn_ok tabOK (gf_Through_t N) mixedOK (J := gf_Through_J N) (body := gf_Through_c) Try.func39 gf_Through_y gf_Through_n Try.ntmps39 (jok_from gf_Through_i ⟨⟨.inr ⟨_, rfl, gf_Through_k0 N⟩, .inr ⟨_, rfl, gf_Through_k2 N⟩, .inr ⟨_, rfl, gf_Through_k4 N⟩, .inr ⟨_, rfl, gf_Through_k6 N⟩, trivial⟩, trivial⟩) rfl rfl (le_of_ble rfl) (gf_Through_e N)
end Go.Rf.W
