/-
  The printed functions are what the program does.
-/
import Derived.Test.YtokfelhleojnjaaShaK0
set_option linter.unusedVariables false
set_option maxRecDepth 100000
namespace Go.Rf.W
open Go Go.Rf Go.Proofs
noncomputable def granaryref05_Piece_c : Code := codeOf Try.f54.body
noncomputable def granaryref05_Piece_c0 : Code := codeOf (getLoop 0 granaryref05_Piece_c)
noncomputable def granaryref05_Piece_c2 : Code := codeOf (getLoop 2 granaryref05_Piece_c)
noncomputable def granaryref05_Piece_c4 : Code := codeOf (getLoop 4 granaryref05_Piece_c)
noncomputable def granaryref05_Piece_c6 : Code := codeOf (getLoop 6 granaryref05_Piece_c)
def granaryref05_Piece_d0 : LD := { ins := ⟨[(1, (.av (.one (.rsl (.int .u8))))), (2, (.av (.one (.const (.ptr ⟨0, 0, 0, 0⟩))))), (4, (.av (.one (.const (.ptr ⟨1, 0, 0, 0⟩))))), (5, (.av (.one (.const (.ptr ⟨2, 0, 0, 0⟩))))), (6, (.av (.one (.const (.ptr ⟨3, 0, 0, 0⟩))))), (7, (.av (.one (.int .i64))))], [(.keep, false), (.keep, false), (.keep, false), (.sh (.arr (.int .u32) (some 64)), false)]⟩, mov := [], wr := [3], outs := [(.exit 0, ⟨[], [(.keep, false), (.keep, false), (.keep, false), (.sh (.arr (.int .u32) (some 64)), false)]⟩)], its := [.lst (.int .u8), .int, .lst (.int .u32)], ots := [[.lst (.int .u32)]] }
def granaryref05_Piece_d2 : LD := { ins := ⟨[(2, (.av (.one (.const (.ptr ⟨0, 0, 0, 0⟩))))), (4, (.av (.one (.const (.ptr ⟨1, 0, 0, 0⟩))))), (5, (.av (.one (.const (.ptr ⟨2, 0, 0, 0⟩))))), (6, (.av (.one (.const (.ptr ⟨3, 0, 0, 0⟩))))), (8, (.av (.one (.int .i64))))], [(.keep, false), (.keep, false), (.keep, false), (.sh (.arr (.int .u32) (some 64)), false)]⟩, mov := [], wr := [3], outs := [(.exit 2, ⟨[], [(.keep, false), (.keep, false), (.keep, false), (.sh (.arr (.int .u32) (some 64)), false)]⟩)], its := [.int, .lst (.int .u32)], ots := [[.lst (.int .u32)]] }
def granaryref05_Piece_d4 : LD := { ins := ⟨[(2, (.av (.one (.const (.ptr ⟨0, 0, 0, 0⟩))))), (4, (.av (.one (.const (.ptr ⟨1, 0, 0, 0⟩))))), (5, (.av (.one (.const (.ptr ⟨2, 0, 0, 0⟩))))), (6, (.av (.one (.const (.ptr ⟨3, 0, 0, 0⟩))))), (11, (.av (.one (.const (.ptr ⟨4, 0, 0, 0⟩))))), (12, (.av (.one (.int .i64))))], [(.keep, false), (.keep, false), (.sh (.arr (.int .u32) (some 64)), false), (.sh (.arr (.int .u32) (some 64)), false), (.sh (.arr (.int .u32) (some 8)), false)]⟩, mov := [], wr := [2, 3, 4], outs := [(.exit 4, ⟨[], [(.keep, false), (.keep, false), (.sh (.arr (.int .u32) (some 64)), false), (.sh (.arr (.int .u32) (some 64)), false), (.sh (.arr (.int .u32) (some 8)), false)]⟩)], its := [.int, .lst (.int .u32), .lst (.int .u32), .lst (.int .u32)], ots := [[.lst (.int .u32), .lst (.int .u32), .lst (.int .u32)]] }
def granaryref05_Piece_d6 : LD := { ins := ⟨[(2, (.av (.one (.const (.ptr ⟨0, 0, 0, 0⟩))))), (4, (.av (.one (.const (.ptr ⟨1, 0, 0, 0⟩))))), (11, (.av (.one (.const (.ptr ⟨4, 0, 0, 0⟩))))), (17, (.av (.one (.int .i64))))], [(.sh (.arr (.int .u32) (some 8)), false), (.keep, false), (.keep, false), (.keep, false), (.sh (.arr (.int .u32) (some 8)), false)]⟩, mov := [], wr := [0, 4], outs := [(.exit 6, ⟨[], [(.sh (.arr (.int .u32) (some 8)), false), (.keep, false), (.keep, false), (.keep, false), (.sh (.arr (.int .u32) (some 8)), false)]⟩)], its := [.int, .lst (.int .u32), .lst (.int .u32)], ots := [[.lst (.int .u32), .lst (.int .u32)]] }
noncomputable def granaryref05_Piece_J (N : Nat) : Nat → Hint := fun cx => hintOf cx [(0, { reg := fun k => assoc0 k [], cnd := fun k => assoc0 k [], loop := fun k => assoc0 k [(0, ⟨granaryref05_Piece_d0, loopF (granaryref05_Piece_b0 N) N⟩), (2, ⟨granaryref05_Piece_d2, loopF (granaryref05_Piece_b2 N) N⟩), (4, ⟨granaryref05_Piece_d4, loopF (granaryref05_Piece_b4 N) N⟩), (6, ⟨granaryref05_Piece_d6, loopF (granaryref05_Piece_b6 N) N⟩)], nil := fun k => assoc0 k [], unr := fun k => assocN k [], blk := fun k => assoc0 k [] })]
noncomputable def granaryref05_Piece_C (N : Nat) : Nat → List GS := fun k => tabOf k [(60, [granaryref05_K_g N]), (61, [granaryref05_r_g N])]
def granaryref05_Piece_o : List (Shp × List Nat) := [(⟨[(0, (.av (.agg [(.arr (.int .u32) (some 8))])))], []⟩, [])]
noncomputable def granaryref05_Piece_g (N : Nat) : GS := { ins := ⟨[(0, (.av (.agg [(.arr (.int .u32) (some 8))]))), (1, (.av (.one (.rsl (.int .u8)))))], []⟩, lend := [.keep, .lend (.int .u8)], outs := granaryref05_Piece_o.map fun s => ssOf s.1, its := [.lst (.int .u32), .lst (.int .u8)], ots := [[.lst (.int .u32)]], F := granaryref05_Piece N }
noncomputable def granaryref05_Piece_CA (N : Nat) (f0 : Unit → Option ((List Int))) (f1 : Int × Int → Option (Int)) : Nat → List GS := fun k => tabOf k [(60, [{ granaryref05_K_g N with F := f0 }]), (61, [{ granaryref05_r_g N with F := f1 }])]
theorem granaryref05_Piece_CE (N : Nat) : granaryref05_Piece_CA N (granaryref05_K) (granaryref05_r) = granaryref05_Piece_C N := by kernel_rfl
theorem granaryref05_Piece_t (N : Nat) : TabC Try.prog (granaryref05_Piece_C N) := tab_ok ⟨⟨granaryref05_K_ok N, trivial⟩, ⟨granaryref05_r_ok N, trivial⟩, trivial⟩
theorem granaryref05_Piece_i0 : loopsOf granaryref05_Piece_c0 = [] := by kernel_rfl
noncomputable def granaryref05_Piece_a0 (N : Nat) (f0 : Unit → Option ((List Int))) (f1 : Int × Int → Option (Int)) (next : (List Int) × Int × (List Int) → Option (((List Int)))) (x : (List Int) × Int × (List Int)) : Option (((List Int))) :=
  (cond (decide (x.2.1 < (16 : Int)))
  (let v2 : Int := (wrapF .i64 ((4 : Int) * x.2.1))
  (cond ((decide ((0 : Int) ≤ v2)) && (decide (v2 < (((List.length x.1) : Nat) : Int))))
  ((let v7 : Int := (wrapF .i64 ((wrapF .i64 ((4 : Int) * x.2.1)) + (1 : Int)))
  (cond ((decide ((0 : Int) ≤ v7)) && (decide (v7 < (((List.length x.1) : Nat) : Int))))
  ((let v13 : Int := (wrapF .i64 ((wrapF .i64 ((4 : Int) * x.2.1)) + (2 : Int)))
  (cond ((decide ((0 : Int) ≤ v13)) && (decide (v13 < (((List.length x.1) : Nat) : Int))))
  ((let v19 : Int := (wrapF .i64 ((wrapF .i64 ((4 : Int) * x.2.1)) + (3 : Int)))
  (cond ((decide ((0 : Int) ≤ v19)) && (decide (v19 < (((List.length x.1) : Nat) : Int))))
  ((cond ((decide ((0 : Int) ≤ x.2.1)) && (decide (x.2.1 < (64 : Int))))
  ((let v23 : Nat := (Int.toNat x.2.1)
  (cond (decide (v23 < (List.length x.2.2)))
  ((next (x.1, (wrapF .i64 (x.2.1 + (1 : Int))), (List.set x.2.2 v23 (orF .u32 (orF .u32 (orF .u32 (shlF .u32 (wrapF .u32 (List.getD x.1 (Int.toNat v2) (EK.dflt (.int .u8)))) (24 : Int)) (shlF .u32 (wrapF .u32 (List.getD x.1 (Int.toNat v7) (EK.dflt (.int .u8)))) (16 : Int))) (shlF .u32 (wrapF .u32 (List.getD x.1 (Int.toNat v13) (EK.dflt (.int .u8)))) (8 : Int))) (wrapF .u32 (List.getD x.1 (Int.toNat v19) (EK.dflt (.int .u8)))))))))
  none)))
  none))
  none)))
  none)))
  none)))
  none))
  (some x.2.2))
theorem granaryref05_Piece_f0 (N : Nat) (f0 : Unit → Option ((List Int))) (f1 : Int × Int → Option (Int)) (next) (x) : granaryref05_Piece_a0 N f0 f1 next x = loopStep Γ (granaryref05_Piece_CA N f0 f1) (granaryref05_Piece_J N) 0 196 granaryref05_Piece_d0 granaryref05_Piece_c0 next x := by kernel_rfl
theorem granaryref05_Piece_e0 (N : Nat) (next) (x) : granaryref05_Piece_b0 N next x = loopStep Γ (granaryref05_Piece_C N) (granaryref05_Piece_J N) 0 196 granaryref05_Piece_d0 granaryref05_Piece_c0 next x := by
  rw [← granaryref05_Piece_CE N]
  exact Eq.trans (by kernel_rfl) (granaryref05_Piece_f0 N (granaryref05_K) (granaryref05_r) next x)
theorem granaryref05_Piece_k0 (N : Nat) : LoopOK Try.prog 196 granaryref05_Piece_c0 ⟨granaryref05_Piece_d0, loopF (granaryref05_Piece_b0 N) N⟩ := loop_ok tabOK (granaryref05_Piece_t N) mixedOK (J := granaryref05_Piece_J N) (cx := 0) (body := granaryref05_Piece_c0) (nt := 196) (l := granaryref05_Piece_d0) (b := granaryref05_Piece_b0 N) (jok_from granaryref05_Piece_i0 ⟨trivial, trivial⟩) (granaryref05_Piece_e0 N) N
theorem granaryref05_Piece_i2 : loopsOf granaryref05_Piece_c2 = [] := by kernel_rfl
noncomputable def granaryref05_Piece_a2 (N : Nat) (f0 : Unit → Option ((List Int))) (f1 : Int × Int → Option (Int)) (next : Int × (List Int) → Option (((List Int)))) (x : Int × (List Int)) : Option (((List Int))) :=
  (cond (decide (x.1 < (64 : Int)))
  (let v2 : Int := (wrapF .i64 (x.1 - (15 : Int)))
  (cond ((decide ((0 : Int) ≤ v2)) && (decide (v2 < (64 : Int))))
  ((let v3 : Nat := (Int.toNat v2)
  (cond (decide (v3 < (List.length x.2)))
  ((let v4 : Int := (List.getD x.2 v3 (EK.dflt (.int .u32)))
  (let v5 : Int := (wrapF .i64 (x.1 - (2 : Int)))
  (cond ((decide ((0 : Int) ≤ v5)) && (decide (v5 < (64 : Int))))
  ((let v6 : Nat := (Int.toNat v5)
  (cond (decide (v6 < (List.length x.2)))
  ((let v7 : Int := (List.getD x.2 v6 (EK.dflt (.int .u32)))
  (let v8 : Int := (wrapF .i64 (x.1 - (16 : Int)))
  (cond ((decide ((0 : Int) ≤ v8)) && (decide (v8 < (64 : Int))))
  ((let v9 : Nat := (Int.toNat v8)
  (cond (decide (v9 < (List.length x.2)))
  ((Option.bind (f1 (v4, (7 : Int))) fun r11 =>
  (Option.bind (f1 (v4, (18 : Int))) fun r12 =>
  (let v17 : Int := (wrapF .i64 (x.1 - (7 : Int)))
  (cond ((decide ((0 : Int) ≤ v17)) && (decide (v17 < (64 : Int))))
  ((let v18 : Nat := (Int.toNat v17)
  (cond (decide (v18 < (List.length x.2)))
  ((Option.bind (f1 (v7, (17 : Int))) fun r21 =>
  (Option.bind (f1 (v7, (19 : Int))) fun r22 =>
  (cond ((decide ((0 : Int) ≤ x.1)) && (decide (x.1 < (64 : Int))))
  ((let v27 : Nat := (Int.toNat x.1)
  (cond (decide (v27 < (List.length x.2)))
  ((next ((wrapF .i64 (x.1 + (1 : Int))), (List.set x.2 v27 (wrapF .u32 ((wrapF .u32 ((wrapF .u32 ((List.getD x.2 v9 (EK.dflt (.int .u32))) + (xorF .u32 (xorF .u32 r11 r12) (shrF .u32 v4 (3 : Int))))) + (List.getD x.2 v18 (EK.dflt (.int .u32))))) + (xorF .u32 (xorF .u32 r21 r22) (shrF .u32 v7 (10 : Int)))))))))
  none)))
  none))))
  none)))
  none)))))
  none)))
  none))))
  none)))
  none))))
  none)))
  none))
  (some x.2))
theorem granaryref05_Piece_f2 (N : Nat) (f0 : Unit → Option ((List Int))) (f1 : Int × Int → Option (Int)) (next) (x) : granaryref05_Piece_a2 N f0 f1 next x = loopStep Γ (granaryref05_Piece_CA N f0 f1) (granaryref05_Piece_J N) 0 196 granaryref05_Piece_d2 granaryref05_Piece_c2 next x := by kernel_rfl
theorem granaryref05_Piece_e2 (N : Nat) (next) (x) : granaryref05_Piece_b2 N next x = loopStep Γ (granaryref05_Piece_C N) (granaryref05_Piece_J N) 0 196 granaryref05_Piece_d2 granaryref05_Piece_c2 next x := by
  rw [← granaryref05_Piece_CE N]
  exact Eq.trans (by kernel_rfl) (granaryref05_Piece_f2 N (granaryref05_K) (granaryref05_r) next x)
theorem granaryref05_Piece_k2 (N : Nat) : LoopOK Try.prog 196 granaryref05_Piece_c2 ⟨granaryref05_Piece_d2, loopF (granaryref05_Piece_b2 N) N⟩ := loop_ok tabOK (granaryref05_Piece_t N) mixedOK (J := granaryref05_Piece_J N) (cx := 0) (body := granaryref05_Piece_c2) (nt := 196) (l := granaryref05_Piece_d2) (b := granaryref05_Piece_b2 N) (jok_from granaryref05_Piece_i2 ⟨trivial, trivial⟩) (granaryref05_Piece_e2 N) N
theorem granaryref05_Piece_i4 : loopsOf granaryref05_Piece_c4 = [] := by kernel_rfl
noncomputable def granaryref05_Piece_a4 (N : Nat) (f0 : Unit → Option ((List Int))) (f1 : Int × Int → Option (Int)) (next : Int × (List Int) × (List Int) × (List Int) → Option (((List Int) × (List Int) × (List Int)))) (x : Int × (List Int) × (List Int) × (List Int)) : Option (((List Int) × (List Int) × (List Int))) :=
  (cond (decide (x.1 < (64 : Int)))
  (cond (decide (0 < (List.length x.2.2.2)))
  ((let v2 : Int := (List.getD x.2.2.2 0 (EK.dflt (.int .u32)))
  (cond (decide (4 < (List.length x.2.2.2)))
  ((let v3 : Int := (List.getD x.2.2.2 4 (EK.dflt (.int .u32)))
  (cond (decide (7 < (List.length x.2.2.2)))
  ((Option.bind (f1 (v3, (6 : Int))) fun r5 =>
  (Option.bind (f1 (v3, (11 : Int))) fun r6 =>
  (Option.bind (f1 (v3, (25 : Int))) fun r8 =>
  (cond (decide (5 < (List.length x.2.2.2)))
  ((cond (decide (6 < (List.length x.2.2.2)))
  ((cond ((decide ((0 : Int) ≤ x.1)) && (decide (x.1 < (64 : Int))))
  ((let v18 : Nat := (Int.toNat x.1)
  (cond (decide (v18 < (List.length x.2.1)))
  ((cond ((decide ((0 : Int) ≤ x.1)) && (decide (x.1 < (64 : Int))))
  ((let v21 : Nat := (Int.toNat x.1)
  (cond (decide (v21 < (List.length x.2.2.1)))
  ((let v23 : Int := (wrapF .u32 ((wrapF .u32 ((wrapF .u32 ((wrapF .u32 ((List.getD x.2.2.2 7 (EK.dflt (.int .u32))) + (xorF .u32 (xorF .u32 r5 r6) r8))) + (xorF .u32 (andF .u32 v3 (List.getD x.2.2.2 5 (EK.dflt (.int .u32)))) (andF .u32 (xorF .u32 (4294967295 : Int) v3) (List.getD x.2.2.2 6 (EK.dflt (.int .u32))))))) + (List.getD x.2.1 v18 (EK.dflt (.int .u32))))) + (List.getD x.2.2.1 v21 (EK.dflt (.int .u32)))))
  (Option.bind (f1 (v2, (2 : Int))) fun r24 =>
  (Option.bind (f1 (v2, (13 : Int))) fun r25 =>
  (Option.bind (f1 (v2, (22 : Int))) fun r27 =>
  (cond (decide (1 < (List.length x.2.2.2)))
  ((cond (decide (2 < (List.length x.2.2.2)))
  ((cond (decide (1 < (List.length x.2.2.2)))
  ((cond (decide (2 < (List.length x.2.2.2)))
  ((cond (decide (0 < (List.length x.2.2.2)))
  ((cond (decide (1 < (List.length x.2.2.2)))
  ((cond (decide (2 < (List.length x.2.2.2)))
  ((cond (decide (3 < (List.length x.2.2.2)))
  ((cond (decide (4 < (List.length x.2.2.2)))
  ((cond (decide (5 < (List.length x.2.2.2)))
  ((cond (decide (6 < (List.length x.2.2.2)))
  ((next ((wrapF .i64 (x.1 + (1 : Int))), x.2.1, x.2.2.1, (List.set (List.set (List.set (List.set (List.set (List.set (List.set (List.set (List.replicate 8 (EK.dflt (.int .u32))) 0 (wrapF .u32 (v23 + (wrapF .u32 ((xorF .u32 (xorF .u32 r24 r25) r27) + (xorF .u32 (xorF .u32 (andF .u32 v2 (List.getD x.2.2.2 1 (EK.dflt (.int .u32)))) (andF .u32 v2 (List.getD x.2.2.2 2 (EK.dflt (.int .u32))))) (andF .u32 (List.getD x.2.2.2 1 (EK.dflt (.int .u32))) (List.getD x.2.2.2 2 (EK.dflt (.int .u32)))))))))) 1 (List.getD x.2.2.2 0 (EK.dflt (.int .u32)))) 2 (List.getD x.2.2.2 1 (EK.dflt (.int .u32)))) 3 (List.getD x.2.2.2 2 (EK.dflt (.int .u32)))) 4 (wrapF .u32 ((List.getD x.2.2.2 3 (EK.dflt (.int .u32))) + v23))) 5 (List.getD x.2.2.2 4 (EK.dflt (.int .u32)))) 6 (List.getD x.2.2.2 5 (EK.dflt (.int .u32)))) 7 (List.getD x.2.2.2 6 (EK.dflt (.int .u32)))))))
  none))
  none))
  none))
  none))
  none))
  none))
  none))
  none))
  none))
  none))
  none))))))
  none)))
  none))
  none)))
  none))
  none))
  none)))))
  none)))
  none)))
  none)
  (some (x.2.1, x.2.2.1, x.2.2.2)))
theorem granaryref05_Piece_f4 (N : Nat) (f0 : Unit → Option ((List Int))) (f1 : Int × Int → Option (Int)) (next) (x) : granaryref05_Piece_a4 N f0 f1 next x = loopStep Γ (granaryref05_Piece_CA N f0 f1) (granaryref05_Piece_J N) 0 196 granaryref05_Piece_d4 granaryref05_Piece_c4 next x := by kernel_rfl
theorem granaryref05_Piece_e4 (N : Nat) (next) (x) : granaryref05_Piece_b4 N next x = loopStep Γ (granaryref05_Piece_C N) (granaryref05_Piece_J N) 0 196 granaryref05_Piece_d4 granaryref05_Piece_c4 next x := by
  rw [← granaryref05_Piece_CE N]
  exact Eq.trans (by kernel_rfl) (granaryref05_Piece_f4 N (granaryref05_K) (granaryref05_r) next x)
theorem granaryref05_Piece_k4 (N : Nat) : LoopOK Try.prog 196 granaryref05_Piece_c4 ⟨granaryref05_Piece_d4, loopF (granaryref05_Piece_b4 N) N⟩ := loop_ok tabOK (granaryref05_Piece_t N) mixedOK (J := granaryref05_Piece_J N) (cx := 0) (body := granaryref05_Piece_c4) (nt := 196) (l := granaryref05_Piece_d4) (b := granaryref05_Piece_b4 N) (jok_from granaryref05_Piece_i4 ⟨trivial, trivial⟩) (granaryref05_Piece_e4 N) N
theorem granaryref05_Piece_i6 : loopsOf granaryref05_Piece_c6 = [] := by kernel_rfl
noncomputable def granaryref05_Piece_a6 (N : Nat) (f0 : Unit → Option ((List Int))) (f1 : Int × Int → Option (Int)) (next : Int × (List Int) × (List Int) → Option (((List Int) × (List Int)))) (x : Int × (List Int) × (List Int)) : Option (((List Int) × (List Int))) :=
  (cond (decide (x.1 < (8 : Int)))
  (cond ((decide ((0 : Int) ≤ x.1)) && (decide (x.1 < (8 : Int))))
  ((let v2 : Nat := (Int.toNat x.1)
  (cond (decide (v2 < (List.length x.2.2)))
  ((cond ((decide ((0 : Int) ≤ x.1)) && (decide (x.1 < (8 : Int))))
  ((let v4 : Nat := (Int.toNat x.1)
  (cond (decide (v4 < (List.length x.2.1)))
  ((cond ((decide ((0 : Int) ≤ x.1)) && (decide (x.1 < (8 : Int))))
  ((let v7 : Nat := (Int.toNat x.1)
  (cond (decide (v7 < (List.length x.2.2)))
  ((next ((wrapF .i64 (x.1 + (1 : Int))), x.2.1, (List.set x.2.2 v7 (wrapF .u32 ((List.getD x.2.2 v2 (EK.dflt (.int .u32))) + (List.getD x.2.1 v4 (EK.dflt (.int .u32)))))))))
  none)))
  none))
  none)))
  none))
  none)))
  none)
  (some (x.2.1, x.2.2)))
theorem granaryref05_Piece_f6 (N : Nat) (f0 : Unit → Option ((List Int))) (f1 : Int × Int → Option (Int)) (next) (x) : granaryref05_Piece_a6 N f0 f1 next x = loopStep Γ (granaryref05_Piece_CA N f0 f1) (granaryref05_Piece_J N) 0 196 granaryref05_Piece_d6 granaryref05_Piece_c6 next x := by kernel_rfl
theorem granaryref05_Piece_e6 (N : Nat) (next) (x) : granaryref05_Piece_b6 N next x = loopStep Γ (granaryref05_Piece_C N) (granaryref05_Piece_J N) 0 196 granaryref05_Piece_d6 granaryref05_Piece_c6 next x := by
  rw [← granaryref05_Piece_CE N]
  exact Eq.trans (by kernel_rfl) (granaryref05_Piece_f6 N (granaryref05_K) (granaryref05_r) next x)
theorem granaryref05_Piece_k6 (N : Nat) : LoopOK Try.prog 196 granaryref05_Piece_c6 ⟨granaryref05_Piece_d6, loopF (granaryref05_Piece_b6 N) N⟩ := loop_ok tabOK (granaryref05_Piece_t N) mixedOK (J := granaryref05_Piece_J N) (cx := 0) (body := granaryref05_Piece_c6) (nt := 196) (l := granaryref05_Piece_d6) (b := granaryref05_Piece_b6 N) (jok_from granaryref05_Piece_i6 ⟨trivial, trivial⟩) (granaryref05_Piece_e6 N) N
theorem granaryref05_Piece_i : loopsOf granaryref05_Piece_c = [(0, granaryref05_Piece_c0), (2, granaryref05_Piece_c2), (4, granaryref05_Piece_c4), (6, granaryref05_Piece_c6)] := by kernel_rfl
noncomputable def granaryref05_Piece_a (N : Nat) (f0 : Unit → Option ((List Int))) (f1 : Int × Int → Option (Int)) (x : (List Int) × (List Int)) : Option ((List Int)) :=
  (Option.bind (f0 ()) fun r2 =>
  (Option.bind (granaryref05_Piece_l0 N (x.2, (0 : Int), (List.replicate 64 (EK.dflt (.int .u32))))) fun r5 =>
  (Option.bind (granaryref05_Piece_l2 N ((16 : Int), r5)) fun r6 =>
  (Option.bind (granaryref05_Piece_l4 N ((0 : Int), r2, r6, x.1)) fun r8 =>
  (Option.bind (granaryref05_Piece_l6 N ((0 : Int), x.1, r8.2.2)) fun r9 =>
  (some r9.2))))))
theorem granaryref05_Piece_f (N : Nat) (f0 : Unit → Option ((List Int))) (f1 : Int × Int → Option (Int)) (x) : granaryref05_Piece_a N f0 f1 x = fnStep Γ (granaryref05_Piece_CA N f0 f1) (granaryref05_Piece_J N) 196 Try.f54.results.toList (granaryref05_Piece_g N) granaryref05_Piece_o granaryref05_Piece_c x := by kernel_rfl
theorem granaryref05_Piece_e (N : Nat) (x) : (granaryref05_Piece_g N).F x = fnStep Γ (granaryref05_Piece_C N) (granaryref05_Piece_J N) 196 Try.f54.results.toList (granaryref05_Piece_g N) granaryref05_Piece_o granaryref05_Piece_c x := by
  rw [← granaryref05_Piece_CE N]
  exact Eq.trans (by kernel_rfl) (granaryref05_Piece_f N (granaryref05_K) (granaryref05_r) x)
theorem granaryref05_Piece_y : Try.f54.body = some granaryref05_Piece_c := by kernel_rfl
theorem granaryref05_Piece_n : (Try.f54.name == "runtime.NumGoroutine") = false := by kernel_rfl
theorem granaryref05_Piece_ok (N : Nat) : FnDoes Try.prog 54 (granaryref05_Piece_g N) := fn_ok tabOK (granaryref05_Piece_t N) mixedOK (J := granaryref05_Piece_J N) (body := granaryref05_Piece_c) Try.func54 granaryref05_Piece_y granaryref05_Piece_n Try.ntmps54 (jok_from granaryref05_Piece_i ⟨⟨.inr ⟨_, rfl, granaryref05_Piece_k0 N⟩, .inr ⟨_, rfl, granaryref05_Piece_k2 N⟩, .inr ⟨_, rfl, granaryref05_Piece_k4 N⟩, .inr ⟨_, rfl, granaryref05_Piece_k6 N⟩, trivial⟩, trivial⟩) rfl rfl (le_of_ble rfl) (granaryref05_Piece_e N)
noncomputable def granaryref05_Hash_Write_c : Code := codeOf Try.f35.body
noncomputable def granaryref05_Hash_Write_c0 : Code := codeOf (getLoop 0 granaryref05_Hash_Write_c)
def granaryref05_Hash_Write_d0 : LD := { ins := ⟨[(0, (.av (.one (.const (.ptr ⟨0, 0, 0, 0⟩))))), (4, (.av (.one (.sl 5 1))))], [(.sh (.arr (.int .u32) (some 8)), true), (.keep, false), (.keep, false), (.keep, false), (.keep, false), (.sh (.arr (.int .u8) none), false)]⟩, mov := [], wr := [0, 5], outs := [(.exit 0, ⟨[(4, (.av (.one (.sl 5 1))))], [(.sh (.arr (.int .u32) (some 8)), true), (.keep, false), (.keep, false), (.keep, false), (.keep, false), (.sh (.arr (.int .u8) none), false)]⟩)], its := [.nat, .nat, .lst (.int .u32), .lst (.int .u8)], ots := [[.nat, .nat, .lst (.int .u32), .lst (.int .u8)]] }
noncomputable def granaryref05_Hash_Write_J (N : Nat) : Nat → Hint := fun cx => hintOf cx [(0, { reg := fun k => assoc0 k [], cnd := fun k => assoc0 k [], loop := fun k => assoc0 k [(0, ⟨granaryref05_Hash_Write_d0, loopF (granaryref05_Hash_Write_b0 N) N⟩)], nil := fun k => assoc0 k [], unr := fun k => assocN k [], blk := fun k => assoc0 k [] })]
noncomputable def granaryref05_Hash_Write_C (N : Nat) : Nat → List GS := fun k => tabOf k [(54, [granaryref05_Piece_g N])]
def granaryref05_Hash_Write_o : List (Shp × List Nat) := [(⟨[(0, (.tup []))], [(.sh (.arr (.int .u32) (some 8)), true), (.sh (.one (.int .u64)), true), (.sh (.one (.const (.slw 3 1))), false), (.sh (.arr (.int .u8) none), false)]⟩, [])]
noncomputable def granaryref05_Hash_Write_g (N : Nat) : GS := { ins := ⟨[(0, (.av (.one (.const (.ptr ⟨0, 0, 0, 0⟩))))), (1, (.av (.one (.rsl (.int .u8)))))], [(some (.arr (.int .u32) (some 8)), true), (some (.one (.int .u64)), true), (some (.one (.const .nils)), false)]⟩, lend := [.keep, .keep], outs := granaryref05_Hash_Write_o.map fun s => ssOf s.1, its := [.lst (.int .u8), .lst (.int .u32), .int], ots := [[.lst (.int .u32), .int, .lst (.int .u8)]], F := granaryref05_Hash_Write N }
noncomputable def granaryref05_Hash_Write_CA (N : Nat) (f0 : (List Int) × (List Int) → Option ((List Int))) : Nat → List GS := fun k => tabOf k [(54, [{ granaryref05_Piece_g N with F := f0 }])]
theorem granaryref05_Hash_Write_CE (N : Nat) : granaryref05_Hash_Write_CA N (granaryref05_Piece N) = granaryref05_Hash_Write_C N := by kernel_rfl
theorem granaryref05_Hash_Write_t (N : Nat) : TabC Try.prog (granaryref05_Hash_Write_C N) := tab_ok ⟨⟨granaryref05_Piece_ok N, trivial⟩, trivial⟩
theorem granaryref05_Hash_Write_i0 : loopsOf granaryref05_Hash_Write_c0 = [] := by kernel_rfl
noncomputable def granaryref05_Hash_Write_a0 (N : Nat) (f0 : (List Int) × (List Int) → Option ((List Int))) (next : Nat × Nat × (List Int) × (List Int) → Option ((Nat × Nat × (List Int) × (List Int)))) (x : Nat × Nat × (List Int) × (List Int)) : Option ((Nat × Nat × (List Int) × (List Int))) :=
  (cond (decide ((64 : Int) ≤ ((x.2.1 : Nat) : Int)))
  (cond (cond (decide ((x.1 + x.2.1) ≤ (List.length x.2.2.2))) true false)
  (Option.bind (f0 (x.2.2.1, (List.take x.2.1 (List.drop x.1 x.2.2.2)))) fun r3 =>
  (cond ((decide ((64 : Int) ≤ ((x.2.1 : Nat) : Int))) && (decide (((x.2.1 : Nat) : Int) ≤ ((x.2.1 : Nat) : Int))))
  ((next ((64 + x.1), (x.2.1 - 64), r3, x.2.2.2)))
  none))
  none)
  (some (x.1, x.2.1, x.2.2.1, x.2.2.2)))
theorem granaryref05_Hash_Write_f0 (N : Nat) (f0 : (List Int) × (List Int) → Option ((List Int))) (next) (x) : granaryref05_Hash_Write_a0 N f0 next x = loopStep Γ (granaryref05_Hash_Write_CA N f0) (granaryref05_Hash_Write_J N) 0 44 granaryref05_Hash_Write_d0 granaryref05_Hash_Write_c0 next x := by kernel_rfl
theorem granaryref05_Hash_Write_e0 (N : Nat) (next) (x) : granaryref05_Hash_Write_b0 N next x = loopStep Γ (granaryref05_Hash_Write_C N) (granaryref05_Hash_Write_J N) 0 44 granaryref05_Hash_Write_d0 granaryref05_Hash_Write_c0 next x := by
  rw [← granaryref05_Hash_Write_CE N]
  exact Eq.trans (by kernel_rfl) (granaryref05_Hash_Write_f0 N (granaryref05_Piece N) next x)
theorem granaryref05_Hash_Write_k0 (N : Nat) : LoopOK Try.prog 44 granaryref05_Hash_Write_c0 ⟨granaryref05_Hash_Write_d0, loopF (granaryref05_Hash_Write_b0 N) N⟩ := loop_ok tabOK (granaryref05_Hash_Write_t N) mixedOK (J := granaryref05_Hash_Write_J N) (cx := 0) (body := granaryref05_Hash_Write_c0) (nt := 44) (l := granaryref05_Hash_Write_d0) (b := granaryref05_Hash_Write_b0 N) (jok_from granaryref05_Hash_Write_i0 ⟨trivial, trivial⟩) (granaryref05_Hash_Write_e0 N) N
theorem granaryref05_Hash_Write_i : loopsOf granaryref05_Hash_Write_c = [(0, granaryref05_Hash_Write_c0)] := by kernel_rfl
noncomputable def granaryref05_Hash_Write_a (N : Nat) (f0 : (List Int) × (List Int) → Option ((List Int))) (x : (List Int) × (List Int) × Int) : Option ((List Int) × Int × (List Int)) :=
  (cond (fits 1 (List.length ([] : List Int)))
  ((let v5 : List Int := ([] : List Int)
  (cond (fits 1 ((List.length v5) + (List.length x.1)))
  ((let v6 : List Int := (v5 ++ x.1)
  (Option.bind (granaryref05_Hash_Write_l0 N (0, (List.length v6), x.2.1, v6)) fun r7 =>
  (cond ((decide ((r7.1 + r7.2.1) ≤ (List.length r7.2.2.2))) && (fits 1 (List.length (List.take r7.2.1 (List.drop r7.1 r7.2.2.2)))))
  ((some (r7.2.2.1, (wrapF .u64 (x.2.2 + (wrapF .u64 (((List.length x.1) : Nat) : Int)))), (List.take r7.2.1 (List.drop r7.1 r7.2.2.2)))))
  none))))
  none)))
  none)
theorem granaryref05_Hash_Write_f (N : Nat) (f0 : (List Int) × (List Int) → Option ((List Int))) (x) : granaryref05_Hash_Write_a N f0 x = fnStep Γ (granaryref05_Hash_Write_CA N f0) (granaryref05_Hash_Write_J N) 44 Try.f35.results.toList (granaryref05_Hash_Write_g N) granaryref05_Hash_Write_o granaryref05_Hash_Write_c x := by kernel_rfl
theorem granaryref05_Hash_Write_e (N : Nat) (x) : (granaryref05_Hash_Write_g N).F x = fnStep Γ (granaryref05_Hash_Write_C N) (granaryref05_Hash_Write_J N) 44 Try.f35.results.toList (granaryref05_Hash_Write_g N) granaryref05_Hash_Write_o granaryref05_Hash_Write_c x := by
  rw [← granaryref05_Hash_Write_CE N]
  exact Eq.trans (by kernel_rfl) (granaryref05_Hash_Write_f N (granaryref05_Piece N) x)
theorem granaryref05_Hash_Write_y : Try.f35.body = some granaryref05_Hash_Write_c := by kernel_rfl
theorem granaryref05_Hash_Write_n : (Try.f35.name == "runtime.NumGoroutine") = false := by kernel_rfl
theorem granaryref05_Hash_Write_ok (N : Nat) : FnDoes Try.prog 35 (granaryref05_Hash_Write_g N) := fn_ok tabOK (granaryref05_Hash_Write_t N) mixedOK (J := granaryref05_Hash_Write_J N) (body := granaryref05_Hash_Write_c) Try.func35 granaryref05_Hash_Write_y granaryref05_Hash_Write_n Try.ntmps35 (jok_from granaryref05_Hash_Write_i ⟨⟨.inr ⟨_, rfl, granaryref05_Hash_Write_k0 N⟩, trivial⟩, trivial⟩) rfl rfl (le_of_ble rfl) (granaryref05_Hash_Write_e N)
noncomputable def granaryref05_eight_c : Code := codeOf Try.f55.body
noncomputable def granaryref05_eight_J (N : Nat) : Nat → Hint := fun cx => hintOf cx []
noncomputable def granaryref05_eight_C (N : Nat) : Nat → List GS := fun k => tabOf k []
def granaryref05_eight_o : List (Shp × List Nat) := [(⟨[(0, (.av (.one (.sl 0 1))))], [(.sh (.arr (.int .u8) none), false)]⟩, [])]
noncomputable def granaryref05_eight_g (N : Nat) : GS := { ins := ⟨[(0, (.av (.one (.int .u64))))], []⟩, lend := [.keep], outs := granaryref05_eight_o.map fun s => ssOf s.1, its := [.int], ots := [[.nat, .nat, .lst (.int .u8)]], F := granaryref05_eight }
theorem granaryref05_eight_t (N : Nat) : TabC Try.prog (granaryref05_eight_C N) := tab_ok trivial
theorem granaryref05_eight_i : loopsOf granaryref05_eight_c = [] := by kernel_rfl
theorem granaryref05_eight_e (N : Nat) (x) : (granaryref05_eight_g N).F x = fnStep Γ (granaryref05_eight_C N) (granaryref05_eight_J N) 27 Try.f55.results.toList (granaryref05_eight_g N) granaryref05_eight_o granaryref05_eight_c x := by kernel_rfl
theorem granaryref05_eight_y : Try.f55.body = some granaryref05_eight_c := by kernel_rfl
theorem granaryref05_eight_n : (Try.f55.name == "runtime.NumGoroutine") = false := by kernel_rfl
theorem granaryref05_eight_ok (N : Nat) : FnDoes Try.prog 55 (granaryref05_eight_g N) := fn_ok tabOK (granaryref05_eight_t N) mixedOK (J := granaryref05_eight_J N) (body := granaryref05_eight_c) Try.func55 granaryref05_eight_y granaryref05_eight_n Try.ntmps55 (jok_from granaryref05_eight_i trivial) rfl rfl (le_of_ble rfl) (granaryref05_eight_e N)
noncomputable def granaryref05_Words_c : Code := codeOf Try.f56.body
noncomputable def granaryref05_Words_c0 : Code := codeOf (getLoop 0 granaryref05_Words_c)
def granaryref05_Words_d0 : LD := { ins := ⟨[(1, (.av (.one (.const (.ptr ⟨0, 0, 0, 0⟩))))), (3, (.av (.one (.const (.slw 1 1))))), (4, (.av (.one (.int .i64))))], [(.sh (.arr (.int .u32) (some 8)), false), (.sh (.arr (.int .u8) none), false)]⟩, mov := [1], wr := [0], outs := [(.exit 0, ⟨[(3, (.av (.one (.const (.slw 2 1)))))], [(.sh (.arr (.int .u32) (some 8)), false), (.dead, false), (.sh (.arr (.int .u8) none), false)]⟩)], its := [.int, .lst (.int .u32), .lst (.int .u8)], ots := [[.lst (.int .u32), .lst (.int .u8)]] }
noncomputable def granaryref05_Words_J (N : Nat) : Nat → Hint := fun cx => hintOf cx [(0, { reg := fun k => assoc0 k [], cnd := fun k => assoc0 k [], loop := fun k => assoc0 k [(0, ⟨granaryref05_Words_d0, loopF (granaryref05_Words_b0 N) N⟩)], nil := fun k => assoc0 k [], unr := fun k => assocN k [], blk := fun k => assoc0 k [] })]
noncomputable def granaryref05_Words_C (N : Nat) : Nat → List GS := fun k => tabOf k []
def granaryref05_Words_o : List (Shp × List Nat) := [(⟨[(0, (.av (.one (.const (.slw 0 1)))))], [(.sh (.arr (.int .u8) none), false)]⟩, [])]
noncomputable def granaryref05_Words_g (N : Nat) : GS := { ins := ⟨[(0, (.av (.agg [(.arr (.int .u32) (some 8))])))], []⟩, lend := [.keep], outs := granaryref05_Words_o.map fun s => ssOf s.1, its := [.lst (.int .u32)], ots := [[.lst (.int .u8)]], F := granaryref05_Words N }
theorem granaryref05_Words_t (N : Nat) : TabC Try.prog (granaryref05_Words_C N) := tab_ok trivial
theorem granaryref05_Words_i0 : loopsOf granaryref05_Words_c0 = [] := by kernel_rfl
theorem granaryref05_Words_e0 (N : Nat) (next) (x) : granaryref05_Words_b0 N next x = loopStep Γ (granaryref05_Words_C N) (granaryref05_Words_J N) 0 32 granaryref05_Words_d0 granaryref05_Words_c0 next x := by kernel_rfl
theorem granaryref05_Words_k0 (N : Nat) : LoopOK Try.prog 32 granaryref05_Words_c0 ⟨granaryref05_Words_d0, loopF (granaryref05_Words_b0 N) N⟩ := loop_ok tabOK (granaryref05_Words_t N) mixedOK (J := granaryref05_Words_J N) (cx := 0) (body := granaryref05_Words_c0) (nt := 32) (l := granaryref05_Words_d0) (b := granaryref05_Words_b0 N) (jok_from granaryref05_Words_i0 ⟨trivial, trivial⟩) (granaryref05_Words_e0 N) N
theorem granaryref05_Words_i : loopsOf granaryref05_Words_c = [(0, granaryref05_Words_c0)] := by kernel_rfl
theorem granaryref05_Words_e (N : Nat) (x) : (granaryref05_Words_g N).F x = fnStep Γ (granaryref05_Words_C N) (granaryref05_Words_J N) 32 Try.f56.results.toList (granaryref05_Words_g N) granaryref05_Words_o granaryref05_Words_c x := by kernel_rfl
theorem granaryref05_Words_y : Try.f56.body = some granaryref05_Words_c := by kernel_rfl
theorem granaryref05_Words_n : (Try.f56.name == "runtime.NumGoroutine") = false := by kernel_rfl
theorem granaryref05_Words_ok (N : Nat) : FnDoes Try.prog 56 (granaryref05_Words_g N) := fn_ok tabOK (granaryref05_Words_t N) mixedOK (J := granaryref05_Words_J N) (body := granaryref05_Words_c) Try.func56 granaryref05_Words_y granaryref05_Words_n Try.ntmps56 (jok_from granaryref05_Words_i ⟨⟨.inr ⟨_, rfl, granaryref05_Words_k0 N⟩, trivial⟩, trivial⟩) rfl rfl (le_of_ble rfl) (granaryref05_Words_e N)
noncomputable def granaryref05_Hash_Sum_c : Code := codeOf Try.f36.body
noncomputable def granaryref05_Hash_Sum_c0 : Code := codeOf (getLoop 0 granaryref05_Hash_Sum_c)
noncomputable def granaryref05_Hash_Sum_c2 : Code := codeOf (getLoop 2 granaryref05_Hash_Sum_c)
noncomputable def granaryref05_Hash_Sum_c4 : Code := codeOf (getLoop 4 granaryref05_Hash_Sum_c)
def granaryref05_Hash_Sum_d0 : LD := { ins := ⟨[(0, (.av (.one (.const (.ptr ⟨0, 0, 0, 0⟩))))), (2, (.av (.one (.const (.ptr ⟨4, 0, 0, 0⟩))))), (3, (.av (.one (.const (.slw 8 1)))))], [(.keep, false), (.keep, false), (.keep, false), (.keep, false), (.keep, false), (.keep, false), (.keep, false), (.keep, false), (.sh (.arr (.int .u8) none), false)]⟩, mov := [8], wr := [], outs := [(.exit 0, ⟨[(3, (.av (.one (.const (.slw 9 1)))))], [(.keep, false), (.keep, false), (.keep, false), (.keep, false), (.keep, false), (.keep, false), (.keep, false), (.keep, false), (.dead, false), (.sh (.arr (.int .u8) none), false)]⟩)], its := [.lst (.int .u8)], ots := [[.lst (.int .u8)]] }
def granaryref05_Hash_Sum_d2 : LD := { ins := ⟨[(2, (.av (.one (.const (.ptr ⟨4, 0, 0, 0⟩))))), (3, (.av (.one (.sl 11 1)))), (4, (.av (.one (.const (.ptr ⟨12, 0, 0, 0⟩)))))], [(.keep, false), (.keep, false), (.keep, false), (.keep, false), (.keep, false), (.keep, false), (.keep, false), (.keep, false), (.keep, false), (.keep, false), (.keep, false), (.sh (.arr (.int .u8) none), false), (.sh (.arr (.int .u32) (some 8)), false)]⟩, mov := [], wr := [11, 12], outs := [(.exit 2, ⟨[], [(.keep, false), (.keep, false), (.keep, false), (.keep, false), (.keep, false), (.keep, false), (.keep, false), (.keep, false), (.keep, false), (.keep, false), (.keep, false), (.sh (.arr (.int .u8) none), false), (.sh (.arr (.int .u32) (some 8)), false)]⟩)], its := [.nat, .nat, .lst (.int .u8), .lst (.int .u32)], ots := [[.lst (.int .u8), .lst (.int .u32)]] }
def granaryref05_Hash_Sum_d4 : LD := { ins := ⟨[(2, (.av (.one (.const (.ptr ⟨4, 0, 0, 0⟩))))), (5, (.av (.one (.const (.slw 13 1))))), (6, (.av (.one (.const (.ptr ⟨14, 0, 0, 0⟩))))), (7, (.av (.one (.int .i64))))], [(.keep, false), (.keep, false), (.keep, false), (.keep, false), (.keep, false), (.keep, false), (.keep, false), (.keep, false), (.keep, false), (.keep, false), (.keep, false), (.keep, false), (.keep, false), (.sh (.arr (.int .u8) none), false), (.sh (.arr (.int .u8) (some 32)), false)]⟩, mov := [], wr := [13, 14], outs := [(.exit 4, ⟨[], [(.keep, false), (.keep, false), (.keep, false), (.keep, false), (.keep, false), (.keep, false), (.keep, false), (.keep, false), (.keep, false), (.keep, false), (.keep, false), (.keep, false), (.keep, false), (.sh (.arr (.int .u8) none), false), (.sh (.arr (.int .u8) (some 32)), false)]⟩)], its := [.int, .lst (.int .u8), .lst (.int .u8)], ots := [[.lst (.int .u8), .lst (.int .u8)]] }
noncomputable def granaryref05_Hash_Sum_J (N : Nat) : Nat → Hint := fun cx => hintOf cx [(0, { reg := fun k => assoc0 k [], cnd := fun k => assoc0 k [], loop := fun k => assoc0 k [(0, ⟨granaryref05_Hash_Sum_d0, loopF (granaryref05_Hash_Sum_b0 N) N⟩), (2, ⟨granaryref05_Hash_Sum_d2, loopF (granaryref05_Hash_Sum_b2 N) N⟩), (4, ⟨granaryref05_Hash_Sum_d4, loopF (granaryref05_Hash_Sum_b4 N) N⟩)], nil := fun k => assoc0 k [], unr := fun k => assocN k [], blk := fun k => assoc0 k [] })]
noncomputable def granaryref05_Hash_Sum_C (N : Nat) : Nat → List GS := fun k => tabOf k [(55, [granaryref05_eight_g N]), (54, [granaryref05_Piece_g N]), (56, [granaryref05_Words_g N])]
def granaryref05_Hash_Sum_o : List (Shp × List Nat) := [(⟨[(0, (.av (.agg [(.arr (.int .u8) (some 32))])))], [(.sh (.arr (.int .u32) (some 8)), true), (.sh (.one (.int .u64)), true), (.sh (.one (.const (.slw 3 1))), false), (.sh (.arr (.int .u8) none), false)]⟩, [])]
noncomputable def granaryref05_Hash_Sum_g (N : Nat) : GS := { ins := ⟨[(0, (.av (.one (.const (.ptr ⟨0, 0, 0, 0⟩)))))], [(some (.arr (.int .u32) (some 8)), true), (some (.one (.int .u64)), true), (some (.one (.const (.slw 3 1))), false), (some (.arr (.int .u8) none), false)]⟩, lend := [.keep], outs := granaryref05_Hash_Sum_o.map fun s => ssOf s.1, its := [.lst (.int .u32), .int, .lst (.int .u8)], ots := [[.lst (.int .u8), .lst (.int .u32), .int, .lst (.int .u8)]], F := granaryref05_Hash_Sum N }
noncomputable def granaryref05_Hash_Sum_CA (N : Nat) (f0 : Int → Option (Nat × Nat × (List Int))) (f1 : (List Int) × (List Int) → Option ((List Int))) (f2 : (List Int) → Option ((List Int))) : Nat → List GS := fun k => tabOf k [(55, [{ granaryref05_eight_g N with F := f0 }]), (54, [{ granaryref05_Piece_g N with F := f1 }]), (56, [{ granaryref05_Words_g N with F := f2 }])]
theorem granaryref05_Hash_Sum_CE (N : Nat) : granaryref05_Hash_Sum_CA N (granaryref05_eight) (granaryref05_Piece N) (granaryref05_Words N) = granaryref05_Hash_Sum_C N := by kernel_rfl
theorem granaryref05_Hash_Sum_t (N : Nat) : TabC Try.prog (granaryref05_Hash_Sum_C N) := tab_ok ⟨⟨granaryref05_eight_ok N, trivial⟩, ⟨granaryref05_Piece_ok N, trivial⟩, ⟨granaryref05_Words_ok N, trivial⟩, trivial⟩
theorem granaryref05_Hash_Sum_i0 : loopsOf granaryref05_Hash_Sum_c0 = [] := by kernel_rfl
noncomputable def granaryref05_Hash_Sum_a0 (N : Nat) (f0 : Int → Option (Nat × Nat × (List Int))) (f1 : (List Int) × (List Int) → Option ((List Int))) (f2 : (List Int) → Option ((List Int))) (next : (List Int) → Option (((List Int)))) (x : (List Int)) : Option (((List Int))) :=
  (cond (!(decide ((Int.tmod (wrapF .i64 ((((List.length x) : Nat) : Int) + (8 : Int))) (64 : Int)) = (0 : Int))))
  (let v5 : List Int := ([(0 : Int)] : List Int)
  (cond ((decide (1 ≤ (List.length v5))) && (fits 1 ((List.length x) + (List.length (List.take 1 (List.drop 0 v5))))))
  ((next (x ++ (List.take 1 (List.drop 0 v5)))))
  none))
  (some x))
theorem granaryref05_Hash_Sum_f0 (N : Nat) (f0 : Int → Option (Nat × Nat × (List Int))) (f1 : (List Int) × (List Int) → Option ((List Int))) (f2 : (List Int) → Option ((List Int))) (next) (x) : granaryref05_Hash_Sum_a0 N f0 f1 f2 next x = loopStep Γ (granaryref05_Hash_Sum_CA N f0 f1 f2) (granaryref05_Hash_Sum_J N) 0 57 granaryref05_Hash_Sum_d0 granaryref05_Hash_Sum_c0 next x := by kernel_rfl
theorem granaryref05_Hash_Sum_e0 (N : Nat) (next) (x) : granaryref05_Hash_Sum_b0 N next x = loopStep Γ (granaryref05_Hash_Sum_C N) (granaryref05_Hash_Sum_J N) 0 57 granaryref05_Hash_Sum_d0 granaryref05_Hash_Sum_c0 next x := by
  rw [← granaryref05_Hash_Sum_CE N]
  exact Eq.trans (by kernel_rfl) (granaryref05_Hash_Sum_f0 N (granaryref05_eight) (granaryref05_Piece N) (granaryref05_Words N) next x)
theorem granaryref05_Hash_Sum_k0 (N : Nat) : LoopOK Try.prog 57 granaryref05_Hash_Sum_c0 ⟨granaryref05_Hash_Sum_d0, loopF (granaryref05_Hash_Sum_b0 N) N⟩ := loop_ok tabOK (granaryref05_Hash_Sum_t N) mixedOK (J := granaryref05_Hash_Sum_J N) (cx := 0) (body := granaryref05_Hash_Sum_c0) (nt := 57) (l := granaryref05_Hash_Sum_d0) (b := granaryref05_Hash_Sum_b0 N) (jok_from granaryref05_Hash_Sum_i0 ⟨trivial, trivial⟩) (granaryref05_Hash_Sum_e0 N) N
theorem granaryref05_Hash_Sum_i2 : loopsOf granaryref05_Hash_Sum_c2 = [] := by kernel_rfl
noncomputable def granaryref05_Hash_Sum_a2 (N : Nat) (f0 : Int → Option (Nat × Nat × (List Int))) (f1 : (List Int) × (List Int) → Option ((List Int))) (f2 : (List Int) → Option ((List Int))) (next : Nat × Nat × (List Int) × (List Int) → Option (((List Int) × (List Int)))) (x : Nat × Nat × (List Int) × (List Int)) : Option (((List Int) × (List Int))) :=
  (cond (decide ((0 : Int) < ((x.2.1 : Nat) : Int)))
  (cond (cond (decide ((x.1 + x.2.1) ≤ (List.length x.2.2.1))) true false)
  (Option.bind (f1 (x.2.2.2, (List.take x.2.1 (List.drop x.1 x.2.2.1)))) fun r3 =>
  (cond ((decide ((64 : Int) ≤ ((x.2.1 : Nat) : Int))) && (decide (((x.2.1 : Nat) : Int) ≤ ((x.2.1 : Nat) : Int))))
  ((next ((64 + x.1), (x.2.1 - 64), x.2.2.1, r3)))
  none))
  none)
  (some (x.2.2.1, x.2.2.2)))
theorem granaryref05_Hash_Sum_f2 (N : Nat) (f0 : Int → Option (Nat × Nat × (List Int))) (f1 : (List Int) × (List Int) → Option ((List Int))) (f2 : (List Int) → Option ((List Int))) (next) (x) : granaryref05_Hash_Sum_a2 N f0 f1 f2 next x = loopStep Γ (granaryref05_Hash_Sum_CA N f0 f1 f2) (granaryref05_Hash_Sum_J N) 0 57 granaryref05_Hash_Sum_d2 granaryref05_Hash_Sum_c2 next x := by kernel_rfl
theorem granaryref05_Hash_Sum_e2 (N : Nat) (next) (x) : granaryref05_Hash_Sum_b2 N next x = loopStep Γ (granaryref05_Hash_Sum_C N) (granaryref05_Hash_Sum_J N) 0 57 granaryref05_Hash_Sum_d2 granaryref05_Hash_Sum_c2 next x := by
  rw [← granaryref05_Hash_Sum_CE N]
  exact Eq.trans (by kernel_rfl) (granaryref05_Hash_Sum_f2 N (granaryref05_eight) (granaryref05_Piece N) (granaryref05_Words N) next x)
theorem granaryref05_Hash_Sum_k2 (N : Nat) : LoopOK Try.prog 57 granaryref05_Hash_Sum_c2 ⟨granaryref05_Hash_Sum_d2, loopF (granaryref05_Hash_Sum_b2 N) N⟩ := loop_ok tabOK (granaryref05_Hash_Sum_t N) mixedOK (J := granaryref05_Hash_Sum_J N) (cx := 0) (body := granaryref05_Hash_Sum_c2) (nt := 57) (l := granaryref05_Hash_Sum_d2) (b := granaryref05_Hash_Sum_b2 N) (jok_from granaryref05_Hash_Sum_i2 ⟨trivial, trivial⟩) (granaryref05_Hash_Sum_e2 N) N
theorem granaryref05_Hash_Sum_i4 : loopsOf granaryref05_Hash_Sum_c4 = [] := by kernel_rfl
noncomputable def granaryref05_Hash_Sum_a4 (N : Nat) (f0 : Int → Option (Nat × Nat × (List Int))) (f1 : (List Int) × (List Int) → Option ((List Int))) (f2 : (List Int) → Option ((List Int))) (next : Int × (List Int) × (List Int) → Option (((List Int) × (List Int)))) (x : Int × (List Int) × (List Int)) : Option (((List Int) × (List Int))) :=
  (cond (decide (x.1 < (32 : Int)))
  (cond ((decide ((0 : Int) ≤ x.1)) && (decide (x.1 < (((List.length x.2.1) : Nat) : Int))))
  ((let v2 : Nat := (Int.toNat x.1)
  (cond (decide (v2 < (List.length x.2.1)))
  ((cond ((decide ((0 : Int) ≤ x.1)) && (decide (x.1 < (32 : Int))))
  ((let v4 : Nat := (Int.toNat x.1)
  (cond (decide (v4 < (List.length x.2.2)))
  ((next ((wrapF .i64 (x.1 + (1 : Int))), x.2.1, (List.set x.2.2 v4 (List.getD x.2.1 v2 (EK.dflt (.int .u8)))))))
  none)))
  none))
  none)))
  none)
  (some (x.2.1, x.2.2)))
theorem granaryref05_Hash_Sum_f4 (N : Nat) (f0 : Int → Option (Nat × Nat × (List Int))) (f1 : (List Int) × (List Int) → Option ((List Int))) (f2 : (List Int) → Option ((List Int))) (next) (x) : granaryref05_Hash_Sum_a4 N f0 f1 f2 next x = loopStep Γ (granaryref05_Hash_Sum_CA N f0 f1 f2) (granaryref05_Hash_Sum_J N) 0 57 granaryref05_Hash_Sum_d4 granaryref05_Hash_Sum_c4 next x := by kernel_rfl
theorem granaryref05_Hash_Sum_e4 (N : Nat) (next) (x) : granaryref05_Hash_Sum_b4 N next x = loopStep Γ (granaryref05_Hash_Sum_C N) (granaryref05_Hash_Sum_J N) 0 57 granaryref05_Hash_Sum_d4 granaryref05_Hash_Sum_c4 next x := by
  rw [← granaryref05_Hash_Sum_CE N]
  exact Eq.trans (by kernel_rfl) (granaryref05_Hash_Sum_f4 N (granaryref05_eight) (granaryref05_Piece N) (granaryref05_Words N) next x)
theorem granaryref05_Hash_Sum_k4 (N : Nat) : LoopOK Try.prog 57 granaryref05_Hash_Sum_c4 ⟨granaryref05_Hash_Sum_d4, loopF (granaryref05_Hash_Sum_b4 N) N⟩ := loop_ok tabOK (granaryref05_Hash_Sum_t N) mixedOK (J := granaryref05_Hash_Sum_J N) (cx := 0) (body := granaryref05_Hash_Sum_c4) (nt := 57) (l := granaryref05_Hash_Sum_d4) (b := granaryref05_Hash_Sum_b4 N) (jok_from granaryref05_Hash_Sum_i4 ⟨trivial, trivial⟩) (granaryref05_Hash_Sum_e4 N) N
theorem granaryref05_Hash_Sum_i : loopsOf granaryref05_Hash_Sum_c = [(0, granaryref05_Hash_Sum_c0), (2, granaryref05_Hash_Sum_c2), (4, granaryref05_Hash_Sum_c4)] := by kernel_rfl
noncomputable def granaryref05_Hash_Sum_a (N : Nat) (f0 : Int → Option (Nat × Nat × (List Int))) (f1 : (List Int) × (List Int) → Option ((List Int))) (f2 : (List Int) → Option ((List Int))) (x : (List Int) × Int × (List Int)) : Option ((List Int) × (List Int) × Int × (List Int)) :=
  (cond (fits 1 (List.length x.2.2))
  ((let v3 : List Int := ([(128 : Int)] : List Int)
  (cond ((decide (1 ≤ (List.length v3))) && (fits 1 ((List.length x.2.2) + (List.length (List.take 1 (List.drop 0 v3))))))
  ((Option.bind (granaryref05_Hash_Sum_l0 N (x.2.2 ++ (List.take 1 (List.drop 0 v3)))) fun r5 =>
  (Option.bind (f0 (wrapF .u64 ((8 : Int) * x.2.1))) fun r7 =>
  (cond ((decide ((r7.1 + r7.2.1) ≤ (List.length r7.2.2))) && (fits 1 ((List.length r5) + (List.length (List.take r7.2.1 (List.drop r7.1 r7.2.2))))))
  ((let v8 : List Int := (r5 ++ (List.take r7.2.1 (List.drop r7.1 r7.2.2)))
  (Option.bind (granaryref05_Hash_Sum_l2 N (0, (List.length v8), v8, x.1)) fun r10 =>
  (Option.bind (f2 r10.2) fun r11 =>
  (Option.bind (granaryref05_Hash_Sum_l4 N ((0 : Int), r11, (List.replicate 32 (EK.dflt (.int .u8))))) fun r13 =>
  (some (r13.2, x.1, x.2.1, x.2.2)))))))
  none))))
  none)))
  none)
theorem granaryref05_Hash_Sum_f (N : Nat) (f0 : Int → Option (Nat × Nat × (List Int))) (f1 : (List Int) × (List Int) → Option ((List Int))) (f2 : (List Int) → Option ((List Int))) (x) : granaryref05_Hash_Sum_a N f0 f1 f2 x = fnStep Γ (granaryref05_Hash_Sum_CA N f0 f1 f2) (granaryref05_Hash_Sum_J N) 57 Try.f36.results.toList (granaryref05_Hash_Sum_g N) granaryref05_Hash_Sum_o granaryref05_Hash_Sum_c x := by kernel_rfl
theorem granaryref05_Hash_Sum_e (N : Nat) (x) : (granaryref05_Hash_Sum_g N).F x = fnStep Γ (granaryref05_Hash_Sum_C N) (granaryref05_Hash_Sum_J N) 57 Try.f36.results.toList (granaryref05_Hash_Sum_g N) granaryref05_Hash_Sum_o granaryref05_Hash_Sum_c x := by
  rw [← granaryref05_Hash_Sum_CE N]
  exact Eq.trans (by kernel_rfl) (granaryref05_Hash_Sum_f N (granaryref05_eight) (granaryref05_Piece N) (granaryref05_Words N) x)
theorem granaryref05_Hash_Sum_y : Try.f36.body = some granaryref05_Hash_Sum_c := by kernel_rfl
theorem granaryref05_Hash_Sum_n : (Try.f36.name == "runtime.NumGoroutine") = false := by kernel_rfl
theorem granaryref05_Hash_Sum_ok (N : Nat) : FnDoes Try.prog 36 (granaryref05_Hash_Sum_g N) := fn_ok tabOK (granaryref05_Hash_Sum_t N) mixedOK (J := granaryref05_Hash_Sum_J N) (body := granaryref05_Hash_Sum_c) Try.func36 granaryref05_Hash_Sum_y granaryref05_Hash_Sum_n Try.ntmps36 (jok_from granaryref05_Hash_Sum_i ⟨⟨.inr ⟨_, rfl, granaryref05_Hash_Sum_k0 N⟩, .inr ⟨_, rfl, granaryref05_Hash_Sum_k2 N⟩, .inr ⟨_, rfl, granaryref05_Hash_Sum_k4 N⟩, trivial⟩, trivial⟩) rfl rfl (le_of_ble rfl) (granaryref05_Hash_Sum_e N)
noncomputable def granaryref05_Sum_c : Code := codeOf Try.f11.body
noncomputable def granaryref05_Sum_J (N : Nat) : Nat → Hint := fun cx => hintOf cx []
noncomputable def granaryref05_Sum_C (N : Nat) : Nat → List GS := fun k => tabOf k [(34, [granaryref05_New_g N]), (35, [granaryref05_Hash_Write_g N]), (36, [granaryref05_Hash_Sum_g N])]
def granaryref05_Sum_o : List (Shp × List Nat) := [(⟨[(0, (.av (.agg [(.arr (.int .u8) (some 32))])))], []⟩, [])]
noncomputable def granaryref05_Sum_g (N : Nat) : GS := { ins := ⟨[(0, (.av (.one (.rsl (.int .u8)))))], []⟩, lend := [.keep], outs := granaryref05_Sum_o.map fun s => ssOf s.1, its := [.lst (.int .u8)], ots := [[.lst (.int .u8)]], F := granaryref05_Sum N }
noncomputable def granaryref05_Sum_CA (N : Nat) (f0 : Unit → Option ((List Int))) (f1 : (List Int) × (List Int) × Int → Option ((List Int) × Int × (List Int))) (f2 : (List Int) × Int × (List Int) → Option ((List Int) × (List Int) × Int × (List Int))) : Nat → List GS := fun k => tabOf k [(34, [{ granaryref05_New_g N with F := f0 }]), (35, [{ granaryref05_Hash_Write_g N with F := f1 }]), (36, [{ granaryref05_Hash_Sum_g N with F := f2 }])]
theorem granaryref05_Sum_CE (N : Nat) : granaryref05_Sum_CA N (granaryref05_New) (granaryref05_Hash_Write N) (granaryref05_Hash_Sum N) = granaryref05_Sum_C N := by kernel_rfl
theorem granaryref05_Sum_t (N : Nat) : TabC Try.prog (granaryref05_Sum_C N) := tab_ok ⟨⟨granaryref05_New_ok N, trivial⟩, ⟨granaryref05_Hash_Write_ok N, trivial⟩, ⟨granaryref05_Hash_Sum_ok N, trivial⟩, trivial⟩
theorem granaryref05_Sum_i : loopsOf granaryref05_Sum_c = [] := by kernel_rfl
noncomputable def granaryref05_Sum_a (N : Nat) (f0 : Unit → Option ((List Int))) (f1 : (List Int) × (List Int) × Int → Option ((List Int) × Int × (List Int))) (f2 : (List Int) × Int × (List Int) → Option ((List Int) × (List Int) × Int × (List Int))) (x : (List Int)) : Option ((List Int)) :=
  (Option.bind (f0 ()) fun r2 =>
  (Option.bind (f1 (x, r2, (0 : Int))) fun r3 =>
  (Option.bind (f2 (r3.1, r3.2.1, r3.2.2)) fun r4 =>
  (some r4.1))))
theorem granaryref05_Sum_f (N : Nat) (f0 : Unit → Option ((List Int))) (f1 : (List Int) × (List Int) × Int → Option ((List Int) × Int × (List Int))) (f2 : (List Int) × Int × (List Int) → Option ((List Int) × (List Int) × Int × (List Int))) (x) : granaryref05_Sum_a N f0 f1 f2 x = fnStep Γ (granaryref05_Sum_CA N f0 f1 f2) (granaryref05_Sum_J N) 10 Try.f11.results.toList (granaryref05_Sum_g N) granaryref05_Sum_o granaryref05_Sum_c x := by kernel_rfl
theorem granaryref05_Sum_e (N : Nat) (x) : (granaryref05_Sum_g N).F x = fnStep Γ (granaryref05_Sum_C N) (granaryref05_Sum_J N) 10 Try.f11.results.toList (granaryref05_Sum_g N) granaryref05_Sum_o granaryref05_Sum_c x := by
  rw [← granaryref05_Sum_CE N]
  exact Eq.trans (by kernel_rfl) (granaryref05_Sum_f N (granaryref05_New) (granaryref05_Hash_Write N) (granaryref05_Hash_Sum N) x)
theorem granaryref05_Sum_y : Try.f11.body = some granaryref05_Sum_c := by kernel_rfl
theorem granaryref05_Sum_n : (Try.f11.name == "runtime.NumGoroutine") = false := by kernel_rfl
theorem granaryref05_Sum_ok (N : Nat) : FnDoes Try.prog 11 (granaryref05_Sum_g N) := fn_ok tabOK (granaryref05_Sum_t N) mixedOK (J := granaryref05_Sum_J N) (body := granaryref05_Sum_c) Try.func11 granaryref05_Sum_y granaryref05_Sum_n Try.ntmps11 (jok_from granaryref05_Sum_i trivial) rfl rfl (le_of_ble rfl) (granaryref05_Sum_e N)
noncomputable def granaryref05_More_c : Code := codeOf Try.f15.body
noncomputable def granaryref05_More_c0 : Code := codeOf (getLoop 0 granaryref05_More_c)
noncomputable def granaryref05_More_c2 : Code := codeOf (getLoop 2 granaryref05_More_c)
def granaryref05_More_d2 : LD := { ins := ⟨[(1, (.av (.one (.rsl (.int .u8))))), (5, (.av (.one (.int .u32)))), (6, (.av (.one (.int .i64)))), (7, (.av (.one (.int .i64))))], []⟩, mov := [], wr := [], outs := [(.exit 2, ⟨[(5, (.av (.one (.int .u32))))], []⟩)], its := [.lst (.int .u8), .int, .int, .int], ots := [[.int]] }
def granaryref05_More_d0 : LD := { ins := ⟨[(1, (.av (.one (.rsl (.int .u8))))), (5, (.av (.one (.int .u32)))), (6, (.av (.one (.int .i64))))], []⟩, mov := [], wr := [], outs := [(.exit 0, ⟨[(5, (.av (.one (.int .u32))))], []⟩)], its := [.lst (.int .u8), .int, .int], ots := [[.int]] }
noncomputable def granaryref05_More_J (N : Nat) : Nat → Hint := fun cx => hintOf cx [(0, { reg := fun k => assoc0 k [], cnd := fun k => assoc0 k [(33, ⟨[], [], [(.normal, ⟨[(5, (.av (.one (.int .u32))))], []⟩)], [[.int]]⟩)], loop := fun k => assoc0 k [(2, ⟨granaryref05_More_d2, loopF (granaryref05_More_b2 N) N⟩), (0, ⟨granaryref05_More_d0, loopF (granaryref05_More_b0 N) N⟩)], nil := fun k => assoc0 k [], unr := fun k => assocN k [], blk := fun k => assoc0 k [] })]
noncomputable def granaryref05_More_C (N : Nat) : Nat → List GS := fun k => tabOf k []
def granaryref05_More_o : List (Shp × List Nat) := [(⟨[(0, (.av (.one (.int .u32))))], []⟩, [])]
noncomputable def granaryref05_More_g (N : Nat) : GS := { ins := ⟨[(0, (.av (.one (.int .u32)))), (1, (.av (.one (.rsl (.int .u8)))))], []⟩, lend := [.keep, .keep], outs := granaryref05_More_o.map fun s => ssOf s.1, its := [.int, .lst (.int .u8)], ots := [[.int]], F := granaryref05_More N }
theorem granaryref05_More_t (N : Nat) : TabC Try.prog (granaryref05_More_C N) := tab_ok trivial
theorem granaryref05_More_i2 : loopsOf granaryref05_More_c2 = [] := by kernel_rfl
theorem granaryref05_More_e2 (N : Nat) (next) (x) : granaryref05_More_b2 N next x = loopStep Γ (granaryref05_More_C N) (granaryref05_More_J N) 0 38 granaryref05_More_d2 granaryref05_More_c2 next x := by kernel_rfl
theorem granaryref05_More_k2 (N : Nat) : LoopOK Try.prog 38 granaryref05_More_c2 ⟨granaryref05_More_d2, loopF (granaryref05_More_b2 N) N⟩ := loop_ok tabOK (granaryref05_More_t N) mixedOK (J := granaryref05_More_J N) (cx := 0) (body := granaryref05_More_c2) (nt := 38) (l := granaryref05_More_d2) (b := granaryref05_More_b2 N) (jok_from granaryref05_More_i2 ⟨trivial, trivial⟩) (granaryref05_More_e2 N) N
theorem granaryref05_More_i0 : loopsOf granaryref05_More_c0 = [(2, granaryref05_More_c2)] := by kernel_rfl
theorem granaryref05_More_e0 (N : Nat) (next) (x) : granaryref05_More_b0 N next x = loopStep Γ (granaryref05_More_C N) (granaryref05_More_J N) 0 38 granaryref05_More_d0 granaryref05_More_c0 next x := by kernel_rfl
theorem granaryref05_More_k0 (N : Nat) : LoopOK Try.prog 38 granaryref05_More_c0 ⟨granaryref05_More_d0, loopF (granaryref05_More_b0 N) N⟩ := loop_ok tabOK (granaryref05_More_t N) mixedOK (J := granaryref05_More_J N) (cx := 0) (body := granaryref05_More_c0) (nt := 38) (l := granaryref05_More_d0) (b := granaryref05_More_b0 N) (jok_from granaryref05_More_i0 ⟨⟨.inr ⟨_, rfl, granaryref05_More_k2 N⟩, trivial⟩, trivial⟩) (granaryref05_More_e0 N) N
theorem granaryref05_More_i : loopsOf granaryref05_More_c = [(0, granaryref05_More_c0), (2, granaryref05_More_c2)] := by kernel_rfl
theorem granaryref05_More_e (N : Nat) (x) : (granaryref05_More_g N).F x = fnStep Γ (granaryref05_More_C N) (granaryref05_More_J N) 38 Try.f15.results.toList (granaryref05_More_g N) granaryref05_More_o granaryref05_More_c x := by kernel_rfl
theorem granaryref05_More_y : Try.f15.body = some granaryref05_More_c := by kernel_rfl
theorem granaryref05_More_n : (Try.f15.name == "runtime.NumGoroutine") = false := by kernel_rfl
theorem granaryref05_More_ok (N : Nat) : FnDoes Try.prog 15 (granaryref05_More_g N) := fn_ok tabOK (granaryref05_More_t N) mixedOK (J := granaryref05_More_J N) (body := granaryref05_More_c) Try.func15 granaryref05_More_y granaryref05_More_n Try.ntmps15 (jok_from granaryref05_More_i ⟨⟨.inr ⟨_, rfl, granaryref05_More_k0 N⟩, .inr ⟨_, rfl, granaryref05_More_k2 N⟩, trivial⟩, trivial⟩) rfl rfl (le_of_ble rfl) (granaryref05_More_e N)
noncomputable def granaryref05_Crc_c : Code := codeOf Try.f13.body
noncomputable def granaryref05_Crc_J (N : Nat) : Nat → Hint := fun cx => hintOf cx []
noncomputable def granaryref05_Crc_C (N : Nat) : Nat → List GS := fun k => tabOf k [(15, [granaryref05_More_g N])]
def granaryref05_Crc_o : List (Shp × List Nat) := [(⟨[(0, (.av (.one (.int .u32))))], []⟩, [])]
noncomputable def granaryref05_Crc_g (N : Nat) : GS := { ins := ⟨[(0, (.av (.one (.rsl (.int .u8)))))], []⟩, lend := [.keep], outs := granaryref05_Crc_o.map fun s => ssOf s.1, its := [.lst (.int .u8)], ots := [[.int]], F := granaryref05_Crc N }
noncomputable def granaryref05_Crc_CA (N : Nat) (f0 : Int × (List Int) → Option (Int)) : Nat → List GS := fun k => tabOf k [(15, [{ granaryref05_More_g N with F := f0 }])]
theorem granaryref05_Crc_CE (N : Nat) : granaryref05_Crc_CA N (granaryref05_More N) = granaryref05_Crc_C N := by kernel_rfl
theorem granaryref05_Crc_t (N : Nat) : TabC Try.prog (granaryref05_Crc_C N) := tab_ok ⟨⟨granaryref05_More_ok N, trivial⟩, trivial⟩
theorem granaryref05_Crc_i : loopsOf granaryref05_Crc_c = [] := by kernel_rfl
noncomputable def granaryref05_Crc_a (N : Nat) (f0 : Int × (List Int) → Option (Int)) (x : (List Int)) : Option (Int) :=
  (Option.bind (f0 ((0 : Int), x)) fun r1 =>
  (some r1))
theorem granaryref05_Crc_f (N : Nat) (f0 : Int × (List Int) → Option (Int)) (x) : granaryref05_Crc_a N f0 x = fnStep Γ (granaryref05_Crc_CA N f0) (granaryref05_Crc_J N) 5 Try.f13.results.toList (granaryref05_Crc_g N) granaryref05_Crc_o granaryref05_Crc_c x := by kernel_rfl
theorem granaryref05_Crc_e (N : Nat) (x) : (granaryref05_Crc_g N).F x = fnStep Γ (granaryref05_Crc_C N) (granaryref05_Crc_J N) 5 Try.f13.results.toList (granaryref05_Crc_g N) granaryref05_Crc_o granaryref05_Crc_c x := by
  rw [← granaryref05_Crc_CE N]
  exact Eq.trans (by kernel_rfl) (granaryref05_Crc_f N (granaryref05_More N) x)
theorem granaryref05_Crc_y : Try.f13.body = some granaryref05_Crc_c := by kernel_rfl
theorem granaryref05_Crc_n : (Try.f13.name == "runtime.NumGoroutine") = false := by kernel_rfl
theorem granaryref05_Crc_ok (N : Nat) : FnDoes Try.prog 13 (granaryref05_Crc_g N) := fn_ok tabOK (granaryref05_Crc_t N) mixedOK (J := granaryref05_Crc_J N) (body := granaryref05_Crc_c) Try.func13 granaryref05_Crc_y granaryref05_Crc_n Try.ntmps13 (jok_from granaryref05_Crc_i trivial) rfl rfl (le_of_ble rfl) (granaryref05_Crc_e N)
noncomputable def sha_More_v1_c : Code := codeOf Try.f14.body
noncomputable def sha_More_v1_c0 : Code := codeOf (getLoop 0 sha_More_v1_c)
def sha_More_v1_d0 : LD := { ins := ⟨[(5, (.av (.one (.const (.ptr ⟨0, 0, 0, 0⟩))))), (6, (.av (.one (.int .u32)))), (12, (.av (.one (.rsl (.int .u8))))), (13, (.av (.one (.int .i64)))), (14, (.av (.one (.int .i64))))], [(.sh (.arr (.int .u32) (some 16)), false)]⟩, mov := [], wr := [0], outs := [(.exit 0, ⟨[(6, (.av (.one (.int .u32))))], [(.sh (.arr (.int .u32) (some 16)), false)]⟩)], its := [.int, .lst (.int .u8), .int, .int, .lst (.int .u32)], ots := [[.int, .lst (.int .u32)]] }
noncomputable def sha_More_v1_J (N : Nat) : Nat → Hint := fun cx => hintOf cx [(0, { reg := fun k => assoc0 k [], cnd := fun k => assoc0 k [], loop := fun k => assoc0 k [(0, ⟨sha_More_v1_d0, loopF (sha_More_v1_b0 N) N⟩)], nil := fun k => assoc0 k [], unr := fun k => assocN k [], blk := fun k => assoc0 k [] })]
noncomputable def sha_More_v1_C (N : Nat) : Nat → List GS := fun k => tabOf k [(37, [sha_steps_g N])]
def sha_More_v1_o : List (Shp × List Nat) := [(⟨[(0, (.av (.one (.int .u32))))], []⟩, [])]
noncomputable def sha_More_v1_g (N : Nat) : GS := { ins := ⟨[(0, (.av (.one (.int .u32)))), (1, (.av (.one (.rsl (.int .u8)))))], []⟩, lend := [.keep, .lend (.int .u8)], outs := sha_More_v1_o.map fun s => ssOf s.1, its := [.int, .lst (.int .u8)], ots := [[.int]], F := sha_More_v1 N }
noncomputable def sha_More_v1_CA (N : Nat) (f0 : Unit → Option ((List Int))) : Nat → List GS := fun k => tabOf k [(37, [{ sha_steps_g N with F := f0 }])]
theorem sha_More_v1_CE (N : Nat) : sha_More_v1_CA N (sha_steps) = sha_More_v1_C N := by kernel_rfl
theorem sha_More_v1_t (N : Nat) : TabC Try.prog (sha_More_v1_C N) := tab_ok ⟨⟨sha_steps_ok N, trivial⟩, trivial⟩
theorem sha_More_v1_i0 : loopsOf sha_More_v1_c0 = [] := by kernel_rfl
noncomputable def sha_More_v1_a0 (N : Nat) (f0 : Unit → Option ((List Int))) (next : Int × (List Int) × Int × Int × (List Int) → Option ((Int × (List Int)))) (x : Int × (List Int) × Int × Int × (List Int)) : Option ((Int × (List Int))) :=
  (cond (decide (x.2.2.2.1 < x.2.2.1))
  (cond ((decide ((0 : Int) ≤ x.2.2.2.1)) && (decide (x.2.2.2.1 < (((List.length x.2.1) : Nat) : Int))))
  ((let v4 : Int := (xorF .u32 x.1 (wrapF .u32 (List.getD x.2.1 (Int.toNat x.2.2.2.1) (EK.dflt (.int .u8)))))
  (let v6 : Int := (andF .u32 v4 (15 : Int))
  (cond ((decide ((0 : Int) ≤ v6)) && (decide (v6 < (16 : Int))))
  ((let v7 : Nat := (Int.toNat v6)
  (cond (decide (v7 < (List.length x.2.2.2.2)))
  ((let v9 : Int := (xorF .u32 (shrF .u32 v4 (4 : Int)) (List.getD x.2.2.2.2 v7 (EK.dflt (.int .u32))))
  (let v11 : Int := (andF .u32 v9 (15 : Int))
  (cond ((decide ((0 : Int) ≤ v11)) && (decide (v11 < (16 : Int))))
  ((let v12 : Nat := (Int.toNat v11)
  (cond (decide (v12 < (List.length x.2.2.2.2)))
  ((next ((xorF .u32 (shrF .u32 v9 (4 : Int)) (List.getD x.2.2.2.2 v12 (EK.dflt (.int .u32)))), x.2.1, x.2.2.1, (wrapF .i64 (x.2.2.2.1 + (1 : Int))), x.2.2.2.2)))
  none)))
  none))))
  none)))
  none))))
  none)
  (some (x.1, x.2.2.2.2)))
theorem sha_More_v1_f0 (N : Nat) (f0 : Unit → Option ((List Int))) (next) (x) : sha_More_v1_a0 N f0 next x = loopStep Γ (sha_More_v1_CA N f0) (sha_More_v1_J N) 0 39 sha_More_v1_d0 sha_More_v1_c0 next x := by kernel_rfl
theorem sha_More_v1_e0 (N : Nat) (next) (x) : sha_More_v1_b0 N next x = loopStep Γ (sha_More_v1_C N) (sha_More_v1_J N) 0 39 sha_More_v1_d0 sha_More_v1_c0 next x := by
  rw [← sha_More_v1_CE N]
  exact Eq.trans (by kernel_rfl) (sha_More_v1_f0 N (sha_steps) next x)
theorem sha_More_v1_k0 (N : Nat) : LoopOK Try.prog 39 sha_More_v1_c0 ⟨sha_More_v1_d0, loopF (sha_More_v1_b0 N) N⟩ := loop_ok tabOK (sha_More_v1_t N) mixedOK (J := sha_More_v1_J N) (cx := 0) (body := sha_More_v1_c0) (nt := 39) (l := sha_More_v1_d0) (b := sha_More_v1_b0 N) (jok_from sha_More_v1_i0 ⟨trivial, trivial⟩) (sha_More_v1_e0 N) N
theorem sha_More_v1_i : loopsOf sha_More_v1_c = [(0, sha_More_v1_c0)] := by kernel_rfl
noncomputable def sha_More_v1_a (N : Nat) (f0 : Unit → Option ((List Int))) (x : Int × (List Int)) : Option (Int) :=
  (Option.bind (f0 ()) fun r1 =>
  (Option.bind (sha_More_v1_l0 N ((xorF .u32 (4294967295 : Int) x.1), x.2, (((List.length x.2) : Nat) : Int), (0 : Int), r1)) fun r5 =>
  (some (xorF .u32 (4294967295 : Int) r5.1))))
theorem sha_More_v1_f (N : Nat) (f0 : Unit → Option ((List Int))) (x) : sha_More_v1_a N f0 x = fnStep Γ (sha_More_v1_CA N f0) (sha_More_v1_J N) 39 Try.f14.results.toList (sha_More_v1_g N) sha_More_v1_o sha_More_v1_c x := by kernel_rfl
theorem sha_More_v1_e (N : Nat) (x) : (sha_More_v1_g N).F x = fnStep Γ (sha_More_v1_C N) (sha_More_v1_J N) 39 Try.f14.results.toList (sha_More_v1_g N) sha_More_v1_o sha_More_v1_c x := by
  rw [← sha_More_v1_CE N]
  exact Eq.trans (by kernel_rfl) (sha_More_v1_f N (sha_steps) x)
theorem sha_More_v1_y : Try.f14.body = some sha_More_v1_c := by kernel_rfl
theorem sha_More_v1_n : (Try.f14.name == "runtime.NumGoroutine") = false := by kernel_rfl
theorem sha_More_v1_ok (N : Nat) : FnDoes Try.prog 14 (sha_More_v1_g N) := fn_ok tabOK (sha_More_v1_t N) mixedOK (J := sha_More_v1_J N) (body := sha_More_v1_c) Try.func14 sha_More_v1_y sha_More_v1_n Try.ntmps14 (jok_from sha_More_v1_i ⟨⟨.inr ⟨_, rfl, sha_More_v1_k0 N⟩, trivial⟩, trivial⟩) rfl rfl (le_of_ble rfl) (sha_More_v1_e N)
noncomputable def granaryref05_digit_c : Code := codeOf Try.f39.body
noncomputable def granaryref05_digit_c0 : Code := codeOf (getLoop 0 granaryref05_digit_c)
def granaryref05_digit_d0 : LD := { ins := ⟨[(0, (.av (.one (.int .u8)))), (3, (.av (.one (.int .i64))))], []⟩, mov := [], wr := [], outs := [(.ret, ⟨[(2, (.av (.one (.int .i64))))], []⟩), (.exit 0, ⟨[], []⟩)], its := [.int, .int], ots := [[.int], []] }
noncomputable def granaryref05_digit_J (N : Nat) : Nat → Hint := fun cx => hintOf cx [(0, { reg := fun k => assoc0 k [], cnd := fun k => assoc0 k [], loop := fun k => assoc0 k [(0, ⟨granaryref05_digit_d0, loopF (granaryref05_digit_b0 N) N⟩)], nil := fun k => assoc0 k [], unr := fun k => assocN k [], blk := fun k => assoc0 k [] })]
noncomputable def granaryref05_digit_C (N : Nat) : Nat → List GS := fun k => tabOf k []
def granaryref05_digit_o : List (Shp × List Nat) := [(⟨[(0, (.av (.one (.int .i64))))], []⟩, [])]
noncomputable def granaryref05_digit_g (N : Nat) : GS := { ins := ⟨[(0, (.av (.one (.int .u8))))], []⟩, lend := [.keep], outs := granaryref05_digit_o.map fun s => ssOf s.1, its := [.int], ots := [[.int]], F := granaryref05_digit N }
theorem granaryref05_digit_t (N : Nat) : TabC Try.prog (granaryref05_digit_C N) := tab_ok trivial
theorem granaryref05_digit_i0 : loopsOf granaryref05_digit_c0 = [] := by kernel_rfl
theorem granaryref05_digit_e0 (N : Nat) (next) (x) : granaryref05_digit_b0 N next x = loopStep Γ (granaryref05_digit_C N) (granaryref05_digit_J N) 0 13 granaryref05_digit_d0 granaryref05_digit_c0 next x := by kernel_rfl
theorem granaryref05_digit_k0 (N : Nat) : LoopOK Try.prog 13 granaryref05_digit_c0 ⟨granaryref05_digit_d0, loopF (granaryref05_digit_b0 N) N⟩ := loop_ok tabOK (granaryref05_digit_t N) mixedOK (J := granaryref05_digit_J N) (cx := 0) (body := granaryref05_digit_c0) (nt := 13) (l := granaryref05_digit_d0) (b := granaryref05_digit_b0 N) (jok_from granaryref05_digit_i0 ⟨trivial, trivial⟩) (granaryref05_digit_e0 N) N
theorem granaryref05_digit_i : loopsOf granaryref05_digit_c = [(0, granaryref05_digit_c0)] := by kernel_rfl
theorem granaryref05_digit_e (N : Nat) (x) : (granaryref05_digit_g N).F x = fnStep Γ (granaryref05_digit_C N) (granaryref05_digit_J N) 13 Try.f39.results.toList (granaryref05_digit_g N) granaryref05_digit_o granaryref05_digit_c x := by kernel_rfl
theorem granaryref05_digit_y : Try.f39.body = some granaryref05_digit_c := by kernel_rfl
theorem granaryref05_digit_n : (Try.f39.name == "runtime.NumGoroutine") = false := by kernel_rfl
theorem granaryref05_digit_ok (N : Nat) : FnDoes Try.prog 39 (granaryref05_digit_g N) := fn_ok tabOK (granaryref05_digit_t N) mixedOK (J := granaryref05_digit_J N) (body := granaryref05_digit_c) Try.func39 granaryref05_digit_y granaryref05_digit_n Try.ntmps39 (jok_from granaryref05_digit_i ⟨⟨.inr ⟨_, rfl, granaryref05_digit_k0 N⟩, trivial⟩, trivial⟩) rfl rfl (le_of_ble rfl) (granaryref05_digit_e N)
noncomputable def granaryref05_Parse_c : Code := codeOf Try.f17.body
noncomputable def granaryref05_Parse_c0 : Code := codeOf (getLoop 0 granaryref05_Parse_c)
def granaryref05_Parse_d0 : LD := { ins := ⟨[(0, (.av (.one .str))), (2, (.av (.one (.const (.ptr ⟨0, 0, 0, 0⟩))))), (5, (.av (.one (.const (.ptr ⟨1, 0, 0, 0⟩))))), (6, (.av (.one (.int .i64))))], [(.sh (.arr (.int .u8) (some 32)), false), (.sh (.arr (.int .u8) (some 32)), false)]⟩, mov := [], wr := [0, 1], outs := [(.ret, ⟨[(3, (.av (.one (.const (.int .i64 (50 : Int)))))), (4, (.av (.one (.int .i64))))], [(.sh (.arr (.int .u8) (some 32)), false), (.sh (.arr (.int .u8) (some 32)), false)]⟩), (.exit 0, ⟨[], [(.sh (.arr (.int .u8) (some 32)), false), (.sh (.arr (.int .u8) (some 32)), false)]⟩)], its := [.str, .int, .lst (.int .u8), .lst (.int .u8)], ots := [[.int, .lst (.int .u8), .lst (.int .u8)], [.lst (.int .u8), .lst (.int .u8)]] }
noncomputable def granaryref05_Parse_J (N : Nat) : Nat → Hint := fun cx => hintOf cx [(0, { reg := fun k => assoc0 k [(3, ⟨⟨[(15, (.av (.one .bool)))], [(.keep, false), (.keep, false)]⟩, [], [], [.bool]⟩)], cnd := fun k => assoc0 k [], loop := fun k => assoc0 k [(0, ⟨granaryref05_Parse_d0, loopF (granaryref05_Parse_b0 N) N⟩)], nil := fun k => assoc0 k [], unr := fun k => assocN k [], blk := fun k => assoc0 k [] })]
noncomputable def granaryref05_Parse_C (N : Nat) : Nat → List GS := fun k => tabOf k [(39, [granaryref05_digit_g N])]
def granaryref05_Parse_o : List (Shp × List Nat) := [(⟨[(0, (.tup [(.agg [(.arr (.int .u8) (some 32))]), (.one (.int .i64)), (.one (.int .i64))]))], []⟩, [])]
noncomputable def granaryref05_Parse_g (N : Nat) : GS := { ins := ⟨[(0, (.av (.one .str)))], []⟩, lend := [.keep], outs := granaryref05_Parse_o.map fun s => ssOf s.1, its := [.str], ots := [[.lst (.int .u8), .int, .int]], F := granaryref05_Parse N }
noncomputable def granaryref05_Parse_CA (N : Nat) (f0 : Int → Option (Int)) : Nat → List GS := fun k => tabOf k [(39, [{ granaryref05_digit_g N with F := f0 }])]
theorem granaryref05_Parse_CE (N : Nat) : granaryref05_Parse_CA N (granaryref05_digit N) = granaryref05_Parse_C N := by kernel_rfl
theorem granaryref05_Parse_t (N : Nat) : TabC Try.prog (granaryref05_Parse_C N) := tab_ok ⟨⟨granaryref05_digit_ok N, trivial⟩, trivial⟩
theorem granaryref05_Parse_i0 : loopsOf granaryref05_Parse_c0 = [] := by kernel_rfl
noncomputable def granaryref05_Parse_a0 (N : Nat) (f0 : Int → Option (Int)) (next : (List UInt8) × Int × (List Int) × (List Int) → Option ((Int × (List Int) × (List Int)) ⊕ ((List Int) × (List Int)))) (x : (List UInt8) × Int × (List Int) × (List Int)) : Option ((Int × (List Int) × (List Int)) ⊕ ((List Int) × (List Int))) :=
  (Option.bind
  (cond (decide (x.2.1 < (((List.length x.1) : Nat) : Int)))
  (some (decide (x.2.1 < (64 : Int))))
  (some false))
  fun r4 =>
  (cond r4
  (cond ((decide ((0 : Int) ≤ x.2.1)) && (decide (x.2.1 < (((List.length x.1) : Nat) : Int))))
  ((Option.bind (f0 ((List.getD x.1 (Int.toNat x.2.1) 0).toNat : Int)) fun r6 =>
  (cond (decide (r6 < (0 : Int)))
  (some (.inl (x.2.1, (List.replicate 32 (EK.dflt (.int .u8))), x.2.2.2)))
  (let v9 : Int := (wrapF .i64 (Int.tdiv x.2.1 (2 : Int)))
  (let v10 : Int := (wrapF .i64 (Int.tdiv x.2.1 (2 : Int)))
  (cond ((decide ((0 : Int) ≤ v10)) && (decide (v10 < (32 : Int))))
  ((let v11 : Nat := (Int.toNat v10)
  (cond (decide (v11 < (List.length x.2.2.2)))
  ((cond ((decide ((0 : Int) ≤ v9)) && (decide (v9 < (32 : Int))))
  ((let v16 : Nat := (Int.toNat v9)
  (cond (decide (v16 < (List.length x.2.2.2)))
  ((next (x.1, (wrapF .i64 (x.2.1 + (1 : Int))), x.2.2.1, (List.set x.2.2.2 v16 (wrapF .u8 ((wrapF .u8 ((List.getD x.2.2.2 v11 (EK.dflt (.int .u8))) * (16 : Int))) + (wrapF .u8 r6)))))))
  none)))
  none))
  none)))
  none))))))
  none)
  (some (.inr ((x.2.2.1, x.2.2.2))))))
theorem granaryref05_Parse_f0 (N : Nat) (f0 : Int → Option (Int)) (next) (x) : granaryref05_Parse_a0 N f0 next x = loopStep Γ (granaryref05_Parse_CA N f0) (granaryref05_Parse_J N) 0 48 granaryref05_Parse_d0 granaryref05_Parse_c0 next x := by kernel_rfl
theorem granaryref05_Parse_e0 (N : Nat) (next) (x) : granaryref05_Parse_b0 N next x = loopStep Γ (granaryref05_Parse_C N) (granaryref05_Parse_J N) 0 48 granaryref05_Parse_d0 granaryref05_Parse_c0 next x := by
  rw [← granaryref05_Parse_CE N]
  exact Eq.trans (by kernel_rfl) (granaryref05_Parse_f0 N (granaryref05_digit N) next x)
theorem granaryref05_Parse_k0 (N : Nat) : LoopOK Try.prog 48 granaryref05_Parse_c0 ⟨granaryref05_Parse_d0, loopF (granaryref05_Parse_b0 N) N⟩ := loop_ok tabOK (granaryref05_Parse_t N) mixedOK (J := granaryref05_Parse_J N) (cx := 0) (body := granaryref05_Parse_c0) (nt := 48) (l := granaryref05_Parse_d0) (b := granaryref05_Parse_b0 N) (jok_from granaryref05_Parse_i0 ⟨trivial, trivial⟩) (granaryref05_Parse_e0 N) N
theorem granaryref05_Parse_i : loopsOf granaryref05_Parse_c = [(0, granaryref05_Parse_c0)] := by kernel_rfl
noncomputable def granaryref05_Parse_a (N : Nat) (f0 : Int → Option (Int)) (x : (List UInt8)) : Option ((List Int) × Int × Int) :=
  (Option.bind (granaryref05_Parse_l0 N (x, (0 : Int), (List.replicate 32 (EK.dflt (.int .u8))), (List.replicate 32 (EK.dflt (.int .u8))))) fun r3 =>
  (match r3 with
  | .inl y4 =>
  (some (y4.2.1, (50 : Int), y4.1))
  | .inr z5 =>
  (cond (decide ((((List.length x) : Nat) : Int) < (64 : Int)))
  (some ((List.replicate 32 (EK.dflt (.int .u8))), (3 : Int), (((List.length x) : Nat) : Int)))
  (cond (decide ((64 : Int) < (((List.length x) : Nat) : Int)))
  (some ((List.replicate 32 (EK.dflt (.int .u8))), (4 : Int), (64 : Int)))
  (some (z5.2, (0 : Int), (0 : Int)))))))
theorem granaryref05_Parse_f (N : Nat) (f0 : Int → Option (Int)) (x) : granaryref05_Parse_a N f0 x = fnStep Γ (granaryref05_Parse_CA N f0) (granaryref05_Parse_J N) 48 Try.f17.results.toList (granaryref05_Parse_g N) granaryref05_Parse_o granaryref05_Parse_c x := by kernel_rfl
theorem granaryref05_Parse_e (N : Nat) (x) : (granaryref05_Parse_g N).F x = fnStep Γ (granaryref05_Parse_C N) (granaryref05_Parse_J N) 48 Try.f17.results.toList (granaryref05_Parse_g N) granaryref05_Parse_o granaryref05_Parse_c x := by
  rw [← granaryref05_Parse_CE N]
  exact Eq.trans (by kernel_rfl) (granaryref05_Parse_f N (granaryref05_digit N) x)
theorem granaryref05_Parse_y : Try.f17.body = some granaryref05_Parse_c := by kernel_rfl
theorem granaryref05_Parse_n : (Try.f17.name == "runtime.NumGoroutine") = false := by kernel_rfl
theorem granaryref05_Parse_ok (N : Nat) : FnDoes Try.prog 17 (granaryref05_Parse_g N) := fn_ok tabOK (granaryref05_Parse_t N) mixedOK (J := granaryref05_Parse_J N) (body := granaryref05_Parse_c) Try.func17 granaryref05_Parse_y granaryref05_Parse_n Try.ntmps17 (jok_from granaryref05_Parse_i ⟨⟨.inr ⟨_, rfl, granaryref05_Parse_k0 N⟩, trivial⟩, trivial⟩) rfl rfl (le_of_ble rfl) (granaryref05_Parse_e N)
noncomputable def granaryref05_Hex_c : Code := codeOf Try.f19.body
noncomputable def granaryref05_Hex_c0 : Code := codeOf (getLoop 0 granaryref05_Hex_c)
def granaryref05_Hex_d0 : LD := { ins := ⟨[(1, (.av (.one (.const (.ptr ⟨0, 0, 0, 0⟩))))), (3, (.av (.one .str))), (4, (.av (.one (.int .i64))))], [(.sh (.arr (.int .u8) (some 32)), false)]⟩, mov := [], wr := [0], outs := [(.exit 0, ⟨[(3, (.av (.one .str)))], [(.sh (.arr (.int .u8) (some 32)), false)]⟩)], its := [.str, .int, .lst (.int .u8)], ots := [[.str, .lst (.int .u8)]] }
noncomputable def granaryref05_Hex_J (N : Nat) : Nat → Hint := fun cx => hintOf cx [(0, { reg := fun k => assoc0 k [], cnd := fun k => assoc0 k [], loop := fun k => assoc0 k [(0, ⟨granaryref05_Hex_d0, loopF (granaryref05_Hex_b0 N) N⟩)], nil := fun k => assoc0 k [], unr := fun k => assocN k [], blk := fun k => assoc0 k [] })]
noncomputable def granaryref05_Hex_C (N : Nat) : Nat → List GS := fun k => tabOf k []
def granaryref05_Hex_o : List (Shp × List Nat) := [(⟨[(0, (.av (.one .str)))], []⟩, [])]
noncomputable def granaryref05_Hex_g (N : Nat) : GS := { ins := ⟨[(0, (.av (.agg [(.arr (.int .u8) (some 32))])))], []⟩, lend := [.keep], outs := granaryref05_Hex_o.map fun s => ssOf s.1, its := [.lst (.int .u8)], ots := [[.str]], F := granaryref05_Hex N }
theorem granaryref05_Hex_t (N : Nat) : TabC Try.prog (granaryref05_Hex_C N) := tab_ok trivial
theorem granaryref05_Hex_i0 : loopsOf granaryref05_Hex_c0 = [] := by kernel_rfl
theorem granaryref05_Hex_e0 (N : Nat) (next) (x) : granaryref05_Hex_b0 N next x = loopStep Γ (granaryref05_Hex_C N) (granaryref05_Hex_J N) 0 31 granaryref05_Hex_d0 granaryref05_Hex_c0 next x := by kernel_rfl
theorem granaryref05_Hex_k0 (N : Nat) : LoopOK Try.prog 31 granaryref05_Hex_c0 ⟨granaryref05_Hex_d0, loopF (granaryref05_Hex_b0 N) N⟩ := loop_ok tabOK (granaryref05_Hex_t N) mixedOK (J := granaryref05_Hex_J N) (cx := 0) (body := granaryref05_Hex_c0) (nt := 31) (l := granaryref05_Hex_d0) (b := granaryref05_Hex_b0 N) (jok_from granaryref05_Hex_i0 ⟨trivial, trivial⟩) (granaryref05_Hex_e0 N) N
theorem granaryref05_Hex_i : loopsOf granaryref05_Hex_c = [(0, granaryref05_Hex_c0)] := by kernel_rfl
theorem granaryref05_Hex_e (N : Nat) (x) : (granaryref05_Hex_g N).F x = fnStep Γ (granaryref05_Hex_C N) (granaryref05_Hex_J N) 31 Try.f19.results.toList (granaryref05_Hex_g N) granaryref05_Hex_o granaryref05_Hex_c x := by kernel_rfl
theorem granaryref05_Hex_y : Try.f19.body = some granaryref05_Hex_c := by kernel_rfl
theorem granaryref05_Hex_n : (Try.f19.name == "runtime.NumGoroutine") = false := by kernel_rfl
theorem granaryref05_Hex_ok (N : Nat) : FnDoes Try.prog 19 (granaryref05_Hex_g N) := fn_ok tabOK (granaryref05_Hex_t N) mixedOK (J := granaryref05_Hex_J N) (body := granaryref05_Hex_c) Try.func19 granaryref05_Hex_y granaryref05_Hex_n Try.ntmps19 (jok_from granaryref05_Hex_i ⟨⟨.inr ⟨_, rfl, granaryref05_Hex_k0 N⟩, trivial⟩, trivial⟩) rfl rfl (le_of_ble rfl) (granaryref05_Hex_e N)
noncomputable def sha_Crc_v1_c : Code := codeOf Try.f12.body
noncomputable def sha_Crc_v1_J (N : Nat) : Nat → Hint := fun cx => hintOf cx []
noncomputable def sha_Crc_v1_C (N : Nat) : Nat → List GS := fun k => tabOf k [(14, [sha_More_g N])]
def sha_Crc_v1_o : List (Shp × List Nat) := [(⟨[(0, (.av (.one (.int .u32))))], []⟩, [])]
noncomputable def sha_Crc_v1_g (N : Nat) : GS := { ins := ⟨[(0, (.av (.one (.rsl (.int .u8)))))], []⟩, lend := [.keep], outs := sha_Crc_v1_o.map fun s => ssOf s.1, its := [.lst (.int .u8)], ots := [[.int]], F := sha_Crc_v1 N }
noncomputable def sha_Crc_v1_CA (N : Nat) (f0 : Int × (List Int) → Option (Int)) : Nat → List GS := fun k => tabOf k [(14, [{ sha_More_g N with F := f0 }])]
theorem sha_Crc_v1_CE (N : Nat) : sha_Crc_v1_CA N (sha_More N) = sha_Crc_v1_C N := by kernel_rfl
theorem sha_Crc_v1_t (N : Nat) : TabC Try.prog (sha_Crc_v1_C N) := tab_ok ⟨⟨sha_More_ok N, trivial⟩, trivial⟩
theorem sha_Crc_v1_i : loopsOf sha_Crc_v1_c = [] := by kernel_rfl
noncomputable def sha_Crc_v1_a (N : Nat) (f0 : Int × (List Int) → Option (Int)) (x : (List Int)) : Option (Int) :=
  (Option.bind (f0 ((0 : Int), x)) fun r1 =>
  (some r1))
theorem sha_Crc_v1_f (N : Nat) (f0 : Int × (List Int) → Option (Int)) (x) : sha_Crc_v1_a N f0 x = fnStep Γ (sha_Crc_v1_CA N f0) (sha_Crc_v1_J N) 5 Try.f12.results.toList (sha_Crc_v1_g N) sha_Crc_v1_o sha_Crc_v1_c x := by kernel_rfl
theorem sha_Crc_v1_e (N : Nat) (x) : (sha_Crc_v1_g N).F x = fnStep Γ (sha_Crc_v1_C N) (sha_Crc_v1_J N) 5 Try.f12.results.toList (sha_Crc_v1_g N) sha_Crc_v1_o sha_Crc_v1_c x := by
  rw [← sha_Crc_v1_CE N]
  exact Eq.trans (by kernel_rfl) (sha_Crc_v1_f N (sha_More N) x)
theorem sha_Crc_v1_y : Try.f12.body = some sha_Crc_v1_c := by kernel_rfl
theorem sha_Crc_v1_n : (Try.f12.name == "runtime.NumGoroutine") = false := by kernel_rfl
theorem sha_Crc_v1_ok (N : Nat) : FnDoes Try.prog 12 (sha_Crc_v1_g N) := fn_ok tabOK (sha_Crc_v1_t N) mixedOK (J := sha_Crc_v1_J N) (body := sha_Crc_v1_c) Try.func12 sha_Crc_v1_y sha_Crc_v1_n Try.ntmps12 (jok_from sha_Crc_v1_i trivial) rfl rfl (le_of_ble rfl) (sha_Crc_v1_e N)
noncomputable def sha_Hash_Write_v3_c : Code := codeOf Try.f21.body
noncomputable def sha_Hash_Write_v3_J (N : Nat) : Nat → Hint := fun cx => hintOf cx []
noncomputable def sha_Hash_Write_v3_C (N : Nat) : Nat → List GS := fun k => tabOf k []
def sha_Hash_Write_v3_o : List (Shp × List Nat) := [(⟨[(0, (.tup []))], []⟩, [])]
noncomputable def sha_Hash_Write_v3_g (N : Nat) : GS := { ins := ⟨[(0, (.av (.one (.const .nilp)))), (1, (.av (.one (.rsl (.int .u8)))))], []⟩, lend := [.keep, .keep], outs := sha_Hash_Write_v3_o.map fun s => ssOf s.1, its := [.lst (.int .u8)], ots := [[]], F := sha_Hash_Write_v3 }
theorem sha_Hash_Write_v3_t (N : Nat) : TabC Try.prog (sha_Hash_Write_v3_C N) := tab_ok trivial
theorem sha_Hash_Write_v3_i : loopsOf sha_Hash_Write_v3_c = [(0, codeOf (getLoop 0 sha_Hash_Write_v3_c))] := by kernel_rfl
theorem sha_Hash_Write_v3_e (N : Nat) (x) : (sha_Hash_Write_v3_g N).F x = fnStep Γ (sha_Hash_Write_v3_C N) (sha_Hash_Write_v3_J N) 37 Try.f21.results.toList (sha_Hash_Write_v3_g N) sha_Hash_Write_v3_o sha_Hash_Write_v3_c x := by kernel_rfl
theorem sha_Hash_Write_v3_y : Try.f21.body = some sha_Hash_Write_v3_c := by kernel_rfl
theorem sha_Hash_Write_v3_n : (Try.f21.name == "runtime.NumGoroutine") = false := by kernel_rfl
theorem sha_Hash_Write_v3_ok (N : Nat) : FnDoes Try.prog 21 (sha_Hash_Write_v3_g N) := fn_ok tabOK (sha_Hash_Write_v3_t N) mixedOK (J := sha_Hash_Write_v3_J N) (body := sha_Hash_Write_v3_c) Try.func21 sha_Hash_Write_v3_y sha_Hash_Write_v3_n Try.ntmps21 (jok_from sha_Hash_Write_v3_i trivial) rfl rfl (le_of_ble rfl) (sha_Hash_Write_v3_e N)
noncomputable def sha_Hash_Len_c : Code := codeOf Try.f22.body
noncomputable def sha_Hash_Len_J (N : Nat) : Nat → Hint := fun cx => hintOf cx []
noncomputable def sha_Hash_Len_C (N : Nat) : Nat → List GS := fun k => tabOf k []
def sha_Hash_Len_o : List (Shp × List Nat) := [(⟨[(0, (.av (.one (.const (.int .u64 (0 : Int))))))], []⟩, [])]
noncomputable def sha_Hash_Len_g (N : Nat) : GS := { ins := ⟨[(0, (.av (.one (.const .nilp))))], []⟩, lend := [.keep], outs := sha_Hash_Len_o.map fun s => ssOf s.1, its := [], ots := [[]], F := sha_Hash_Len }
theorem sha_Hash_Len_t (N : Nat) : TabC Try.prog (sha_Hash_Len_C N) := tab_ok trivial
theorem sha_Hash_Len_i : loopsOf sha_Hash_Len_c = [] := by kernel_rfl
theorem sha_Hash_Len_e (N : Nat) (x) : (sha_Hash_Len_g N).F x = fnStep Γ (sha_Hash_Len_C N) (sha_Hash_Len_J N) 9 Try.f22.results.toList (sha_Hash_Len_g N) sha_Hash_Len_o sha_Hash_Len_c x := by kernel_rfl
theorem sha_Hash_Len_y : Try.f22.body = some sha_Hash_Len_c := by kernel_rfl
theorem sha_Hash_Len_n : (Try.f22.name == "runtime.NumGoroutine") = false := by kernel_rfl
theorem sha_Hash_Len_ok (N : Nat) : FnDoes Try.prog 22 (sha_Hash_Len_g N) := fn_ok tabOK (sha_Hash_Len_t N) mixedOK (J := sha_Hash_Len_J N) (body := sha_Hash_Len_c) Try.func22 sha_Hash_Len_y sha_Hash_Len_n Try.ntmps22 (jok_from sha_Hash_Len_i trivial) rfl rfl (le_of_ble rfl) (sha_Hash_Len_e N)
noncomputable def slices_Clone_byte_byte_v1_c : Code := codeOf Try.f41.body
noncomputable def slices_Clone_byte_byte_v1_J (N : Nat) : Nat → Hint := fun cx => hintOf cx []
noncomputable def slices_Clone_byte_byte_v1_C (N : Nat) : Nat → List GS := fun k => tabOf k []
def slices_Clone_byte_byte_v1_o : List (Shp × List Nat) := [(⟨[(0, (.av (.one (.const (.slw 0 1)))))], [(.sh (.arr (.int .u8) none), false)]⟩, [])]
noncomputable def slices_Clone_byte_byte_v1_g (N : Nat) : GS := { ins := ⟨[(0, (.av (.one (.rsl (.int .u8)))))], []⟩, lend := [.keep], outs := slices_Clone_byte_byte_v1_o.map fun s => ssOf s.1, its := [.lst (.int .u8)], ots := [[.lst (.int .u8)]], F := slices_Clone_byte_byte_v1 }
theorem slices_Clone_byte_byte_v1_t (N : Nat) : TabC Try.prog (slices_Clone_byte_byte_v1_C N) := tab_ok trivial
theorem slices_Clone_byte_byte_v1_i : loopsOf slices_Clone_byte_byte_v1_c = [] := by kernel_rfl
theorem slices_Clone_byte_byte_v1_e (N : Nat) (x) : (slices_Clone_byte_byte_v1_g N).F x = fnStep Γ (slices_Clone_byte_byte_v1_C N) (slices_Clone_byte_byte_v1_J N) 8 Try.f41.results.toList (slices_Clone_byte_byte_v1_g N) slices_Clone_byte_byte_v1_o slices_Clone_byte_byte_v1_c x := by kernel_rfl
theorem slices_Clone_byte_byte_v1_y : Try.f41.body = some slices_Clone_byte_byte_v1_c := by kernel_rfl
theorem slices_Clone_byte_byte_v1_n : (Try.f41.name == "runtime.NumGoroutine") = false := by kernel_rfl
theorem slices_Clone_byte_byte_v1_ok (N : Nat) : FnDoes Try.prog 41 (slices_Clone_byte_byte_v1_g N) := fn_ok tabOK (slices_Clone_byte_byte_v1_t N) mixedOK (J := slices_Clone_byte_byte_v1_J N) (body := slices_Clone_byte_byte_v1_c) Try.func41 slices_Clone_byte_byte_v1_y slices_Clone_byte_byte_v1_n Try.ntmps41 (jok_from slices_Clone_byte_byte_v1_i trivial) rfl rfl (le_of_ble rfl) (slices_Clone_byte_byte_v1_e N)
noncomputable def sha_Hash_Sum_v1_c : Code := codeOf Try.f23.body
noncomputable def sha_Hash_Sum_v1_c0 : Code := codeOf (getLoop 0 sha_Hash_Sum_v1_c)
def sha_Hash_Sum_v1_d0 : LD := { ins := ⟨[(0, (.av (.one (.const (.ptr ⟨1, 0, 0, 0⟩))))), (2, (.av (.one (.const (.ptr ⟨0, 0, 0, 0⟩))))), (3, (.av (.one (.const (.ptr ⟨5, 0, 0, 0⟩))))), (4, (.av (.one (.sl 8 1))))], [(.keep, false), (.sh (.arr (.int .u32) (some 8)), true), (.sh (.one (.const (.int .u64 (0 : Int)))), true), (.sh (.one (.const .nils)), false), (.keep, false), (.keep, false), (.keep, false), (.keep, false), (.sh (.arr (.int .u8) none), false)]⟩, mov := [8], wr := [1, 2, 3], outs := [(.exit 0, ⟨[(4, (.av (.one (.sl 9 1))))], [(.keep, false), (.sh (.arr (.int .u32) (some 8)), true), (.sh (.one (.const (.int .u64 (0 : Int)))), true), (.sh (.one (.const .nils)), false), (.keep, false), (.keep, false), (.keep, false), (.keep, false), (.dead, false), (.sh (.arr (.int .u8) none), false)]⟩)], its := [.nat, .nat, .lst (.int .u32), .lst (.int .u8)], ots := [[.nat, .nat, .lst (.int .u32), .lst (.int .u8)]] }
noncomputable def sha_Hash_Sum_v1_J (N : Nat) : Nat → Hint := fun cx => hintOf cx [(0, { reg := fun k => assoc0 k [], cnd := fun k => assoc0 k [], loop := fun k => assoc0 k [(0, ⟨sha_Hash_Sum_v1_d0, loopF (sha_Hash_Sum_v1_b0 N) N⟩)], nil := fun k => assoc0 k [], unr := fun k => assocN k [], blk := fun k => assoc0 k [] })]
noncomputable def sha_Hash_Sum_v1_C (N : Nat) : Nat → List GS := fun k => tabOf k [(32, [sha_New_g N]), (41, [slices_Clone_byte_byte_v1_g N]), (42, [octet_Put_g N]), (21, [sha_Hash_Write_v1_g N]), (43, [sha_words_g N])]
def sha_Hash_Sum_v1_o : List (Shp × List Nat) := [(⟨[(0, (.av (.agg [(.arr (.int .u8) (some 32))])))], []⟩, [])]
noncomputable def sha_Hash_Sum_v1_g (N : Nat) : GS := { ins := ⟨[(0, (.av (.one (.const .nilp))))], []⟩, lend := [.keep], outs := sha_Hash_Sum_v1_o.map fun s => ssOf s.1, its := [], ots := [[.lst (.int .u8)]], F := sha_Hash_Sum_v1 N }
noncomputable def sha_Hash_Sum_v1_CA (N : Nat) (f0 : Unit → Option ((List Int))) (f1 : (List Int) → Option ((List Int))) (f2 : Nat × Nat × Int × Int × (List Int) → Option ((List Int))) (f3 : (List Int) × (List Int) × Int × (List Int) → Option ((List Int) × Int × (List Int))) (f4 : (List Int) → Option ((List Int))) : Nat → List GS := fun k => tabOf k [(32, [{ sha_New_g N with F := f0 }]), (41, [{ slices_Clone_byte_byte_v1_g N with F := f1 }]), (42, [{ octet_Put_g N with F := f2 }]), (21, [{ sha_Hash_Write_v1_g N with F := f3 }]), (43, [{ sha_words_g N with F := f4 }])]
theorem sha_Hash_Sum_v1_CE (N : Nat) : sha_Hash_Sum_v1_CA N (sha_New) (slices_Clone_byte_byte_v1) (octet_Put N) (sha_Hash_Write_v1 N) (sha_words N) = sha_Hash_Sum_v1_C N := by kernel_rfl
theorem sha_Hash_Sum_v1_t (N : Nat) : TabC Try.prog (sha_Hash_Sum_v1_C N) := tab_ok ⟨⟨sha_New_ok N, trivial⟩, ⟨slices_Clone_byte_byte_v1_ok N, trivial⟩, ⟨octet_Put_ok N, trivial⟩, ⟨sha_Hash_Write_v1_ok N, trivial⟩, ⟨sha_words_ok N, trivial⟩, trivial⟩
theorem sha_Hash_Sum_v1_i0 : loopsOf sha_Hash_Sum_v1_c0 = [] := by kernel_rfl
noncomputable def sha_Hash_Sum_v1_a0 (N : Nat) (f0 : Unit → Option ((List Int))) (f1 : (List Int) → Option ((List Int))) (f2 : Nat × Nat × Int × Int × (List Int) → Option ((List Int))) (f3 : (List Int) × (List Int) × Int × (List Int) → Option ((List Int) × Int × (List Int))) (f4 : (List Int) → Option ((List Int))) (next : Nat × Nat × (List Int) × (List Int) → Option ((Nat × Nat × (List Int) × (List Int)))) (x : Nat × Nat × (List Int) × (List Int)) : Option ((Nat × Nat × (List Int) × (List Int))) :=
  (cond (!(decide ((Int.tmod (wrapF .i64 ((wrapF .i64 ((0 : Int) + ((x.2.1 : Nat) : Int))) + (8 : Int))) (64 : Int)) = (0 : Int))))
  (let v6 : List Int := ([(0 : Int)] : List Int)
  (cond (((decide (1 ≤ (List.length v6))) && (decide (x.1 + x.2.1 = (List.length x.2.2.2)))) && (fits 1 (x.2.1 + (List.length (List.take 1 (List.drop 0 v6))))))
  ((let v7 : List Int := (List.drop x.1 x.2.2.2 ++ (List.take 1 (List.drop 0 v6)))
  (next (0, (List.length v7), x.2.2.1, v7))))
  none))
  (some (x.1, x.2.1, x.2.2.1, x.2.2.2)))
theorem sha_Hash_Sum_v1_f0 (N : Nat) (f0 : Unit → Option ((List Int))) (f1 : (List Int) → Option ((List Int))) (f2 : Nat × Nat × Int × Int × (List Int) → Option ((List Int))) (f3 : (List Int) × (List Int) × Int × (List Int) → Option ((List Int) × Int × (List Int))) (f4 : (List Int) → Option ((List Int))) (next) (x) : sha_Hash_Sum_v1_a0 N f0 f1 f2 f3 f4 next x = loopStep Γ (sha_Hash_Sum_v1_CA N f0 f1 f2 f3 f4) (sha_Hash_Sum_v1_J N) 0 52 sha_Hash_Sum_v1_d0 sha_Hash_Sum_v1_c0 next x := by kernel_rfl
theorem sha_Hash_Sum_v1_e0 (N : Nat) (next) (x) : sha_Hash_Sum_v1_b0 N next x = loopStep Γ (sha_Hash_Sum_v1_C N) (sha_Hash_Sum_v1_J N) 0 52 sha_Hash_Sum_v1_d0 sha_Hash_Sum_v1_c0 next x := by
  rw [← sha_Hash_Sum_v1_CE N]
  exact Eq.trans (by kernel_rfl) (sha_Hash_Sum_v1_f0 N (sha_New) (slices_Clone_byte_byte_v1) (octet_Put N) (sha_Hash_Write_v1 N) (sha_words N) next x)
theorem sha_Hash_Sum_v1_k0 (N : Nat) : LoopOK Try.prog 52 sha_Hash_Sum_v1_c0 ⟨sha_Hash_Sum_v1_d0, loopF (sha_Hash_Sum_v1_b0 N) N⟩ := loop_ok tabOK (sha_Hash_Sum_v1_t N) mixedOK (J := sha_Hash_Sum_v1_J N) (cx := 0) (body := sha_Hash_Sum_v1_c0) (nt := 52) (l := sha_Hash_Sum_v1_d0) (b := sha_Hash_Sum_v1_b0 N) (jok_from sha_Hash_Sum_v1_i0 ⟨trivial, trivial⟩) (sha_Hash_Sum_v1_e0 N) N
theorem sha_Hash_Sum_v1_i : loopsOf sha_Hash_Sum_v1_c = [(0, sha_Hash_Sum_v1_c0)] := by kernel_rfl
noncomputable def sha_Hash_Sum_v1_a (N : Nat) (f0 : Unit → Option ((List Int))) (f1 : (List Int) → Option ((List Int))) (f2 : Nat × Nat × Int × Int × (List Int) → Option ((List Int))) (f3 : (List Int) × (List Int) × Int × (List Int) → Option ((List Int) × Int × (List Int))) (f4 : (List Int) → Option ((List Int))) (x : Unit) : Option ((List Int)) :=
  (Option.bind (f0 ()) fun r2 =>
  (Option.bind (f1 ([] : List Int)) fun r3 =>
  (Option.bind (sha_Hash_Sum_v1_l0 N (0, 1, r2, ([(128 : Int)] : List Int))) fun r5 =>
  (Option.bind (f2 (r5.1, r5.2.1, (0 : Int), (8 : Int), r5.2.2.2)) fun r6 =>
  (Option.bind (f3 (r6, r2, (0 : Int), r3)) fun r7 =>
  (let v8 : List Int := (List.replicate 32 (EK.dflt (.int .u8)))
  (Option.bind (f4 r7.1) fun r9 =>
  (cond (decide (32 ≤ (List.length v8)))
  ((some (List.take 0 v8 ++ List.take (min (List.length r9) 32) r9 ++ List.drop (0 + (min (List.length r9) 32)) v8)))
  none))))))))
theorem sha_Hash_Sum_v1_f (N : Nat) (f0 : Unit → Option ((List Int))) (f1 : (List Int) → Option ((List Int))) (f2 : Nat × Nat × Int × Int × (List Int) → Option ((List Int))) (f3 : (List Int) × (List Int) × Int × (List Int) → Option ((List Int) × Int × (List Int))) (f4 : (List Int) → Option ((List Int))) (x) : sha_Hash_Sum_v1_a N f0 f1 f2 f3 f4 x = fnStep Γ (sha_Hash_Sum_v1_CA N f0 f1 f2 f3 f4) (sha_Hash_Sum_v1_J N) 52 Try.f23.results.toList (sha_Hash_Sum_v1_g N) sha_Hash_Sum_v1_o sha_Hash_Sum_v1_c x := by kernel_rfl
theorem sha_Hash_Sum_v1_e (N : Nat) (x) : (sha_Hash_Sum_v1_g N).F x = fnStep Γ (sha_Hash_Sum_v1_C N) (sha_Hash_Sum_v1_J N) 52 Try.f23.results.toList (sha_Hash_Sum_v1_g N) sha_Hash_Sum_v1_o sha_Hash_Sum_v1_c x := by
  rw [← sha_Hash_Sum_v1_CE N]
  exact Eq.trans (by kernel_rfl) (sha_Hash_Sum_v1_f N (sha_New) (slices_Clone_byte_byte_v1) (octet_Put N) (sha_Hash_Write_v1 N) (sha_words N) x)
theorem sha_Hash_Sum_v1_y : Try.f23.body = some sha_Hash_Sum_v1_c := by kernel_rfl
theorem sha_Hash_Sum_v1_n : (Try.f23.name == "runtime.NumGoroutine") = false := by kernel_rfl
theorem sha_Hash_Sum_v1_ok (N : Nat) : FnDoes Try.prog 23 (sha_Hash_Sum_v1_g N) := fn_ok tabOK (sha_Hash_Sum_v1_t N) mixedOK (J := sha_Hash_Sum_v1_J N) (body := sha_Hash_Sum_v1_c) Try.func23 sha_Hash_Sum_v1_y sha_Hash_Sum_v1_n Try.ntmps23 (jok_from sha_Hash_Sum_v1_i ⟨⟨.inr ⟨_, rfl, sha_Hash_Sum_v1_k0 N⟩, trivial⟩, trivial⟩) rfl rfl (le_of_ble rfl) (sha_Hash_Sum_v1_e N)
noncomputable def sha_Hash_Save_c : Code := codeOf Try.f24.body
noncomputable def sha_Hash_Save_J (N : Nat) : Nat → Hint := fun cx => hintOf cx []
noncomputable def sha_Hash_Save_C (N : Nat) : Nat → List GS := fun k => tabOf k []
def sha_Hash_Save_o : List (Shp × List Nat) := [(⟨[(0, (.av (.one (.const .nils))))], []⟩, [])]
noncomputable def sha_Hash_Save_g (N : Nat) : GS := { ins := ⟨[(0, (.av (.one (.const .nilp))))], []⟩, lend := [.keep], outs := sha_Hash_Save_o.map fun s => ssOf s.1, its := [], ots := [[]], F := sha_Hash_Save }
theorem sha_Hash_Save_t (N : Nat) : TabC Try.prog (sha_Hash_Save_C N) := tab_ok trivial
theorem sha_Hash_Save_i : loopsOf sha_Hash_Save_c = [] := by kernel_rfl
theorem sha_Hash_Save_e (N : Nat) (x) : (sha_Hash_Save_g N).F x = fnStep Γ (sha_Hash_Save_C N) (sha_Hash_Save_J N) 20 Try.f24.results.toList (sha_Hash_Save_g N) sha_Hash_Save_o sha_Hash_Save_c x := by kernel_rfl
theorem sha_Hash_Save_y : Try.f24.body = some sha_Hash_Save_c := by kernel_rfl
theorem sha_Hash_Save_n : (Try.f24.name == "runtime.NumGoroutine") = false := by kernel_rfl
theorem sha_Hash_Save_ok (N : Nat) : FnDoes Try.prog 24 (sha_Hash_Save_g N) := fn_ok tabOK (sha_Hash_Save_t N) mixedOK (J := sha_Hash_Save_J N) (body := sha_Hash_Save_c) Try.func24 sha_Hash_Save_y sha_Hash_Save_n Try.ntmps24 (jok_from sha_Hash_Save_i trivial) rfl rfl (le_of_ble rfl) (sha_Hash_Save_e N)
noncomputable def sha_Path_v1_c : Code := codeOf Try.f25.body
noncomputable def sha_Path_v1_J (N : Nat) : Nat → Hint := fun cx => hintOf cx [(0, { reg := fun k => assoc0 k [(1, ⟨⟨[(19, (.av (.one .bool)))], []⟩, [], [], [.bool]⟩)], cnd := fun k => assoc0 k [(35, ⟨[], [], [(.normal, ⟨[(7, (.av (.one (.rsl (.arr 32 (.int .u8)))))), (8, (.av (.one (.int .i64)))), (9, (.av (.one (.rsl (.arr 32 (.int .u8))))))], []⟩)], [[.lst (.arr 32 (.int .u8)), .int, .lst (.arr 32 (.int .u8))]]⟩)], loop := fun k => assoc0 k [], nil := fun k => assoc0 k [], unr := fun k => assocN k [], blk := fun k => assoc0 k [] })]
def sha_Path_v1_o : List (Shp × List Nat) := [(⟨[(0, (.tup [(.one (.const (.slw 0 32))), (.one (.int .i64))]))], [(.sh (.arr (.arr 32 (.int .u8)) none), false)]⟩, [])]
noncomputable def sha_Path_v1_g (N : Nat) : GS := { ins := ⟨[(0, (.av (.one (.rsl (.arr 32 (.int .u8)))))), (1, (.av (.one (.int .i64))))], []⟩, lend := [.keep, .keep], outs := sha_Path_v1_o.map fun s => ssOf s.1, its := [.lst (.arr 32 (.int .u8)), .int], ots := [[.int, .lst (.arr 32 (.int .u8))]], F := sha_Path_v1 N }
noncomputable def sha_Path_v1_CA (N : Nat) (f0 : Int → Option (Int)) (f1 : (List (List Int)) × Int → Option (Int × (List (List Int)))) (f2 : (List (List Int)) → Option ((List Int))) : Nat → List GS := fun k => tabOf k [(44, [{ sha_half_g N with F := f0 }]), (25, [{ sha_Path_v1_g N with F := f1 }]), (29, [{ sha_Root_v1_g N with F := f2 }])]
theorem sha_Path_v1_i : loopsOf sha_Path_v1_c = [] := by kernel_rfl
noncomputable def sha_Path_v1_a (N : Nat) (f0 : Int → Option (Int)) (f1 : (List (List Int)) × Int → Option (Int × (List (List Int)))) (f2 : (List (List Int)) → Option ((List Int))) (x : (List (List Int)) × Int) : Option (Int × (List (List Int))) :=
  (Option.bind
  (cond (decide (x.2 < (0 : Int)))
  (some true)
  (some (decide ((((List.length x.1) : Nat) : Int) ≤ x.2))))
  fun r4 =>
  (cond r4
  (some ((2 : Int), ([] : List (List Int))))
  (cond (decide ((((List.length x.1) : Nat) : Int) = (1 : Int)))
  (some ((0 : Int), ([] : List (List Int))))
  (Option.bind (f0 (((List.length x.1) : Nat) : Int)) fun r8 =>
  (cond ((decide ((0 : Int) ≤ r8)) && (decide (r8 ≤ (((List.length x.1) : Nat) : Int))))
  ((cond (((decide ((0 : Int) ≤ r8)) && (decide (r8 ≤ (((List.length x.1) : Nat) : Int)))) && (decide ((((List.length x.1) : Nat) : Int) ≤ (((List.length x.1) : Nat) : Int))))
  ((Option.bind
  (cond (decide (r8 ≤ x.2))
  (cond (((decide ((0 : Int) ≤ r8)) && (decide (r8 ≤ (((List.length x.1) : Nat) : Int)))) && (decide ((((List.length x.1) : Nat) : Int) ≤ (((List.length x.1) : Nat) : Int))))
  ((cond ((decide ((0 : Int) ≤ r8)) && (decide (r8 ≤ (((List.length x.1) : Nat) : Int))))
  ((some ((List.take ((List.length x.1) - (Int.toNat r8)) (List.drop (Int.toNat r8) x.1)), (wrapF .i64 (x.2 - r8)), (List.take (Int.toNat r8) (List.drop 0 x.1)))))
  none))
  none)
  (some ((List.take (Int.toNat r8) (List.drop 0 x.1)), x.2, (List.take ((List.length x.1) - (Int.toNat r8)) (List.drop (Int.toNat r8) x.1)))))
  fun r15 =>
  (Option.bind (f1 (r15.1, r15.2.1)) fun r16 =>
  (Option.bind (f2 r15.2.2) fun r17 =>
  (let v18 : List (List Int) := ([r17] : List (List Int))
  (cond ((decide (1 ≤ (List.length v18))) && (fits 32 ((List.length r16.2) + (List.length (List.take 1 (List.drop 0 v18))))))
  ((some ((0 : Int), (r16.2 ++ (List.take 1 (List.drop 0 v18))))))
  none))))))
  none))
  none)))))
theorem sha_Path_v1_f (N : Nat) (f0 : Int → Option (Int)) (f1 : (List (List Int)) × Int → Option (Int × (List (List Int)))) (f2 : (List (List Int)) → Option ((List Int))) (x) : sha_Path_v1_a N f0 f1 f2 x = fnStep Γ (sha_Path_v1_CA N f0 f1 f2) (sha_Path_v1_J N) 56 Try.f25.results.toList (sha_Path_v1_g N) sha_Path_v1_o sha_Path_v1_c x := by kernel_rfl
theorem sha_Path_v1_y : Try.f25.body = some sha_Path_v1_c := by kernel_rfl
theorem sha_Path_v1_n : (Try.f25.name == "runtime.NumGoroutine") = false := by kernel_rfl
theorem sha_Path_v1_okn (N : Nat) : ∀ n, FnDoes Try.prog 25 { sha_Path_v1_g N with F := loopF (sha_Path_v1_b N) n }
  | 0 => fn_none Try.func25 sha_Path_v1_y sha_Path_v1_n (fun _ => rfl)
  | n + 1 => fn_ok tabOK (C := sha_Path_v1_CA N (sha_half N) (loopF (sha_Path_v1_b N) n) (sha_Root_v1 N)) (tab_ok ⟨⟨sha_half_ok N, trivial⟩, ⟨sha_Path_v1_okn N n, trivial⟩, ⟨sha_Root_v1_ok N, trivial⟩, trivial⟩) mixedOK (J := sha_Path_v1_J N) (body := sha_Path_v1_c) Try.func25 sha_Path_v1_y sha_Path_v1_n Try.ntmps25 (jok_from sha_Path_v1_i ⟨trivial, trivial⟩) (outs := sha_Path_v1_o) rfl rfl (le_of_ble rfl) (fun x => Eq.trans (by kernel_rfl) (sha_Path_v1_f N (sha_half N) (loopF (sha_Path_v1_b N) n) (sha_Root_v1 N) x))
theorem sha_Path_v1_ok (N : Nat) : FnDoes Try.prog 25 (sha_Path_v1_g N) := sha_Path_v1_okn N N
noncomputable def sha_Path_c : Code := codeOf Try.f25.body
noncomputable def sha_Path_J (N : Nat) : Nat → Hint := fun cx => hintOf cx [(0, { reg := fun k => assoc0 k [(1, ⟨⟨[(19, (.av (.one .bool)))], []⟩, [], [], [.bool]⟩)], cnd := fun k => assoc0 k [(35, ⟨[], [], [(.normal, ⟨[(7, (.av (.one (.rsl (.arr 32 (.int .u8)))))), (8, (.av (.one (.int .i64)))), (9, (.av (.one (.rsl (.arr 32 (.int .u8))))))], []⟩)], [[.lst (.arr 32 (.int .u8)), .int, .lst (.arr 32 (.int .u8))]]⟩)], loop := fun k => assoc0 k [], nil := fun k => assoc0 k [], unr := fun k => assocN k [], blk := fun k => assoc0 k [] })]
noncomputable def sha_Path_C (N : Nat) : Nat → List GS := fun k => tabOf k [(44, [sha_half_g N]), (25, [sha_Path_v1_g N]), (29, [sha_Root_v1_g N])]
def sha_Path_o : List (Shp × List Nat) := [(⟨[(0, (.tup [(.one (.const (.slw 0 32))), (.one (.int .i64))]))], [(.sh (.arr (.arr 32 (.int .u8)) none), false)]⟩, [])]
noncomputable def sha_Path_g (N : Nat) : GS := { ins := ⟨[(0, (.av (.one (.rsl (.arr 32 (.int .u8)))))), (1, (.av (.one (.int .i64))))], []⟩, lend := [.lend (.arr 32 (.int .u8)), .keep], outs := sha_Path_o.map fun s => ssOf s.1, its := [.lst (.arr 32 (.int .u8)), .int], ots := [[.int, .lst (.arr 32 (.int .u8))]], F := sha_Path N }
noncomputable def sha_Path_CA (N : Nat) (f0 : Int → Option (Int)) (f1 : (List (List Int)) × Int → Option (Int × (List (List Int)))) (f2 : (List (List Int)) → Option ((List Int))) : Nat → List GS := fun k => tabOf k [(44, [{ sha_half_g N with F := f0 }]), (25, [{ sha_Path_v1_g N with F := f1 }]), (29, [{ sha_Root_v1_g N with F := f2 }])]
theorem sha_Path_CE (N : Nat) : sha_Path_CA N (sha_half N) (sha_Path_v1 N) (sha_Root_v1 N) = sha_Path_C N := by kernel_rfl
theorem sha_Path_t (N : Nat) : TabC Try.prog (sha_Path_C N) := tab_ok ⟨⟨sha_half_ok N, trivial⟩, ⟨sha_Path_v1_ok N, trivial⟩, ⟨sha_Root_v1_ok N, trivial⟩, trivial⟩
theorem sha_Path_i : loopsOf sha_Path_c = [] := by kernel_rfl
noncomputable def sha_Path_a (N : Nat) (f0 : Int → Option (Int)) (f1 : (List (List Int)) × Int → Option (Int × (List (List Int)))) (f2 : (List (List Int)) → Option ((List Int))) (x : (List (List Int)) × Int) : Option (Int × (List (List Int))) :=
  (Option.bind
  (cond (decide (x.2 < (0 : Int)))
  (some true)
  (some (decide ((((List.length x.1) : Nat) : Int) ≤ x.2))))
  fun r4 =>
  (cond r4
  (some ((2 : Int), ([] : List (List Int))))
  (cond (decide ((((List.length x.1) : Nat) : Int) = (1 : Int)))
  (some ((0 : Int), ([] : List (List Int))))
  (Option.bind (f0 (((List.length x.1) : Nat) : Int)) fun r8 =>
  (cond ((decide ((0 : Int) ≤ r8)) && (decide (r8 ≤ (((List.length x.1) : Nat) : Int))))
  ((cond (((decide ((0 : Int) ≤ r8)) && (decide (r8 ≤ (((List.length x.1) : Nat) : Int)))) && (decide ((((List.length x.1) : Nat) : Int) ≤ (((List.length x.1) : Nat) : Int))))
  ((Option.bind
  (cond (decide (r8 ≤ x.2))
  (cond (((decide ((0 : Int) ≤ r8)) && (decide (r8 ≤ (((List.length x.1) : Nat) : Int)))) && (decide ((((List.length x.1) : Nat) : Int) ≤ (((List.length x.1) : Nat) : Int))))
  ((cond ((decide ((0 : Int) ≤ r8)) && (decide (r8 ≤ (((List.length x.1) : Nat) : Int))))
  ((some ((List.take ((List.length x.1) - (Int.toNat r8)) (List.drop (Int.toNat r8) x.1)), (wrapF .i64 (x.2 - r8)), (List.take (Int.toNat r8) (List.drop 0 x.1)))))
  none))
  none)
  (some ((List.take (Int.toNat r8) (List.drop 0 x.1)), x.2, (List.take ((List.length x.1) - (Int.toNat r8)) (List.drop (Int.toNat r8) x.1)))))
  fun r15 =>
  (Option.bind (f1 (r15.1, r15.2.1)) fun r16 =>
  (Option.bind (f2 r15.2.2) fun r17 =>
  (let v18 : List (List Int) := ([r17] : List (List Int))
  (cond ((decide (1 ≤ (List.length v18))) && (fits 32 ((List.length r16.2) + (List.length (List.take 1 (List.drop 0 v18))))))
  ((some ((0 : Int), (r16.2 ++ (List.take 1 (List.drop 0 v18))))))
  none))))))
  none))
  none)))))
theorem sha_Path_f (N : Nat) (f0 : Int → Option (Int)) (f1 : (List (List Int)) × Int → Option (Int × (List (List Int)))) (f2 : (List (List Int)) → Option ((List Int))) (x) : sha_Path_a N f0 f1 f2 x = fnStep Γ (sha_Path_CA N f0 f1 f2) (sha_Path_J N) 56 Try.f25.results.toList (sha_Path_g N) sha_Path_o sha_Path_c x := by kernel_rfl
theorem sha_Path_e (N : Nat) (x) : (sha_Path_g N).F x = fnStep Γ (sha_Path_C N) (sha_Path_J N) 56 Try.f25.results.toList (sha_Path_g N) sha_Path_o sha_Path_c x := by
  rw [← sha_Path_CE N]
  exact Eq.trans (by kernel_rfl) (sha_Path_f N (sha_half N) (sha_Path_v1 N) (sha_Root_v1 N) x)
theorem sha_Path_y : Try.f25.body = some sha_Path_c := by kernel_rfl
theorem sha_Path_n : (Try.f25.name == "runtime.NumGoroutine") = false := by kernel_rfl
theorem sha_Path_ok (N : Nat) : FnDoes Try.prog 25 (sha_Path_g N) := fn_ok tabOK (sha_Path_t N) mixedOK (J := sha_Path_J N) (body := sha_Path_c) Try.func25 sha_Path_y sha_Path_n Try.ntmps25 (jok_from sha_Path_i ⟨trivial, trivial⟩) rfl rfl (le_of_ble rfl) (sha_Path_e N)
noncomputable def granaryref05_half_c : Code := codeOf Try.f45.body
noncomputable def granaryref05_half_c0 : Code := codeOf (getLoop 0 granaryref05_half_c)
def granaryref05_half_d0 : LD := { ins := ⟨[(0, (.av (.one (.int .i64)))), (3, (.av (.one (.int .i64))))], []⟩, mov := [], wr := [], outs := [(.exit 0, ⟨[(3, (.av (.one (.int .i64))))], []⟩)], its := [.int, .int], ots := [[.int]] }
noncomputable def granaryref05_half_J (N : Nat) : Nat → Hint := fun cx => hintOf cx [(0, { reg := fun k => assoc0 k [], cnd := fun k => assoc0 k [], loop := fun k => assoc0 k [(0, ⟨granaryref05_half_d0, loopF (granaryref05_half_b0 N) N⟩)], nil := fun k => assoc0 k [], unr := fun k => assocN k [], blk := fun k => assoc0 k [] })]
noncomputable def granaryref05_half_C (N : Nat) : Nat → List GS := fun k => tabOf k []
def granaryref05_half_o : List (Shp × List Nat) := [(⟨[(0, (.av (.one (.int .i64))))], []⟩, [])]
noncomputable def granaryref05_half_g (N : Nat) : GS := { ins := ⟨[(0, (.av (.one (.int .i64))))], []⟩, lend := [.keep], outs := granaryref05_half_o.map fun s => ssOf s.1, its := [.int], ots := [[.int]], F := granaryref05_half N }
theorem granaryref05_half_t (N : Nat) : TabC Try.prog (granaryref05_half_C N) := tab_ok trivial
theorem granaryref05_half_i0 : loopsOf granaryref05_half_c0 = [] := by kernel_rfl
theorem granaryref05_half_e0 (N : Nat) (next) (x) : granaryref05_half_b0 N next x = loopStep Γ (granaryref05_half_C N) (granaryref05_half_J N) 0 11 granaryref05_half_d0 granaryref05_half_c0 next x := by kernel_rfl
theorem granaryref05_half_k0 (N : Nat) : LoopOK Try.prog 11 granaryref05_half_c0 ⟨granaryref05_half_d0, loopF (granaryref05_half_b0 N) N⟩ := loop_ok tabOK (granaryref05_half_t N) mixedOK (J := granaryref05_half_J N) (cx := 0) (body := granaryref05_half_c0) (nt := 11) (l := granaryref05_half_d0) (b := granaryref05_half_b0 N) (jok_from granaryref05_half_i0 ⟨trivial, trivial⟩) (granaryref05_half_e0 N) N
theorem granaryref05_half_i : loopsOf granaryref05_half_c = [(0, granaryref05_half_c0)] := by kernel_rfl
theorem granaryref05_half_e (N : Nat) (x) : (granaryref05_half_g N).F x = fnStep Γ (granaryref05_half_C N) (granaryref05_half_J N) 11 Try.f45.results.toList (granaryref05_half_g N) granaryref05_half_o granaryref05_half_c x := by kernel_rfl
theorem granaryref05_half_y : Try.f45.body = some granaryref05_half_c := by kernel_rfl
theorem granaryref05_half_n : (Try.f45.name == "runtime.NumGoroutine") = false := by kernel_rfl
theorem granaryref05_half_ok (N : Nat) : FnDoes Try.prog 45 (granaryref05_half_g N) := fn_ok tabOK (granaryref05_half_t N) mixedOK (J := granaryref05_half_J N) (body := granaryref05_half_c) Try.func45 granaryref05_half_y granaryref05_half_n Try.ntmps45 (jok_from granaryref05_half_i ⟨⟨.inr ⟨_, rfl, granaryref05_half_k0 N⟩, trivial⟩, trivial⟩) rfl rfl (le_of_ble rfl) (granaryref05_half_e N)
noncomputable def granaryref05_Sum_v1_c : Code := codeOf Try.f11.body
noncomputable def granaryref05_Sum_v1_J (N : Nat) : Nat → Hint := fun cx => hintOf cx []
noncomputable def granaryref05_Sum_v1_C (N : Nat) : Nat → List GS := fun k => tabOf k [(34, [granaryref05_New_g N]), (35, [granaryref05_Hash_Write_g N]), (36, [granaryref05_Hash_Sum_g N])]
def granaryref05_Sum_v1_o : List (Shp × List Nat) := [(⟨[(0, (.av (.agg [(.arr (.int .u8) (some 32))])))], []⟩, [])]
noncomputable def granaryref05_Sum_v1_g (N : Nat) : GS := { ins := ⟨[(0, (.av (.one (.rsl (.int .u8)))))], []⟩, lend := [.lend (.int .u8)], outs := granaryref05_Sum_v1_o.map fun s => ssOf s.1, its := [.lst (.int .u8)], ots := [[.lst (.int .u8)]], F := granaryref05_Sum_v1 N }
noncomputable def granaryref05_Sum_v1_CA (N : Nat) (f0 : Unit → Option ((List Int))) (f1 : (List Int) × (List Int) × Int → Option ((List Int) × Int × (List Int))) (f2 : (List Int) × Int × (List Int) → Option ((List Int) × (List Int) × Int × (List Int))) : Nat → List GS := fun k => tabOf k [(34, [{ granaryref05_New_g N with F := f0 }]), (35, [{ granaryref05_Hash_Write_g N with F := f1 }]), (36, [{ granaryref05_Hash_Sum_g N with F := f2 }])]
theorem granaryref05_Sum_v1_CE (N : Nat) : granaryref05_Sum_v1_CA N (granaryref05_New) (granaryref05_Hash_Write N) (granaryref05_Hash_Sum N) = granaryref05_Sum_v1_C N := by kernel_rfl
theorem granaryref05_Sum_v1_t (N : Nat) : TabC Try.prog (granaryref05_Sum_v1_C N) := tab_ok ⟨⟨granaryref05_New_ok N, trivial⟩, ⟨granaryref05_Hash_Write_ok N, trivial⟩, ⟨granaryref05_Hash_Sum_ok N, trivial⟩, trivial⟩
theorem granaryref05_Sum_v1_i : loopsOf granaryref05_Sum_v1_c = [] := by kernel_rfl
noncomputable def granaryref05_Sum_v1_a (N : Nat) (f0 : Unit → Option ((List Int))) (f1 : (List Int) × (List Int) × Int → Option ((List Int) × Int × (List Int))) (f2 : (List Int) × Int × (List Int) → Option ((List Int) × (List Int) × Int × (List Int))) (x : (List Int)) : Option ((List Int)) :=
  (Option.bind (f0 ()) fun r2 =>
  (Option.bind (f1 (x, r2, (0 : Int))) fun r3 =>
  (Option.bind (f2 (r3.1, r3.2.1, r3.2.2)) fun r4 =>
  (some r4.1))))
theorem granaryref05_Sum_v1_f (N : Nat) (f0 : Unit → Option ((List Int))) (f1 : (List Int) × (List Int) × Int → Option ((List Int) × Int × (List Int))) (f2 : (List Int) × Int × (List Int) → Option ((List Int) × (List Int) × Int × (List Int))) (x) : granaryref05_Sum_v1_a N f0 f1 f2 x = fnStep Γ (granaryref05_Sum_v1_CA N f0 f1 f2) (granaryref05_Sum_v1_J N) 10 Try.f11.results.toList (granaryref05_Sum_v1_g N) granaryref05_Sum_v1_o granaryref05_Sum_v1_c x := by kernel_rfl
theorem granaryref05_Sum_v1_e (N : Nat) (x) : (granaryref05_Sum_v1_g N).F x = fnStep Γ (granaryref05_Sum_v1_C N) (granaryref05_Sum_v1_J N) 10 Try.f11.results.toList (granaryref05_Sum_v1_g N) granaryref05_Sum_v1_o granaryref05_Sum_v1_c x := by
  rw [← granaryref05_Sum_v1_CE N]
  exact Eq.trans (by kernel_rfl) (granaryref05_Sum_v1_f N (granaryref05_New) (granaryref05_Hash_Write N) (granaryref05_Hash_Sum N) x)
theorem granaryref05_Sum_v1_y : Try.f11.body = some granaryref05_Sum_v1_c := by kernel_rfl
theorem granaryref05_Sum_v1_n : (Try.f11.name == "runtime.NumGoroutine") = false := by kernel_rfl
theorem granaryref05_Sum_v1_ok (N : Nat) : FnDoes Try.prog 11 (granaryref05_Sum_v1_g N) := fn_ok tabOK (granaryref05_Sum_v1_t N) mixedOK (J := granaryref05_Sum_v1_J N) (body := granaryref05_Sum_v1_c) Try.func11 granaryref05_Sum_v1_y granaryref05_Sum_v1_n Try.ntmps11 (jok_from granaryref05_Sum_v1_i trivial) rfl rfl (le_of_ble rfl) (granaryref05_Sum_v1_e N)
noncomputable def granaryref05_node_c : Code := codeOf Try.f50.body
noncomputable def granaryref05_node_J (N : Nat) : Nat → Hint := fun cx => hintOf cx []
noncomputable def granaryref05_node_C (N : Nat) : Nat → List GS := fun k => tabOf k [(11, [granaryref05_Sum_v1_g N])]
def granaryref05_node_o : List (Shp × List Nat) := [(⟨[(0, (.av (.agg [(.arr (.int .u8) (some 32))])))], []⟩, [])]
noncomputable def granaryref05_node_g (N : Nat) : GS := { ins := ⟨[(0, (.av (.agg [(.arr (.int .u8) (some 32))]))), (1, (.av (.agg [(.arr (.int .u8) (some 32))])))], []⟩, lend := [.keep, .keep], outs := granaryref05_node_o.map fun s => ssOf s.1, its := [.lst (.int .u8), .lst (.int .u8)], ots := [[.lst (.int .u8)]], F := granaryref05_node N }
noncomputable def granaryref05_node_CA (N : Nat) (f0 : (List Int) → Option ((List Int))) : Nat → List GS := fun k => tabOf k [(11, [{ granaryref05_Sum_v1_g N with F := f0 }])]
theorem granaryref05_node_CE (N : Nat) : granaryref05_node_CA N (granaryref05_Sum_v1 N) = granaryref05_node_C N := by kernel_rfl
theorem granaryref05_node_t (N : Nat) : TabC Try.prog (granaryref05_node_C N) := tab_ok ⟨⟨granaryref05_Sum_v1_ok N, trivial⟩, trivial⟩
theorem granaryref05_node_i : loopsOf granaryref05_node_c = [] := by kernel_rfl
noncomputable def granaryref05_node_a (N : Nat) (f0 : (List Int) → Option ((List Int))) (x : (List Int) × (List Int)) : Option ((List Int)) :=
  (let v2 : List Int := ([(1 : Int)] : List Int)
  (cond ((((decide (32 ≤ (List.length x.1))) && (decide (1 = 1))) && (decide (0 + 1 ≤ (List.length v2)))) && (fits 1 (1 + (List.length (List.take 32 (List.drop 0 x.1))))))
  ((let v3 : List Int := (List.take 1 (List.drop 0 v2) ++ (List.take 32 (List.drop 0 x.1)))
  (cond ((decide (32 ≤ (List.length x.2))) && (fits 1 ((List.length v3) + (List.length (List.take 32 (List.drop 0 x.2))))))
  ((Option.bind (f0 (v3 ++ (List.take 32 (List.drop 0 x.2)))) fun r5 =>
  (some r5)))
  none)))
  none))
theorem granaryref05_node_f (N : Nat) (f0 : (List Int) → Option ((List Int))) (x) : granaryref05_node_a N f0 x = fnStep Γ (granaryref05_node_CA N f0) (granaryref05_node_J N) 11 Try.f50.results.toList (granaryref05_node_g N) granaryref05_node_o granaryref05_node_c x := by kernel_rfl
theorem granaryref05_node_e (N : Nat) (x) : (granaryref05_node_g N).F x = fnStep Γ (granaryref05_node_C N) (granaryref05_node_J N) 11 Try.f50.results.toList (granaryref05_node_g N) granaryref05_node_o granaryref05_node_c x := by
  rw [← granaryref05_node_CE N]
  exact Eq.trans (by kernel_rfl) (granaryref05_node_f N (granaryref05_Sum_v1 N) x)
theorem granaryref05_node_y : Try.f50.body = some granaryref05_node_c := by kernel_rfl
theorem granaryref05_node_n : (Try.f50.name == "runtime.NumGoroutine") = false := by kernel_rfl
theorem granaryref05_node_ok (N : Nat) : FnDoes Try.prog 50 (granaryref05_node_g N) := fn_ok tabOK (granaryref05_node_t N) mixedOK (J := granaryref05_node_J N) (body := granaryref05_node_c) Try.func50 granaryref05_node_y granaryref05_node_n Try.ntmps50 (jok_from granaryref05_node_i trivial) rfl rfl (le_of_ble rfl) (granaryref05_node_e N)
noncomputable def granaryref05_Root_c : Code := codeOf Try.f30.body
noncomputable def granaryref05_Root_J (N : Nat) : Nat → Hint := fun cx => hintOf cx []
def granaryref05_Root_o : List (Shp × List Nat) := [(⟨[(0, (.av (.agg [(.arr (.int .u8) (some 32))])))], []⟩, [])]
noncomputable def granaryref05_Root_g (N : Nat) : GS := { ins := ⟨[(0, (.av (.one (.rsl (.arr 32 (.int .u8))))))], []⟩, lend := [.keep], outs := granaryref05_Root_o.map fun s => ssOf s.1, its := [.lst (.arr 32 (.int .u8))], ots := [[.lst (.int .u8)]], F := granaryref05_Root N }
noncomputable def granaryref05_Root_CA (N : Nat) (f0 : (List Int) → Option ((List Int))) (f1 : Int → Option (Int)) (f2 : (List (List Int)) → Option ((List Int))) (f3 : (List Int) × (List Int) → Option ((List Int))) : Nat → List GS := fun k => tabOf k [(11, [{ granaryref05_Sum_g N with F := f0 }]), (45, [{ granaryref05_half_g N with F := f1 }]), (30, [{ granaryref05_Root_g N with F := f2 }]), (50, [{ granaryref05_node_g N with F := f3 }])]
theorem granaryref05_Root_i : loopsOf granaryref05_Root_c = [] := by kernel_rfl
noncomputable def granaryref05_Root_a (N : Nat) (f0 : (List Int) → Option ((List Int))) (f1 : Int → Option (Int)) (f2 : (List (List Int)) → Option ((List Int))) (f3 : (List Int) × (List Int) → Option ((List Int))) (x : (List (List Int))) : Option ((List Int)) :=
  (cond (decide ((((List.length x) : Nat) : Int) = (0 : Int)))
  (Option.bind (f0 ([] : List Int)) fun r4 =>
  (some r4))
  (cond (decide ((((List.length x) : Nat) : Int) = (1 : Int)))
  (cond (decide ((0 : Int) < (((List.length x) : Nat) : Int)))
  ((some (List.getD x 0 (EK.dflt (.arr 32 (.int .u8))))))
  none)
  (Option.bind (f1 (((List.length x) : Nat) : Int)) fun r9 =>
  (cond ((decide ((0 : Int) ≤ r9)) && (decide (r9 ≤ (((List.length x) : Nat) : Int))))
  ((Option.bind (f2 (List.take (Int.toNat r9) (List.drop 0 x))) fun r11 =>
  (cond (((decide ((0 : Int) ≤ r9)) && (decide (r9 ≤ (((List.length x) : Nat) : Int)))) && (decide ((((List.length x) : Nat) : Int) ≤ (((List.length x) : Nat) : Int))))
  ((Option.bind (f2 (List.take ((List.length x) - (Int.toNat r9)) (List.drop (Int.toNat r9) x))) fun r13 =>
  (Option.bind (f3 (r11, r13)) fun r14 =>
  (some r14))))
  none)))
  none))))
theorem granaryref05_Root_f (N : Nat) (f0 : (List Int) → Option ((List Int))) (f1 : Int → Option (Int)) (f2 : (List (List Int)) → Option ((List Int))) (f3 : (List Int) × (List Int) → Option ((List Int))) (x) : granaryref05_Root_a N f0 f1 f2 f3 x = fnStep Γ (granaryref05_Root_CA N f0 f1 f2 f3) (granaryref05_Root_J N) 26 Try.f30.results.toList (granaryref05_Root_g N) granaryref05_Root_o granaryref05_Root_c x := by kernel_rfl
theorem granaryref05_Root_y : Try.f30.body = some granaryref05_Root_c := by kernel_rfl
theorem granaryref05_Root_n : (Try.f30.name == "runtime.NumGoroutine") = false := by kernel_rfl
theorem granaryref05_Root_okn (N : Nat) : ∀ n, FnDoes Try.prog 30 { granaryref05_Root_g N with F := loopF (granaryref05_Root_b N) n }
  | 0 => fn_none Try.func30 granaryref05_Root_y granaryref05_Root_n (fun _ => rfl)
  | n + 1 => fn_ok tabOK (C := granaryref05_Root_CA N (granaryref05_Sum N) (granaryref05_half N) (loopF (granaryref05_Root_b N) n) (granaryref05_node N)) (tab_ok ⟨⟨granaryref05_Sum_ok N, trivial⟩, ⟨granaryref05_half_ok N, trivial⟩, ⟨granaryref05_Root_okn N n, trivial⟩, ⟨granaryref05_node_ok N, trivial⟩, trivial⟩) mixedOK (J := granaryref05_Root_J N) (body := granaryref05_Root_c) Try.func30 granaryref05_Root_y granaryref05_Root_n Try.ntmps30 (jok_from granaryref05_Root_i trivial) (outs := granaryref05_Root_o) rfl rfl (le_of_ble rfl) (fun x => Eq.trans (by kernel_rfl) (granaryref05_Root_f N (granaryref05_Sum N) (granaryref05_half N) (loopF (granaryref05_Root_b N) n) (granaryref05_node N) x))
theorem granaryref05_Root_ok (N : Nat) : FnDoes Try.prog 30 (granaryref05_Root_g N) := granaryref05_Root_okn N N
noncomputable def granaryref05_Path_c : Code := codeOf Try.f26.body
noncomputable def granaryref05_Path_J (N : Nat) : Nat → Hint := fun cx => hintOf cx [(0, { reg := fun k => assoc0 k [(1, ⟨⟨[(18, (.av (.one .bool)))], []⟩, [], [], [.bool]⟩)], cnd := fun k => assoc0 k [], loop := fun k => assoc0 k [], nil := fun k => assoc0 k [], unr := fun k => assocN k [], blk := fun k => assoc0 k [] })]
def granaryref05_Path_o : List (Shp × List Nat) := [(⟨[(0, (.tup [(.one (.const (.slw 0 32))), (.one (.int .i64))]))], [(.sh (.arr (.arr 32 (.int .u8)) none), false)]⟩, [])]
noncomputable def granaryref05_Path_g (N : Nat) : GS := { ins := ⟨[(0, (.av (.one (.rsl (.arr 32 (.int .u8)))))), (1, (.av (.one (.int .i64))))], []⟩, lend := [.keep, .keep], outs := granaryref05_Path_o.map fun s => ssOf s.1, its := [.lst (.arr 32 (.int .u8)), .int], ots := [[.int, .lst (.arr 32 (.int .u8))]], F := granaryref05_Path N }
noncomputable def granaryref05_Path_CA (N : Nat) (f0 : Int → Option (Int)) (f1 : (List (List Int)) × Int → Option (Int × (List (List Int)))) (f2 : (List (List Int)) → Option ((List Int))) : Nat → List GS := fun k => tabOf k [(45, [{ granaryref05_half_g N with F := f0 }]), (26, [{ granaryref05_Path_g N with F := f1 }]), (30, [{ granaryref05_Root_g N with F := f2 }])]
theorem granaryref05_Path_i : loopsOf granaryref05_Path_c = [] := by kernel_rfl
noncomputable def granaryref05_Path_a (N : Nat) (f0 : Int → Option (Int)) (f1 : (List (List Int)) × Int → Option (Int × (List (List Int)))) (f2 : (List (List Int)) → Option ((List Int))) (x : (List (List Int)) × Int) : Option (Int × (List (List Int))) :=
  (Option.bind
  (cond (decide (x.2 < (0 : Int)))
  (some true)
  (some (decide ((((List.length x.1) : Nat) : Int) ≤ x.2))))
  fun r4 =>
  (cond r4
  (some ((2 : Int), ([] : List (List Int))))
  (cond (decide ((((List.length x.1) : Nat) : Int) = (1 : Int)))
  (some ((0 : Int), ([] : List (List Int))))
  (Option.bind (f0 (((List.length x.1) : Nat) : Int)) fun r8 =>
  (cond (decide (x.2 < r8))
  (cond ((decide ((0 : Int) ≤ r8)) && (decide (r8 ≤ (((List.length x.1) : Nat) : Int))))
  ((Option.bind (f1 ((List.take (Int.toNat r8) (List.drop 0 x.1)), x.2)) fun r11 =>
  (cond (((decide ((0 : Int) ≤ r8)) && (decide (r8 ≤ (((List.length x.1) : Nat) : Int)))) && (decide ((((List.length x.1) : Nat) : Int) ≤ (((List.length x.1) : Nat) : Int))))
  ((Option.bind (f2 (List.take ((List.length x.1) - (Int.toNat r8)) (List.drop (Int.toNat r8) x.1))) fun r13 =>
  (let v14 : List (List Int) := ([r13] : List (List Int))
  (cond ((decide (1 ≤ (List.length v14))) && (fits 32 ((List.length r11.2) + (List.length (List.take 1 (List.drop 0 v14))))))
  ((some ((0 : Int), (r11.2 ++ (List.take 1 (List.drop 0 v14))))))
  none))))
  none)))
  none)
  (cond (((decide ((0 : Int) ≤ r8)) && (decide (r8 ≤ (((List.length x.1) : Nat) : Int)))) && (decide ((((List.length x.1) : Nat) : Int) ≤ (((List.length x.1) : Nat) : Int))))
  ((Option.bind (f1 ((List.take ((List.length x.1) - (Int.toNat r8)) (List.drop (Int.toNat r8) x.1)), (wrapF .i64 (x.2 - r8)))) fun r18 =>
  (cond ((decide ((0 : Int) ≤ r8)) && (decide (r8 ≤ (((List.length x.1) : Nat) : Int))))
  ((Option.bind (f2 (List.take (Int.toNat r8) (List.drop 0 x.1))) fun r20 =>
  (let v21 : List (List Int) := ([r20] : List (List Int))
  (cond ((decide (1 ≤ (List.length v21))) && (fits 32 ((List.length r18.2) + (List.length (List.take 1 (List.drop 0 v21))))))
  ((some ((0 : Int), (r18.2 ++ (List.take 1 (List.drop 0 v21))))))
  none))))
  none)))
  none))))))
theorem granaryref05_Path_f (N : Nat) (f0 : Int → Option (Int)) (f1 : (List (List Int)) × Int → Option (Int × (List (List Int)))) (f2 : (List (List Int)) → Option ((List Int))) (x) : granaryref05_Path_a N f0 f1 f2 x = fnStep Γ (granaryref05_Path_CA N f0 f1 f2) (granaryref05_Path_J N) 60 Try.f26.results.toList (granaryref05_Path_g N) granaryref05_Path_o granaryref05_Path_c x := by kernel_rfl
theorem granaryref05_Path_y : Try.f26.body = some granaryref05_Path_c := by kernel_rfl
theorem granaryref05_Path_n : (Try.f26.name == "runtime.NumGoroutine") = false := by kernel_rfl
theorem granaryref05_Path_okn (N : Nat) : ∀ n, FnDoes Try.prog 26 { granaryref05_Path_g N with F := loopF (granaryref05_Path_b N) n }
  | 0 => fn_none Try.func26 granaryref05_Path_y granaryref05_Path_n (fun _ => rfl)
  | n + 1 => fn_ok tabOK (C := granaryref05_Path_CA N (granaryref05_half N) (loopF (granaryref05_Path_b N) n) (granaryref05_Root N)) (tab_ok ⟨⟨granaryref05_half_ok N, trivial⟩, ⟨granaryref05_Path_okn N n, trivial⟩, ⟨granaryref05_Root_ok N, trivial⟩, trivial⟩) mixedOK (J := granaryref05_Path_J N) (body := granaryref05_Path_c) Try.func26 granaryref05_Path_y granaryref05_Path_n Try.ntmps26 (jok_from granaryref05_Path_i ⟨trivial, trivial⟩) (outs := granaryref05_Path_o) rfl rfl (le_of_ble rfl) (fun x => Eq.trans (by kernel_rfl) (granaryref05_Path_f N (granaryref05_half N) (loopF (granaryref05_Path_b N) n) (granaryref05_Root N) x))
theorem granaryref05_Path_ok (N : Nat) : FnDoes Try.prog 26 (granaryref05_Path_g N) := granaryref05_Path_okn N N
noncomputable def sha_sides_c : Code := codeOf Try.f46.body
noncomputable def sha_sides_J (N : Nat) : Nat → Hint := fun cx => hintOf cx []
def sha_sides_o : List (Shp × List Nat) := [(⟨[(0, (.av (.one (.const (.slw 0 1)))))], [(.sh (.arr .bool none), false)]⟩, [])]
noncomputable def sha_sides_g (N : Nat) : GS := { ins := ⟨[(0, (.av (.one (.int .i64)))), (1, (.av (.one (.int .i64))))], []⟩, lend := [.keep, .keep], outs := sha_sides_o.map fun s => ssOf s.1, its := [.int, .int], ots := [[.lst .bool]], F := sha_sides N }
noncomputable def sha_sides_CA (N : Nat) (f0 : Int → Option (Int)) (f1 : Int × Int → Option ((List Bool))) : Nat → List GS := fun k => tabOf k [(44, [{ sha_half_g N with F := f0 }]), (46, [{ sha_sides_g N with F := f1 }])]
theorem sha_sides_i : loopsOf sha_sides_c = [] := by kernel_rfl
noncomputable def sha_sides_a (N : Nat) (f0 : Int → Option (Int)) (f1 : Int × Int → Option ((List Bool))) (x : Int × Int) : Option ((List Bool)) :=
  (cond (decide (x.2 = (1 : Int)))
  (some ([] : List Bool))
  (Option.bind (f0 x.2) fun r2 =>
  (cond (decide (x.1 < r2))
  (Option.bind (f1 (x.1, r2)) fun r4 =>
  (let v5 : List Bool := ([false] : List Bool)
  (cond ((decide (1 ≤ (List.length v5))) && (fits 1 ((List.length r4) + (List.length (List.take 1 (List.drop 0 v5))))))
  ((some (r4 ++ (List.take 1 (List.drop 0 v5)))))
  none)))
  (Option.bind (f1 ((wrapF .i64 (x.1 - r2)), (wrapF .i64 (x.2 - r2)))) fun r9 =>
  (let v10 : List Bool := ([true] : List Bool)
  (cond ((decide (1 ≤ (List.length v10))) && (fits 1 ((List.length r9) + (List.length (List.take 1 (List.drop 0 v10))))))
  ((some (r9 ++ (List.take 1 (List.drop 0 v10)))))
  none))))))
theorem sha_sides_f (N : Nat) (f0 : Int → Option (Int)) (f1 : Int × Int → Option ((List Bool))) (x) : sha_sides_a N f0 f1 x = fnStep Γ (sha_sides_CA N f0 f1) (sha_sides_J N) 27 Try.f46.results.toList (sha_sides_g N) sha_sides_o sha_sides_c x := by kernel_rfl
theorem sha_sides_y : Try.f46.body = some sha_sides_c := by kernel_rfl
theorem sha_sides_n : (Try.f46.name == "runtime.NumGoroutine") = false := by kernel_rfl
theorem sha_sides_okn (N : Nat) : ∀ n, FnDoes Try.prog 46 { sha_sides_g N with F := loopF (sha_sides_b N) n }
  | 0 => fn_none Try.func46 sha_sides_y sha_sides_n (fun _ => rfl)
  | n + 1 => fn_ok tabOK (C := sha_sides_CA N (sha_half N) (loopF (sha_sides_b N) n)) (tab_ok ⟨⟨sha_half_ok N, trivial⟩, ⟨sha_sides_okn N n, trivial⟩, trivial⟩) mixedOK (J := sha_sides_J N) (body := sha_sides_c) Try.func46 sha_sides_y sha_sides_n Try.ntmps46 (jok_from sha_sides_i trivial) (outs := sha_sides_o) rfl rfl (le_of_ble rfl) (fun x => Eq.trans (by kernel_rfl) (sha_sides_f N (sha_half N) (loopF (sha_sides_b N) n) x))
theorem sha_sides_ok (N : Nat) : FnDoes Try.prog 46 (sha_sides_g N) := sha_sides_okn N N
noncomputable def sha_Climb_c : Code := codeOf Try.f27.body
noncomputable def sha_Climb_c0 : Code := codeOf (getLoop 0 sha_Climb_c)
def sha_Climb_d0 : LD := { ins := ⟨[(3, (.av (.one (.rsl (.arr 32 (.int .u8)))))), (4, (.av (.one (.const (.ptr ⟨0, 0, 0, 0⟩))))), (8, (.av (.one (.const (.ptr ⟨1, 0, 0, 0⟩))))), (34, (.av (.one (.const (.slw 2 1))))), (35, (.av (.one (.int .i64)))), (36, (.av (.one (.int .i64))))], [(.sh (.arr (.int .u8) (some 32)), false), (.keep, false), (.sh (.arr .bool none), false)]⟩, mov := [], wr := [0, 2], outs := [(.exit 0, ⟨[], [(.sh (.arr (.int .u8) (some 32)), false), (.keep, false), (.sh (.arr .bool none), false)]⟩)], its := [.lst (.arr 32 (.int .u8)), .int, .int, .lst (.int .u8), .lst .bool], ots := [[.lst (.int .u8), .lst .bool]] }
noncomputable def sha_Climb_J (N : Nat) : Nat → Hint := fun cx => hintOf cx [(0, { reg := fun k => assoc0 k [(1, ⟨⟨[(23, (.av (.one .bool)))], [(.keep, false), (.keep, false)]⟩, [], [], [.bool]⟩)], cnd := fun k => assoc0 k [(41, ⟨[], [0], [(.normal, ⟨[], [(.sh (.arr (.int .u8) (some 32)), false), (.dead, false), (.keep, false)]⟩)], [[.lst (.int .u8)]]⟩)], loop := fun k => assoc0 k [(0, ⟨sha_Climb_d0, loopF (sha_Climb_b0 N) N⟩)], nil := fun k => assoc0 k [], unr := fun k => assocN k [], blk := fun k => assoc0 k [] })]
noncomputable def sha_Climb_C (N : Nat) : Nat → List GS := fun k => tabOf k [(46, [sha_sides_g N]), (47, [sha_pair_g N])]
def sha_Climb_o : List (Shp × List Nat) := [(⟨[(0, (.tup [(.agg [(.arr (.int .u8) (some 32))]), (.one (.int .i64))]))], []⟩, [])]
noncomputable def sha_Climb_g (N : Nat) : GS := { ins := ⟨[(0, (.av (.agg [(.arr (.int .u8) (some 32))]))), (1, (.av (.one (.int .i64)))), (2, (.av (.one (.int .i64)))), (3, (.av (.one (.rsl (.arr 32 (.int .u8))))))], []⟩, lend := [.keep, .keep, .keep, .keep], outs := sha_Climb_o.map fun s => ssOf s.1, its := [.lst (.int .u8), .int, .int, .lst (.arr 32 (.int .u8))], ots := [[.lst (.int .u8), .int]], F := sha_Climb N }
noncomputable def sha_Climb_CA (N : Nat) (f0 : Int × Int → Option ((List Bool))) (f1 : (List Int) × (List Int) → Option ((List Int))) : Nat → List GS := fun k => tabOf k [(46, [{ sha_sides_g N with F := f0 }]), (47, [{ sha_pair_g N with F := f1 }])]
theorem sha_Climb_CE (N : Nat) : sha_Climb_CA N (sha_sides N) (sha_pair N) = sha_Climb_C N := by kernel_rfl
theorem sha_Climb_t (N : Nat) : TabC Try.prog (sha_Climb_C N) := tab_ok ⟨⟨sha_sides_ok N, trivial⟩, ⟨sha_pair_ok N, trivial⟩, trivial⟩
theorem sha_Climb_i0 : loopsOf sha_Climb_c0 = [] := by kernel_rfl
noncomputable def sha_Climb_a0 (N : Nat) (f0 : Int × Int → Option ((List Bool))) (f1 : (List Int) × (List Int) → Option ((List Int))) (next : (List (List Int)) × Int × Int × (List Int) × (List Bool) → Option (((List Int) × (List Bool)))) (x : (List (List Int)) × Int × Int × (List Int) × (List Bool)) : Option (((List Int) × (List Bool))) :=
  (cond (decide (x.2.2.1 < x.2.1))
  (cond ((decide ((0 : Int) ≤ x.2.2.1)) && (decide (x.2.2.1 < (((List.length x.2.2.2.2) : Nat) : Int))))
  ((let v2 : Nat := (Int.toNat x.2.2.1)
  (cond (decide (v2 < (List.length x.2.2.2.2)))
  ((Option.bind
  (cond (List.getD x.2.2.2.2 v2 (EK.dflt .bool))
  (cond ((decide ((0 : Int) ≤ x.2.2.1)) && (decide (x.2.2.1 < (((List.length x.1) : Nat) : Int))))
  ((Option.bind (f1 ((List.getD x.1 (Int.toNat x.2.2.1) (EK.dflt (.arr 32 (.int .u8)))), x.2.2.2.1)) fun r5 =>
  (some r5)))
  none)
  (cond ((decide ((0 : Int) ≤ x.2.2.1)) && (decide (x.2.2.1 < (((List.length x.1) : Nat) : Int))))
  ((Option.bind (f1 (x.2.2.2.1, (List.getD x.1 (Int.toNat x.2.2.1) (EK.dflt (.arr 32 (.int .u8)))))) fun r7 =>
  (some r7)))
  none))
  fun r8 =>
  (next (x.1, x.2.1, (wrapF .i64 (x.2.2.1 + (1 : Int))), r8, x.2.2.2.2))))
  none)))
  none)
  (some (x.2.2.2.1, x.2.2.2.2)))
theorem sha_Climb_f0 (N : Nat) (f0 : Int × Int → Option ((List Bool))) (f1 : (List Int) × (List Int) → Option ((List Int))) (next) (x) : sha_Climb_a0 N f0 f1 next x = loopStep Γ (sha_Climb_CA N f0 f1) (sha_Climb_J N) 0 56 sha_Climb_d0 sha_Climb_c0 next x := by kernel_rfl
theorem sha_Climb_e0 (N : Nat) (next) (x) : sha_Climb_b0 N next x = loopStep Γ (sha_Climb_C N) (sha_Climb_J N) 0 56 sha_Climb_d0 sha_Climb_c0 next x := by
  rw [← sha_Climb_CE N]
  exact Eq.trans (by kernel_rfl) (sha_Climb_f0 N (sha_sides N) (sha_pair N) next x)
theorem sha_Climb_k0 (N : Nat) : LoopOK Try.prog 56 sha_Climb_c0 ⟨sha_Climb_d0, loopF (sha_Climb_b0 N) N⟩ := loop_ok tabOK (sha_Climb_t N) mixedOK (J := sha_Climb_J N) (cx := 0) (body := sha_Climb_c0) (nt := 56) (l := sha_Climb_d0) (b := sha_Climb_b0 N) (jok_from sha_Climb_i0 ⟨trivial, trivial⟩) (sha_Climb_e0 N) N
theorem sha_Climb_i : loopsOf sha_Climb_c = [(0, sha_Climb_c0)] := by kernel_rfl
noncomputable def sha_Climb_a (N : Nat) (f0 : Int × Int → Option ((List Bool))) (f1 : (List Int) × (List Int) → Option ((List Int))) (x : (List Int) × Int × Int × (List (List Int))) : Option ((List Int) × Int) :=
  (Option.bind
  (cond (decide (x.2.1 < (0 : Int)))
  (some true)
  (cond (decide (x.2.2.1 ≤ x.2.1))
  (some true)
  (some (decide ((1048576 : Int) < x.2.2.1)))))
  fun r5 =>
  (cond r5
  (some ((List.replicate 32 (EK.dflt (.int .u8))), (2 : Int)))
  (Option.bind (f0 (x.2.1, x.2.2.1)) fun r7 =>
  (cond (!(decide ((((List.length r7) : Nat) : Int) = (((List.length x.2.2.2) : Nat) : Int))))
  (some ((List.replicate 32 (EK.dflt (.int .u8))), (2 : Int)))
  (Option.bind (sha_Climb_l0 N (x.2.2.2, (((List.length r7) : Nat) : Int), (0 : Int), x.1, r7)) fun r13 =>
  (some (r13.1, (0 : Int))))))))
theorem sha_Climb_f (N : Nat) (f0 : Int × Int → Option ((List Bool))) (f1 : (List Int) × (List Int) → Option ((List Int))) (x) : sha_Climb_a N f0 f1 x = fnStep Γ (sha_Climb_CA N f0 f1) (sha_Climb_J N) 56 Try.f27.results.toList (sha_Climb_g N) sha_Climb_o sha_Climb_c x := by kernel_rfl
theorem sha_Climb_e (N : Nat) (x) : (sha_Climb_g N).F x = fnStep Γ (sha_Climb_C N) (sha_Climb_J N) 56 Try.f27.results.toList (sha_Climb_g N) sha_Climb_o sha_Climb_c x := by
  rw [← sha_Climb_CE N]
  exact Eq.trans (by kernel_rfl) (sha_Climb_f N (sha_sides N) (sha_pair N) x)
theorem sha_Climb_y : Try.f27.body = some sha_Climb_c := by kernel_rfl
theorem sha_Climb_n : (Try.f27.name == "runtime.NumGoroutine") = false := by kernel_rfl
theorem sha_Climb_ok (N : Nat) : FnDoes Try.prog 27 (sha_Climb_g N) := fn_ok tabOK (sha_Climb_t N) mixedOK (J := sha_Climb_J N) (body := sha_Climb_c) Try.func27 sha_Climb_y sha_Climb_n Try.ntmps27 (jok_from sha_Climb_i ⟨⟨.inr ⟨_, rfl, sha_Climb_k0 N⟩, trivial⟩, trivial⟩) rfl rfl (le_of_ble rfl) (sha_Climb_e N)
noncomputable def granaryref05_steps_c : Code := codeOf Try.f48.body
noncomputable def granaryref05_steps_J (N : Nat) : Nat → Hint := fun cx => hintOf cx []
def granaryref05_steps_o : List (Shp × List Nat) := [(⟨[(0, (.av (.one (.int .i64))))], []⟩, [])]
noncomputable def granaryref05_steps_g (N : Nat) : GS := { ins := ⟨[(0, (.av (.one (.int .i64)))), (1, (.av (.one (.int .i64))))], []⟩, lend := [.keep, .keep], outs := granaryref05_steps_o.map fun s => ssOf s.1, its := [.int, .int], ots := [[.int]], F := granaryref05_steps N }
noncomputable def granaryref05_steps_CA (N : Nat) (f0 : Int → Option (Int)) (f1 : Int × Int → Option (Int)) : Nat → List GS := fun k => tabOf k [(45, [{ granaryref05_half_g N with F := f0 }]), (48, [{ granaryref05_steps_g N with F := f1 }])]
theorem granaryref05_steps_i : loopsOf granaryref05_steps_c = [] := by kernel_rfl
noncomputable def granaryref05_steps_a (N : Nat) (f0 : Int → Option (Int)) (f1 : Int × Int → Option (Int)) (x : Int × Int) : Option (Int) :=
  (cond (decide (x.2 = (1 : Int)))
  (some (0 : Int))
  (Option.bind (f0 x.2) fun r2 =>
  (cond (decide (x.1 < r2))
  (Option.bind (f1 (x.1, r2)) fun r4 =>
  (some (wrapF .i64 ((1 : Int) + r4))))
  (Option.bind (f1 ((wrapF .i64 (x.1 - r2)), (wrapF .i64 (x.2 - r2)))) fun r8 =>
  (some (wrapF .i64 ((1 : Int) + r8)))))))
theorem granaryref05_steps_f (N : Nat) (f0 : Int → Option (Int)) (f1 : Int × Int → Option (Int)) (x) : granaryref05_steps_a N f0 f1 x = fnStep Γ (granaryref05_steps_CA N f0 f1) (granaryref05_steps_J N) 25 Try.f48.results.toList (granaryref05_steps_g N) granaryref05_steps_o granaryref05_steps_c x := by kernel_rfl
theorem granaryref05_steps_y : Try.f48.body = some granaryref05_steps_c := by kernel_rfl
theorem granaryref05_steps_n : (Try.f48.name == "runtime.NumGoroutine") = false := by kernel_rfl
theorem granaryref05_steps_okn (N : Nat) : ∀ n, FnDoes Try.prog 48 { granaryref05_steps_g N with F := loopF (granaryref05_steps_b N) n }
  | 0 => fn_none Try.func48 granaryref05_steps_y granaryref05_steps_n (fun _ => rfl)
  | n + 1 => fn_ok tabOK (C := granaryref05_steps_CA N (granaryref05_half N) (loopF (granaryref05_steps_b N) n)) (tab_ok ⟨⟨granaryref05_half_ok N, trivial⟩, ⟨granaryref05_steps_okn N n, trivial⟩, trivial⟩) mixedOK (J := granaryref05_steps_J N) (body := granaryref05_steps_c) Try.func48 granaryref05_steps_y granaryref05_steps_n Try.ntmps48 (jok_from granaryref05_steps_i trivial) (outs := granaryref05_steps_o) rfl rfl (le_of_ble rfl) (fun x => Eq.trans (by kernel_rfl) (granaryref05_steps_f N (granaryref05_half N) (loopF (granaryref05_steps_b N) n) x))
theorem granaryref05_steps_ok (N : Nat) : FnDoes Try.prog 48 (granaryref05_steps_g N) := granaryref05_steps_okn N N
noncomputable def granaryref05_climb_c : Code := codeOf Try.f49.body
noncomputable def granaryref05_climb_J (N : Nat) : Nat → Hint := fun cx => hintOf cx []
def granaryref05_climb_o : List (Shp × List Nat) := [(⟨[(0, (.av (.agg [(.arr (.int .u8) (some 32))])))], []⟩, [])]
noncomputable def granaryref05_climb_g (N : Nat) : GS := { ins := ⟨[(0, (.av (.agg [(.arr (.int .u8) (some 32))]))), (1, (.av (.one (.int .i64)))), (2, (.av (.one (.int .i64)))), (3, (.av (.one (.rsl (.arr 32 (.int .u8))))))], []⟩, lend := [.keep, .keep, .keep, .keep], outs := granaryref05_climb_o.map fun s => ssOf s.1, its := [.lst (.int .u8), .int, .int, .lst (.arr 32 (.int .u8))], ots := [[.lst (.int .u8)]], F := granaryref05_climb N }
noncomputable def granaryref05_climb_CA (N : Nat) (f0 : Int → Option (Int)) (f1 : (List Int) × Int × Int × (List (List Int)) → Option ((List Int))) (f2 : (List Int) × (List Int) → Option ((List Int))) : Nat → List GS := fun k => tabOf k [(45, [{ granaryref05_half_g N with F := f0 }]), (49, [{ granaryref05_climb_g N with F := f1 }]), (50, [{ granaryref05_node_g N with F := f2 }])]
theorem granaryref05_climb_i : loopsOf granaryref05_climb_c = [] := by kernel_rfl
noncomputable def granaryref05_climb_a (N : Nat) (f0 : Int → Option (Int)) (f1 : (List Int) × Int × Int × (List (List Int)) → Option ((List Int))) (f2 : (List Int) × (List Int) → Option ((List Int))) (x : (List Int) × Int × Int × (List (List Int))) : Option ((List Int)) :=
  (cond (decide (x.2.2.1 = (1 : Int)))
  (some x.1)
  (Option.bind (f0 x.2.2.1) fun r3 =>
  (let v5 : Int := (wrapF .i64 ((((List.length x.2.2.2) : Nat) : Int) - (1 : Int)))
  (cond (decide (x.2.1 < r3))
  (cond ((decide ((0 : Int) ≤ v5)) && (decide (v5 ≤ (((List.length x.2.2.2) : Nat) : Int))))
  ((Option.bind (f1 (x.1, x.2.1, r3, (List.take (Int.toNat v5) (List.drop 0 x.2.2.2)))) fun r8 =>
  (cond ((decide ((0 : Int) ≤ v5)) && (decide (v5 < (((List.length x.2.2.2) : Nat) : Int))))
  ((Option.bind (f2 (r8, (List.getD x.2.2.2 (Int.toNat v5) (EK.dflt (.arr 32 (.int .u8)))))) fun r10 =>
  (some r10)))
  none)))
  none)
  (cond ((decide ((0 : Int) ≤ v5)) && (decide (v5 < (((List.length x.2.2.2) : Nat) : Int))))
  ((cond ((decide ((0 : Int) ≤ v5)) && (decide (v5 ≤ (((List.length x.2.2.2) : Nat) : Int))))
  ((Option.bind (f1 (x.1, (wrapF .i64 (x.2.1 - r3)), (wrapF .i64 (x.2.2.1 - r3)), (List.take (Int.toNat v5) (List.drop 0 x.2.2.2)))) fun r15 =>
  (Option.bind (f2 ((List.getD x.2.2.2 (Int.toNat v5) (EK.dflt (.arr 32 (.int .u8)))), r15)) fun r16 =>
  (some r16))))
  none))
  none)))))
theorem granaryref05_climb_f (N : Nat) (f0 : Int → Option (Int)) (f1 : (List Int) × Int × Int × (List (List Int)) → Option ((List Int))) (f2 : (List Int) × (List Int) → Option ((List Int))) (x) : granaryref05_climb_a N f0 f1 f2 x = fnStep Γ (granaryref05_climb_CA N f0 f1 f2) (granaryref05_climb_J N) 50 Try.f49.results.toList (granaryref05_climb_g N) granaryref05_climb_o granaryref05_climb_c x := by kernel_rfl
theorem granaryref05_climb_y : Try.f49.body = some granaryref05_climb_c := by kernel_rfl
theorem granaryref05_climb_n : (Try.f49.name == "runtime.NumGoroutine") = false := by kernel_rfl
theorem granaryref05_climb_okn (N : Nat) : ∀ n, FnDoes Try.prog 49 { granaryref05_climb_g N with F := loopF (granaryref05_climb_b N) n }
  | 0 => fn_none Try.func49 granaryref05_climb_y granaryref05_climb_n (fun _ => rfl)
  | n + 1 => fn_ok tabOK (C := granaryref05_climb_CA N (granaryref05_half N) (loopF (granaryref05_climb_b N) n) (granaryref05_node N)) (tab_ok ⟨⟨granaryref05_half_ok N, trivial⟩, ⟨granaryref05_climb_okn N n, trivial⟩, ⟨granaryref05_node_ok N, trivial⟩, trivial⟩) mixedOK (J := granaryref05_climb_J N) (body := granaryref05_climb_c) Try.func49 granaryref05_climb_y granaryref05_climb_n Try.ntmps49 (jok_from granaryref05_climb_i trivial) (outs := granaryref05_climb_o) rfl rfl (le_of_ble rfl) (fun x => Eq.trans (by kernel_rfl) (granaryref05_climb_f N (granaryref05_half N) (loopF (granaryref05_climb_b N) n) (granaryref05_node N) x))
theorem granaryref05_climb_ok (N : Nat) : FnDoes Try.prog 49 (granaryref05_climb_g N) := granaryref05_climb_okn N N
noncomputable def granaryref05_Climb_c : Code := codeOf Try.f28.body
noncomputable def granaryref05_Climb_J (N : Nat) : Nat → Hint := fun cx => hintOf cx [(0, { reg := fun k => assoc0 k [(1, ⟨⟨[(28, (.av (.one .bool)))], [(.keep, false), (.keep, false)]⟩, [], [], [.bool]⟩)], cnd := fun k => assoc0 k [], loop := fun k => assoc0 k [], nil := fun k => assoc0 k [], unr := fun k => assocN k [], blk := fun k => assoc0 k [] })]
noncomputable def granaryref05_Climb_C (N : Nat) : Nat → List GS := fun k => tabOf k [(48, [granaryref05_steps_g N]), (49, [granaryref05_climb_g N])]
def granaryref05_Climb_o : List (Shp × List Nat) := [(⟨[(0, (.tup [(.agg [(.arr (.int .u8) (some 32))]), (.one (.int .i64))]))], []⟩, [])]
noncomputable def granaryref05_Climb_g (N : Nat) : GS := { ins := ⟨[(0, (.av (.agg [(.arr (.int .u8) (some 32))]))), (1, (.av (.one (.int .i64)))), (2, (.av (.one (.int .i64)))), (3, (.av (.one (.rsl (.arr 32 (.int .u8))))))], []⟩, lend := [.keep, .keep, .keep, .keep], outs := granaryref05_Climb_o.map fun s => ssOf s.1, its := [.lst (.int .u8), .int, .int, .lst (.arr 32 (.int .u8))], ots := [[.lst (.int .u8), .int]], F := granaryref05_Climb N }
noncomputable def granaryref05_Climb_CA (N : Nat) (f0 : Int × Int → Option (Int)) (f1 : (List Int) × Int × Int × (List (List Int)) → Option ((List Int))) : Nat → List GS := fun k => tabOf k [(48, [{ granaryref05_steps_g N with F := f0 }]), (49, [{ granaryref05_climb_g N with F := f1 }])]
theorem granaryref05_Climb_CE (N : Nat) : granaryref05_Climb_CA N (granaryref05_steps N) (granaryref05_climb N) = granaryref05_Climb_C N := by kernel_rfl
theorem granaryref05_Climb_t (N : Nat) : TabC Try.prog (granaryref05_Climb_C N) := tab_ok ⟨⟨granaryref05_steps_ok N, trivial⟩, ⟨granaryref05_climb_ok N, trivial⟩, trivial⟩
theorem granaryref05_Climb_i : loopsOf granaryref05_Climb_c = [] := by kernel_rfl
noncomputable def granaryref05_Climb_a (N : Nat) (f0 : Int × Int → Option (Int)) (f1 : (List Int) × Int × Int × (List (List Int)) → Option ((List Int))) (x : (List Int) × Int × Int × (List (List Int))) : Option ((List Int) × Int) :=
  (Option.bind
  (cond (decide ((1048576 : Int) < x.2.2.1))
  (some true)
  (cond (decide (x.2.1 < (0 : Int)))
  (some true)
  (cond (decide (x.2.2.1 ≤ x.2.1))
  (some true)
  (Option.bind (f0 (x.2.1, x.2.2.1)) fun r6 =>
  (some (!(decide ((((List.length x.2.2.2) : Nat) : Int) = r6))))))))
  fun r8 =>
  (cond r8
  (some ((List.replicate 32 (EK.dflt (.int .u8))), (2 : Int)))
  (Option.bind (f1 (x.1, x.2.1, x.2.2.1, x.2.2.2)) fun r10 =>
  (some (r10, (0 : Int))))))
theorem granaryref05_Climb_f (N : Nat) (f0 : Int × Int → Option (Int)) (f1 : (List Int) × Int × Int × (List (List Int)) → Option ((List Int))) (x) : granaryref05_Climb_a N f0 f1 x = fnStep Γ (granaryref05_Climb_CA N f0 f1) (granaryref05_Climb_J N) 35 Try.f28.results.toList (granaryref05_Climb_g N) granaryref05_Climb_o granaryref05_Climb_c x := by kernel_rfl
theorem granaryref05_Climb_e (N : Nat) (x) : (granaryref05_Climb_g N).F x = fnStep Γ (granaryref05_Climb_C N) (granaryref05_Climb_J N) 35 Try.f28.results.toList (granaryref05_Climb_g N) granaryref05_Climb_o granaryref05_Climb_c x := by
  rw [← granaryref05_Climb_CE N]
  exact Eq.trans (by kernel_rfl) (granaryref05_Climb_f N (granaryref05_steps N) (granaryref05_climb N) x)
theorem granaryref05_Climb_y : Try.f28.body = some granaryref05_Climb_c := by kernel_rfl
theorem granaryref05_Climb_n : (Try.f28.name == "runtime.NumGoroutine") = false := by kernel_rfl
theorem granaryref05_Climb_ok (N : Nat) : FnDoes Try.prog 28 (granaryref05_Climb_g N) := fn_ok tabOK (granaryref05_Climb_t N) mixedOK (J := granaryref05_Climb_J N) (body := granaryref05_Climb_c) Try.func28 granaryref05_Climb_y granaryref05_Climb_n Try.ntmps28 (jok_from granaryref05_Climb_i ⟨trivial, trivial⟩) rfl rfl (le_of_ble rfl) (granaryref05_Climb_e N)
noncomputable def granaryref05_Same_c : Code := codeOf Try.f31.body
noncomputable def granaryref05_Same_c0 : Code := codeOf (getLoop 0 granaryref05_Same_c)
def granaryref05_Same_d0 : LD := { ins := ⟨[(0, (.av (.one (.rsl (.arr 32 (.int .u8)))))), (1, (.av (.one (.rsl (.arr 32 (.int .u8)))))), (5, (.av (.one (.int .i64))))], []⟩, mov := [], wr := [], outs := [(.ret, ⟨[(4, (.av (.one (.const (.bool false)))))], []⟩), (.exit 0, ⟨[], []⟩)], its := [.lst (.arr 32 (.int .u8)), .lst (.arr 32 (.int .u8)), .int], ots := [[], []] }
noncomputable def granaryref05_Same_J (N : Nat) : Nat → Hint := fun cx => hintOf cx [(0, { reg := fun k => assoc0 k [], cnd := fun k => assoc0 k [], loop := fun k => assoc0 k [(0, ⟨granaryref05_Same_d0, loopF (granaryref05_Same_b0 N) N⟩)], nil := fun k => assoc0 k [], unr := fun k => assocN k [], blk := fun k => assoc0 k [] })]
noncomputable def granaryref05_Same_C (N : Nat) : Nat → List GS := fun k => tabOf k []
def granaryref05_Same_o : List (Shp × List Nat) := [(⟨[(0, (.av (.one .bool)))], []⟩, [])]
noncomputable def granaryref05_Same_g (N : Nat) : GS := { ins := ⟨[(0, (.av (.one (.rsl (.arr 32 (.int .u8)))))), (1, (.av (.one (.rsl (.arr 32 (.int .u8))))))], []⟩, lend := [.lend (.arr 32 (.int .u8)), .lend (.arr 32 (.int .u8))], outs := granaryref05_Same_o.map fun s => ssOf s.1, its := [.lst (.arr 32 (.int .u8)), .lst (.arr 32 (.int .u8))], ots := [[.bool]], F := granaryref05_Same N }
theorem granaryref05_Same_t (N : Nat) : TabC Try.prog (granaryref05_Same_C N) := tab_ok trivial
theorem granaryref05_Same_i0 : loopsOf granaryref05_Same_c0 = [] := by kernel_rfl
theorem granaryref05_Same_e0 (N : Nat) (next) (x) : granaryref05_Same_b0 N next x = loopStep Γ (granaryref05_Same_C N) (granaryref05_Same_J N) 0 26 granaryref05_Same_d0 granaryref05_Same_c0 next x := by kernel_rfl
theorem granaryref05_Same_k0 (N : Nat) : LoopOK Try.prog 26 granaryref05_Same_c0 ⟨granaryref05_Same_d0, loopF (granaryref05_Same_b0 N) N⟩ := loop_ok tabOK (granaryref05_Same_t N) mixedOK (J := granaryref05_Same_J N) (cx := 0) (body := granaryref05_Same_c0) (nt := 26) (l := granaryref05_Same_d0) (b := granaryref05_Same_b0 N) (jok_from granaryref05_Same_i0 ⟨trivial, trivial⟩) (granaryref05_Same_e0 N) N
theorem granaryref05_Same_i : loopsOf granaryref05_Same_c = [(0, granaryref05_Same_c0)] := by kernel_rfl
theorem granaryref05_Same_e (N : Nat) (x) : (granaryref05_Same_g N).F x = fnStep Γ (granaryref05_Same_C N) (granaryref05_Same_J N) 26 Try.f31.results.toList (granaryref05_Same_g N) granaryref05_Same_o granaryref05_Same_c x := by kernel_rfl
theorem granaryref05_Same_y : Try.f31.body = some granaryref05_Same_c := by kernel_rfl
theorem granaryref05_Same_n : (Try.f31.name == "runtime.NumGoroutine") = false := by kernel_rfl
theorem granaryref05_Same_ok (N : Nat) : FnDoes Try.prog 31 (granaryref05_Same_g N) := fn_ok tabOK (granaryref05_Same_t N) mixedOK (J := granaryref05_Same_J N) (body := granaryref05_Same_c) Try.func31 granaryref05_Same_y granaryref05_Same_n Try.ntmps31 (jok_from granaryref05_Same_i ⟨⟨.inr ⟨_, rfl, granaryref05_Same_k0 N⟩, trivial⟩, trivial⟩) rfl rfl (le_of_ble rfl) (granaryref05_Same_e N)
noncomputable def granaryref05_Same_v1_c : Code := codeOf Try.f31.body
noncomputable def granaryref05_Same_v1_c0 : Code := codeOf (getLoop 0 granaryref05_Same_v1_c)
def granaryref05_Same_v1_d0 : LD := { ins := ⟨[(0, (.av (.one (.rsl (.arr 32 (.int .u8)))))), (1, (.av (.one (.rsl (.arr 32 (.int .u8)))))), (5, (.av (.one (.int .i64))))], []⟩, mov := [], wr := [], outs := [(.ret, ⟨[(4, (.av (.one (.const (.bool false)))))], []⟩), (.exit 0, ⟨[], []⟩)], its := [.lst (.arr 32 (.int .u8)), .lst (.arr 32 (.int .u8)), .int], ots := [[], []] }
noncomputable def granaryref05_Same_v1_J (N : Nat) : Nat → Hint := fun cx => hintOf cx [(0, { reg := fun k => assoc0 k [], cnd := fun k => assoc0 k [], loop := fun k => assoc0 k [(0, ⟨granaryref05_Same_v1_d0, loopF (granaryref05_Same_v1_b0 N) N⟩)], nil := fun k => assoc0 k [], unr := fun k => assocN k [], blk := fun k => assoc0 k [] })]
noncomputable def granaryref05_Same_v1_C (N : Nat) : Nat → List GS := fun k => tabOf k []
def granaryref05_Same_v1_o : List (Shp × List Nat) := [(⟨[(0, (.av (.one .bool)))], []⟩, [])]
noncomputable def granaryref05_Same_v1_g (N : Nat) : GS := { ins := ⟨[(0, (.av (.one (.rsl (.arr 32 (.int .u8)))))), (1, (.av (.one (.rsl (.arr 32 (.int .u8))))))], []⟩, lend := [.lend (.arr 32 (.int .u8)), .keep], outs := granaryref05_Same_v1_o.map fun s => ssOf s.1, its := [.lst (.arr 32 (.int .u8)), .lst (.arr 32 (.int .u8))], ots := [[.bool]], F := granaryref05_Same_v1 N }
theorem granaryref05_Same_v1_t (N : Nat) : TabC Try.prog (granaryref05_Same_v1_C N) := tab_ok trivial
theorem granaryref05_Same_v1_i0 : loopsOf granaryref05_Same_v1_c0 = [] := by kernel_rfl
theorem granaryref05_Same_v1_e0 (N : Nat) (next) (x) : granaryref05_Same_v1_b0 N next x = loopStep Γ (granaryref05_Same_v1_C N) (granaryref05_Same_v1_J N) 0 26 granaryref05_Same_v1_d0 granaryref05_Same_v1_c0 next x := by kernel_rfl
theorem granaryref05_Same_v1_k0 (N : Nat) : LoopOK Try.prog 26 granaryref05_Same_v1_c0 ⟨granaryref05_Same_v1_d0, loopF (granaryref05_Same_v1_b0 N) N⟩ := loop_ok tabOK (granaryref05_Same_v1_t N) mixedOK (J := granaryref05_Same_v1_J N) (cx := 0) (body := granaryref05_Same_v1_c0) (nt := 26) (l := granaryref05_Same_v1_d0) (b := granaryref05_Same_v1_b0 N) (jok_from granaryref05_Same_v1_i0 ⟨trivial, trivial⟩) (granaryref05_Same_v1_e0 N) N
theorem granaryref05_Same_v1_i : loopsOf granaryref05_Same_v1_c = [(0, granaryref05_Same_v1_c0)] := by kernel_rfl
theorem granaryref05_Same_v1_e (N : Nat) (x) : (granaryref05_Same_v1_g N).F x = fnStep Γ (granaryref05_Same_v1_C N) (granaryref05_Same_v1_J N) 26 Try.f31.results.toList (granaryref05_Same_v1_g N) granaryref05_Same_v1_o granaryref05_Same_v1_c x := by kernel_rfl
theorem granaryref05_Same_v1_y : Try.f31.body = some granaryref05_Same_v1_c := by kernel_rfl
theorem granaryref05_Same_v1_n : (Try.f31.name == "runtime.NumGoroutine") = false := by kernel_rfl
theorem granaryref05_Same_v1_ok (N : Nat) : FnDoes Try.prog 31 (granaryref05_Same_v1_g N) := fn_ok tabOK (granaryref05_Same_v1_t N) mixedOK (J := granaryref05_Same_v1_J N) (body := granaryref05_Same_v1_c) Try.func31 granaryref05_Same_v1_y granaryref05_Same_v1_n Try.ntmps31 (jok_from granaryref05_Same_v1_i ⟨⟨.inr ⟨_, rfl, granaryref05_Same_v1_k0 N⟩, trivial⟩, trivial⟩) rfl rfl (le_of_ble rfl) (granaryref05_Same_v1_e N)
noncomputable def sha_Hash_Save_v1_c : Code := codeOf Try.f24.body
noncomputable def sha_Hash_Save_v1_J (N : Nat) : Nat → Hint := fun cx => hintOf cx []
noncomputable def sha_Hash_Save_v1_C (N : Nat) : Nat → List GS := fun k => tabOf k [(43, [sha_words_g N]), (42, [octet_Put_v2_g N])]
def sha_Hash_Save_v1_o : List (Shp × List Nat) := [(⟨[(0, (.av (.one (.const (.slw 4 1)))))], [(.sh (.arr (.int .u32) (some 8)), true), (.sh (.one (.int .u64)), true), (.sh (.one (.const (.slw 3 1))), false), (.sh (.arr (.int .u8) none), false), (.sh (.arr (.int .u8) none), false)]⟩, [])]
noncomputable def sha_Hash_Save_v1_g (N : Nat) : GS := { ins := ⟨[(0, (.av (.one (.const (.ptr ⟨0, 0, 0, 0⟩)))))], [(some (.arr (.int .u32) (some 8)), true), (some (.one (.int .u64)), true), (some (.one (.const (.slw 3 1))), false), (some (.arr (.int .u8) none), false)]⟩, lend := [.keep], outs := sha_Hash_Save_v1_o.map fun s => ssOf s.1, its := [.lst (.int .u32), .int, .lst (.int .u8)], ots := [[.lst (.int .u32), .int, .lst (.int .u8), .lst (.int .u8)]], F := sha_Hash_Save_v1 N }
noncomputable def sha_Hash_Save_v1_CA (N : Nat) (f0 : (List Int) → Option ((List Int))) (f1 : Int × Int × (List Int) → Option ((List Int))) : Nat → List GS := fun k => tabOf k [(43, [{ sha_words_g N with F := f0 }]), (42, [{ octet_Put_v2_g N with F := f1 }])]
theorem sha_Hash_Save_v1_CE (N : Nat) : sha_Hash_Save_v1_CA N (sha_words N) (octet_Put_v2 N) = sha_Hash_Save_v1_C N := by kernel_rfl
theorem sha_Hash_Save_v1_t (N : Nat) : TabC Try.prog (sha_Hash_Save_v1_C N) := tab_ok ⟨⟨sha_words_ok N, trivial⟩, ⟨octet_Put_v2_ok N, trivial⟩, trivial⟩
theorem sha_Hash_Save_v1_i : loopsOf sha_Hash_Save_v1_c = [] := by kernel_rfl
noncomputable def sha_Hash_Save_v1_a (N : Nat) (f0 : (List Int) → Option ((List Int))) (f1 : Int × Int × (List Int) → Option ((List Int))) (x : (List Int) × Int × (List Int)) : Option ((List Int) × Int × (List Int) × (List Int)) :=
  (Option.bind (f0 x.1) fun r1 =>
  (Option.bind (f1 (x.2.1, (8 : Int), r1)) fun r2 =>
  (cond (fits 1 ((List.length r2) + (List.length x.2.2)))
  ((some (x.1, x.2.1, x.2.2, (r2 ++ x.2.2))))
  none)))
theorem sha_Hash_Save_v1_f (N : Nat) (f0 : (List Int) → Option ((List Int))) (f1 : Int × Int × (List Int) → Option ((List Int))) (x) : sha_Hash_Save_v1_a N f0 f1 x = fnStep Γ (sha_Hash_Save_v1_CA N f0 f1) (sha_Hash_Save_v1_J N) 20 Try.f24.results.toList (sha_Hash_Save_v1_g N) sha_Hash_Save_v1_o sha_Hash_Save_v1_c x := by kernel_rfl
theorem sha_Hash_Save_v1_e (N : Nat) (x) : (sha_Hash_Save_v1_g N).F x = fnStep Γ (sha_Hash_Save_v1_C N) (sha_Hash_Save_v1_J N) 20 Try.f24.results.toList (sha_Hash_Save_v1_g N) sha_Hash_Save_v1_o sha_Hash_Save_v1_c x := by
  rw [← sha_Hash_Save_v1_CE N]
  exact Eq.trans (by kernel_rfl) (sha_Hash_Save_v1_f N (sha_words N) (octet_Put_v2 N) x)
theorem sha_Hash_Save_v1_y : Try.f24.body = some sha_Hash_Save_v1_c := by kernel_rfl
theorem sha_Hash_Save_v1_n : (Try.f24.name == "runtime.NumGoroutine") = false := by kernel_rfl
theorem sha_Hash_Save_v1_ok (N : Nat) : FnDoes Try.prog 24 (sha_Hash_Save_v1_g N) := fn_ok tabOK (sha_Hash_Save_v1_t N) mixedOK (J := sha_Hash_Save_v1_J N) (body := sha_Hash_Save_v1_c) Try.func24 sha_Hash_Save_v1_y sha_Hash_Save_v1_n Try.ntmps24 (jok_from sha_Hash_Save_v1_i trivial) rfl rfl (le_of_ble rfl) (sha_Hash_Save_v1_e N)
noncomputable def octet_Get_c : Code := codeOf Try.f52.body
noncomputable def octet_Get_c0 : Code := codeOf (getLoop 0 octet_Get_c)
def octet_Get_d0 : LD := { ins := ⟨[(3, (.av (.one (.int .u64)))), (6, (.av (.one (.rsl (.int .u8))))), (7, (.av (.one (.int .i64)))), (8, (.av (.one (.int .i64))))], []⟩, mov := [], wr := [], outs := [(.exit 0, ⟨[(3, (.av (.one (.int .u64))))], []⟩)], its := [.int, .lst (.int .u8), .int, .int], ots := [[.int]] }
noncomputable def octet_Get_J (N : Nat) : Nat → Hint := fun cx => hintOf cx [(0, { reg := fun k => assoc0 k [], cnd := fun k => assoc0 k [], loop := fun k => assoc0 k [(0, ⟨octet_Get_d0, loopF (octet_Get_b0 N) N⟩)], nil := fun k => assoc0 k [], unr := fun k => assocN k [], blk := fun k => assoc0 k [] })]
noncomputable def octet_Get_C (N : Nat) : Nat → List GS := fun k => tabOf k []
def octet_Get_o : List (Shp × List Nat) := [(⟨[(0, (.av (.one (.int .u64))))], []⟩, [])]
noncomputable def octet_Get_g (N : Nat) : GS := { ins := ⟨[(0, (.av (.one (.rsl (.int .u8)))))], []⟩, lend := [.keep], outs := octet_Get_o.map fun s => ssOf s.1, its := [.lst (.int .u8)], ots := [[.int]], F := octet_Get N }
theorem octet_Get_t (N : Nat) : TabC Try.prog (octet_Get_C N) := tab_ok trivial
theorem octet_Get_i0 : loopsOf octet_Get_c0 = [] := by kernel_rfl
theorem octet_Get_e0 (N : Nat) (next) (x) : octet_Get_b0 N next x = loopStep Γ (octet_Get_C N) (octet_Get_J N) 0 19 octet_Get_d0 octet_Get_c0 next x := by kernel_rfl
theorem octet_Get_k0 (N : Nat) : LoopOK Try.prog 19 octet_Get_c0 ⟨octet_Get_d0, loopF (octet_Get_b0 N) N⟩ := loop_ok tabOK (octet_Get_t N) mixedOK (J := octet_Get_J N) (cx := 0) (body := octet_Get_c0) (nt := 19) (l := octet_Get_d0) (b := octet_Get_b0 N) (jok_from octet_Get_i0 ⟨trivial, trivial⟩) (octet_Get_e0 N) N
theorem octet_Get_i : loopsOf octet_Get_c = [(0, octet_Get_c0)] := by kernel_rfl
theorem octet_Get_e (N : Nat) (x) : (octet_Get_g N).F x = fnStep Γ (octet_Get_C N) (octet_Get_J N) 19 Try.f52.results.toList (octet_Get_g N) octet_Get_o octet_Get_c x := by kernel_rfl
theorem octet_Get_y : Try.f52.body = some octet_Get_c := by kernel_rfl
theorem octet_Get_n : (Try.f52.name == "runtime.NumGoroutine") = false := by kernel_rfl
theorem octet_Get_ok (N : Nat) : FnDoes Try.prog 52 (octet_Get_g N) := fn_ok tabOK (octet_Get_t N) mixedOK (J := octet_Get_J N) (body := octet_Get_c) Try.func52 octet_Get_y octet_Get_n Try.ntmps52 (jok_from octet_Get_i ⟨⟨.inr ⟨_, rfl, octet_Get_k0 N⟩, trivial⟩, trivial⟩) rfl rfl (le_of_ble rfl) (octet_Get_e N)
end Go.Rf.W
