/-
  The printed functions are what the program does.
-/
import Derived.Test.YtngehbaakpkoiaaRpcK1
set_option linter.unusedVariables false
set_option maxRecDepth 100000
namespace Go.Rf.W
open Go Go.Rf Go.Proofs
noncomputable def granaryref21_GetReply_c : Code := codeOf Try.f41.body
noncomputable def granaryref21_GetReply_c0 : Code := codeOf (getLoop 0 granaryref21_GetReply_c)
noncomputable def granaryref21_GetReply_c2 : Code := codeOf (getLoop 2 granaryref21_GetReply_c)
def granaryref21_GetReply_d0 : LD := { ins := ⟨[(0, (.av (.one (.rsl (.int .u8))))), (2, (.av (.one (.const (.ptr ⟨0, 0, 0, 0⟩))))), (4, (.av (.one (.const (.ptr ⟨6, 0, 0, 0⟩))))), (5, (.av (.one (.const (.ptr ⟨7, 0, 0, 0⟩))))), (6, (.av (.one (.int .i64))))], [(.keep, false), (.keep, false), (.keep, false), (.keep, false), (.keep, false), (.keep, false), (.sh (.arr (.int .u32) (some 6)), false), (.sh (.one (.const (.slw 11 1))), true), (.sh (.one (.int .i64)), true), (.sh (.one (.int .i64)), true), (.sh (.one (.int .i64)), false), (.sh (.arr (.int .u8) none), false)]⟩, mov := [], wr := [6, 7, 8, 9, 10, 11], outs := [(.exit 0, ⟨[], [(.keep, false), (.keep, false), (.keep, false), (.keep, false), (.keep, false), (.keep, false), (.sh (.arr (.int .u32) (some 6)), false), (.sh (.one (.const (.slw 11 1))), true), (.sh (.one (.int .i64)), true), (.sh (.one (.int .i64)), true), (.sh (.one (.int .i64)), false), (.sh (.arr (.int .u8) none), false)]⟩)], its := [.lst (.int .u8), .int, .lst (.int .u32), .int, .int, .int, .lst (.int .u8)], ots := [[.lst (.int .u32), .int, .int, .int, .lst (.int .u8)]] }
def granaryref21_GetReply_d2 : LD := { ins := ⟨[(0, (.av (.one (.rsl (.int .u8))))), (2, (.av (.one (.const (.ptr ⟨0, 0, 0, 0⟩))))), (4, (.av (.one (.const (.ptr ⟨6, 0, 0, 0⟩))))), (5, (.av (.one (.const (.ptr ⟨7, 0, 0, 0⟩))))), (7, (.av (.one (.int .i64))))], [(.sh (.one (.const (.int .u32 (0 : Int)))), true), (.sh (.one (.const (.int .i64 (0 : Int)))), true), (.sh (.one (.const (.int .u32 (0 : Int)))), true), (.sh (.one (.const (.int .u32 (0 : Int)))), true), (.sh (.one (.const (.int .u32 (0 : Int)))), true), (.sh (.one (.const .nils)), false), (.sh (.arr (.int .u32) (some 6)), false), (.sh (.one (.const (.slw 11 1))), true), (.sh (.one (.int .i64)), true), (.sh (.one (.int .i64)), true), (.sh (.one (.int .i64)), false), (.sh (.arr (.int .u8) none), false)]⟩, mov := [], wr := [0, 1, 2, 3, 4, 5, 6, 7, 8, 9, 10, 11], outs := [(.ret, ⟨[(3, (.av (.one (.const (.int .i64 (0 : Int))))))], [(.sh (.one (.int .u32)), true), (.sh (.one (.int .i64)), true), (.sh (.one (.int .u32)), true), (.sh (.one (.int .u32)), true), (.sh (.one (.int .u32)), true), (.sh (.one (.const (.slw 12 1))), false), (.sh (.arr (.int .u32) (some 6)), false), (.sh (.one (.const (.slw 11 1))), true), (.sh (.one (.int .i64)), true), (.sh (.one (.int .i64)), true), (.sh (.one (.int .i64)), false), (.sh (.arr (.int .u8) none), false), (.sh (.arr (.int .u8) none), false)]⟩), (.exit 2, ⟨[], [(.sh (.one (.const (.int .u32 (0 : Int)))), true), (.sh (.one (.const (.int .i64 (0 : Int)))), true), (.sh (.one (.const (.int .u32 (0 : Int)))), true), (.sh (.one (.const (.int .u32 (0 : Int)))), true), (.sh (.one (.const (.int .u32 (0 : Int)))), true), (.sh (.one (.const .nils)), false), (.sh (.arr (.int .u32) (some 6)), false), (.sh (.one (.const (.slw 11 1))), true), (.sh (.one (.int .i64)), true), (.sh (.one (.int .i64)), true), (.sh (.one (.int .i64)), false), (.sh (.arr (.int .u8) none), false)]⟩)], its := [.lst (.int .u8), .int, .lst (.int .u32), .int, .int, .int, .lst (.int .u8)], ots := [[.int, .int, .int, .int, .int, .lst (.int .u32), .int, .int, .int, .lst (.int .u8), .lst (.int .u8)], [.lst (.int .u32), .int, .int, .int, .lst (.int .u8)]] }
noncomputable def granaryref21_GetReply_J (N : Nat) : Nat → Hint := fun cx => hintOf cx [(0, { reg := fun k => assoc0 k [(25, ⟨⟨[(77, (.av (.one .bool)))], [(.keep, true), (.keep, true), (.keep, true), (.keep, true), (.keep, true), (.keep, false), (.keep, false), (.keep, true), (.keep, true), (.keep, true), (.keep, false), (.keep, false), (.keep, true), (.keep, true), (.keep, true), (.keep, true), (.keep, true), (.keep, false), (.keep, false), (.keep, false)]⟩, [], [], [.bool]⟩)], cnd := fun k => assoc0 k [(34, ⟨[], [17], [(.normal, ⟨[], [(.keep, true), (.keep, true), (.keep, true), (.keep, true), (.keep, true), (.keep, false), (.keep, false), (.keep, true), (.keep, true), (.keep, true), (.keep, false), (.keep, false), (.keep, true), (.keep, true), (.keep, true), (.keep, true), (.keep, true), (.sh (.one (.const (.slw 18 1))), false), (.sh (.arr (.int .u8) none), false)]⟩)], [[.lst (.int .u8)]]⟩), (44, ⟨[], [7, 8, 9, 10, 11, 14, 15], [(.normal, ⟨[], [(.keep, true), (.keep, true), (.keep, true), (.keep, true), (.keep, true), (.keep, false), (.keep, false), (.sh (.one (.const (.slw 11 1))), true), (.sh (.one (.int .i64)), true), (.sh (.one (.int .i64)), true), (.sh (.one (.int .i64)), false), (.sh (.arr (.int .u8) none), false), (.keep, true), (.keep, true), (.sh (.one (.int .u32)), true), (.sh (.one (.int .u32)), true), (.keep, true), (.keep, false)]⟩)], [[.int, .int, .int, .lst (.int .u8), .int, .int]]⟩), (59, ⟨[], [16], [(.normal, ⟨[], [(.keep, true), (.keep, true), (.keep, true), (.keep, true), (.keep, true), (.keep, false), (.keep, false), (.keep, true), (.keep, true), (.keep, true), (.keep, false), (.keep, false), (.keep, true), (.keep, true), (.keep, true), (.keep, true), (.sh (.one (.int .u32)), true), (.keep, false)]⟩)], [[.int]]⟩), (51, ⟨[], [14, 15, 16], [(.normal, ⟨[], [(.keep, true), (.keep, true), (.keep, true), (.keep, true), (.keep, true), (.keep, false), (.keep, false), (.keep, true), (.keep, true), (.keep, true), (.keep, false), (.keep, false), (.keep, true), (.keep, true), (.sh (.one (.int .u32)), true), (.sh (.one (.int .u32)), true), (.sh (.one (.int .u32)), true), (.keep, false)]⟩)], [[.int, .int, .int]]⟩), (40, ⟨[], [7, 8, 9, 10, 11, 14, 15, 16], [(.normal, ⟨[], [(.keep, true), (.keep, true), (.keep, true), (.keep, true), (.keep, true), (.keep, false), (.keep, false), (.sh (.one (.const (.slw 11 1))), true), (.sh (.one (.int .i64)), true), (.sh (.one (.int .i64)), true), (.sh (.one (.int .i64)), false), (.sh (.arr (.int .u8) none), false), (.keep, true), (.keep, true), (.sh (.one (.int .u32)), true), (.sh (.one (.int .u32)), true), (.sh (.one (.int .u32)), true), (.keep, false)]⟩)], [[.int, .int, .int, .lst (.int .u8), .int, .int, .int]]⟩), (30, ⟨[], [7, 8, 9, 10, 11, 14, 15, 16, 17], [(.normal, ⟨[], [(.keep, true), (.keep, true), (.keep, true), (.keep, true), (.keep, true), (.keep, false), (.keep, false), (.sh (.one (.const (.slw 11 1))), true), (.sh (.one (.int .i64)), true), (.sh (.one (.int .i64)), true), (.sh (.one (.int .i64)), false), (.sh (.arr (.int .u8) none), false), (.keep, true), (.keep, true), (.sh (.one (.int .u32)), true), (.sh (.one (.int .u32)), true), (.sh (.one (.int .u32)), true), (.sh (.one (.const (.slw 18 1))), false), (.sh (.arr (.int .u8) none), false)]⟩)], [[.int, .int, .int, .lst (.int .u8), .int, .int, .int, .lst (.int .u8)]]⟩)], loop := fun k => assoc0 k [(0, ⟨granaryref21_GetReply_d0, loopF (granaryref21_GetReply_b0 N) N⟩), (2, ⟨granaryref21_GetReply_d2, loopF (granaryref21_GetReply_b2 N) N⟩)], nil := fun k => assoc0 k [], unr := fun k => assocN k [], blk := fun k => assoc0 k [] })]
noncomputable def granaryref21_GetReply_C (N : Nat) : Nat → List GS := fun k => tabOf k [(50, [granaryref01_NewReader_g N]), (51, [granaryref01_Reader_Uint_g N]), (39, [granaryref21_PutReply_v1_g N])]
def granaryref21_GetReply_o : List (Shp × List Nat) := [(⟨[(0, (.tup [(.agg [(.one (.int .u32)), (.one (.int .i64)), (.one (.int .u32)), (.one (.int .u32)), (.one (.int .u32)), (.one (.const (.slw 0 1)))]), (.one (.int .i64))]))], [(.sh (.arr (.int .u8) none), false)]⟩, [])]
noncomputable def granaryref21_GetReply_g (N : Nat) : GS := { ins := ⟨[(0, (.av (.one (.rsl (.int .u8)))))], []⟩, lend := [.keep], outs := granaryref21_GetReply_o.map fun s => ssOf s.1, its := [.lst (.int .u8)], ots := [[.int, .int, .int, .int, .int, .int, .lst (.int .u8)]], F := granaryref21_GetReply N }
noncomputable def granaryref21_GetReply_CA (N : Nat) (f0 : (List Int) → Option ((List Int))) (f1 : Int × Int × Int × (List Int) → Option (Int × Int × Int × Int × (List Int))) (f2 : Int × Int × Int × Int × Int × (List Int) → Option (Int × (List Int))) : Nat → List GS := fun k => tabOf k [(50, [{ granaryref01_NewReader_g N with F := f0 }]), (51, [{ granaryref01_Reader_Uint_g N with F := f1 }]), (39, [{ granaryref21_PutReply_v1_g N with F := f2 }])]
theorem granaryref21_GetReply_CE (N : Nat) : granaryref21_GetReply_CA N (granaryref01_NewReader) (granaryref01_Reader_Uint N) (granaryref21_PutReply_v1) = granaryref21_GetReply_C N := by kernel_rfl
theorem granaryref21_GetReply_t (N : Nat) : TabC Try.prog (granaryref21_GetReply_C N) := tab_ok ⟨⟨granaryref01_NewReader_ok N, trivial⟩, ⟨granaryref01_Reader_Uint_ok N, trivial⟩, ⟨granaryref21_PutReply_v1_ok N, trivial⟩, trivial⟩
theorem granaryref21_GetReply_i0 : loopsOf granaryref21_GetReply_c0 = [] := by kernel_rfl
noncomputable def granaryref21_GetReply_a0 (N : Nat) (f0 : (List Int) → Option ((List Int))) (f1 : Int × Int × Int × (List Int) → Option (Int × Int × Int × Int × (List Int))) (f2 : Int × Int × Int × Int × Int × (List Int) → Option (Int × (List Int))) (next : (List Int) × Int × (List Int) × Int × Int × Int × (List Int) → Option (((List Int) × Int × Int × Int × (List Int)))) (x : (List Int) × Int × (List Int) × Int × Int × Int × (List Int)) : Option (((List Int) × Int × Int × Int × (List Int))) :=
  (cond (decide (x.2.1 < (6 : Int)))
  (Option.bind (f1 (x.2.2.2.1, x.2.2.2.2.1, x.2.2.2.2.2.1, x.2.2.2.2.2.2)) fun r2 =>
  (cond ((decide ((0 : Int) ≤ x.2.1)) && (decide (x.2.1 < (6 : Int))))
  ((let v3 : Nat := (Int.toNat x.2.1)
  (cond (decide (v3 < (List.length x.2.2.1)))
  ((next (x.1, (wrapF .i64 (x.2.1 + (1 : Int))), (List.set x.2.2.1 v3 r2.1), r2.2.1, r2.2.2.1, r2.2.2.2.1, r2.2.2.2.2)))
  none)))
  none))
  (some (x.2.2.1, x.2.2.2.1, x.2.2.2.2.1, x.2.2.2.2.2.1, x.2.2.2.2.2.2)))
theorem granaryref21_GetReply_f0 (N : Nat) (f0 : (List Int) → Option ((List Int))) (f1 : Int × Int × Int × (List Int) → Option (Int × Int × Int × Int × (List Int))) (f2 : Int × Int × Int × Int × Int × (List Int) → Option (Int × (List Int))) (next) (x) : granaryref21_GetReply_a0 N f0 f1 f2 next x = loopStep Γ (granaryref21_GetReply_CA N f0 f1 f2) (granaryref21_GetReply_J N) 0 80 granaryref21_GetReply_d0 granaryref21_GetReply_c0 next x := by kernel_rfl
theorem granaryref21_GetReply_e0 (N : Nat) (next) (x) : granaryref21_GetReply_b0 N next x = loopStep Γ (granaryref21_GetReply_C N) (granaryref21_GetReply_J N) 0 80 granaryref21_GetReply_d0 granaryref21_GetReply_c0 next x := by
  rw [← granaryref21_GetReply_CE N]
  exact Eq.trans (by kernel_rfl) (granaryref21_GetReply_f0 N (granaryref01_NewReader) (granaryref01_Reader_Uint N) (granaryref21_PutReply_v1) next x)
theorem granaryref21_GetReply_k0 (N : Nat) : LoopOK Try.prog 80 granaryref21_GetReply_c0 ⟨granaryref21_GetReply_d0, loopF (granaryref21_GetReply_b0 N) N⟩ := loop_ok tabOK (granaryref21_GetReply_t N) mixedOK (J := granaryref21_GetReply_J N) (cx := 0) (body := granaryref21_GetReply_c0) (nt := 80) (l := granaryref21_GetReply_d0) (b := granaryref21_GetReply_b0 N) (jok_from granaryref21_GetReply_i0 ⟨trivial, trivial⟩) (granaryref21_GetReply_e0 N) N
theorem granaryref21_GetReply_i2 : loopsOf granaryref21_GetReply_c2 = [] := by kernel_rfl
noncomputable def granaryref21_GetReply_a2 (N : Nat) (f0 : (List Int) → Option ((List Int))) (f1 : Int × Int × Int × (List Int) → Option (Int × Int × Int × Int × (List Int))) (f2 : Int × Int × Int × Int × Int × (List Int) → Option (Int × (List Int))) (next : (List Int) × Int × (List Int) × Int × Int × Int × (List Int) → Option ((Int × Int × Int × Int × Int × (List Int) × Int × Int × Int × (List Int) × (List Int)) ⊕ ((List Int) × Int × Int × Int × (List Int)))) (x : (List Int) × Int × (List Int) × Int × Int × Int × (List Int)) : Option ((Int × Int × Int × Int × Int × (List Int) × Int × Int × Int × (List Int) × (List Int)) ⊕ ((List Int) × Int × Int × Int × (List Int))) :=
  (cond (decide (x.2.1 ≤ (7 : Int)))
  (cond (decide (0 < (List.length x.2.2.1)))
  ((let v2 : Int := (List.getD x.2.2.1 0 (EK.dflt (.int .u32)))
  (Option.bind
  (cond (decide (x.2.1 = (0 : Int)))
  (Option.bind
  (cond (decide ((24 : Int) ≤ (((List.length x.1) : Nat) : Int)))
  (cond ((decide ((24 : Int) ≤ (((List.length x.1) : Nat) : Int))) && (decide ((((List.length x.1) : Nat) : Int) ≤ (((List.length x.1) : Nat) : Int))))
  ((let v7 : List Int := (List.take ((List.length x.1) - 24) (List.drop 24 x.1))
  (cond (fits 1 (List.length v7))
  ((some v7))
  none)))
  none)
  (some ([] : List Int)))
  fun r8 =>
  (some (x.2.2.2.1, x.2.2.2.2.1, x.2.2.2.2.2.1, x.2.2.2.2.2.2, (0 : Int), (0 : Int), (0 : Int), r8)))
  (Option.bind
  (cond (decide (x.2.1 = (2 : Int)))
  (Option.bind
  (cond (decide ((((List.length x.1) : Nat) : Int) = (32 : Int)))
  (Option.bind (f1 (x.2.2.2.1, x.2.2.2.2.1, x.2.2.2.2.2.1, x.2.2.2.2.2.2)) fun r12 =>
  (Option.bind (f1 (r12.2.1, r12.2.2.1, r12.2.2.2.1, r12.2.2.2.2)) fun r13 =>
  (some (r13.2.1, r13.2.2.1, r13.2.2.2.1, r13.2.2.2.2, r12.1, r13.1))))
  (some (x.2.2.2.1, x.2.2.2.2.1, x.2.2.2.2.2.1, x.2.2.2.2.2.2, (0 : Int), (0 : Int))))
  fun r14 =>
  (some (r14.1, r14.2.1, r14.2.2.1, r14.2.2.2.1, r14.2.2.2.2.1, r14.2.2.2.2.2, (0 : Int))))
  (Option.bind
  (cond (decide (x.2.1 = (6 : Int)))
  (cond (decide (4 < (List.length x.2.2.1)))
  ((cond (decide (5 < (List.length x.2.2.1)))
  ((some ((List.getD x.2.2.1 4 (EK.dflt (.int .u32))), (List.getD x.2.2.1 5 (EK.dflt (.int .u32))), (0 : Int))))
  none))
  none)
  (Option.bind
  (cond (decide (x.2.1 = (7 : Int)))
  (cond (decide (4 < (List.length x.2.2.1)))
  ((some (List.getD x.2.2.1 4 (EK.dflt (.int .u32)))))
  none)
  (some (0 : Int)))
  fun r20 =>
  (some ((0 : Int), (0 : Int), r20))))
  fun r21 =>
  (some (x.2.2.2.1, x.2.2.2.2.1, x.2.2.2.2.2.1, x.2.2.2.2.2.2, r21.1, r21.2.1, r21.2.2))))
  fun r22 =>
  (some (r22.1, r22.2.1, r22.2.2.1, r22.2.2.2.1, r22.2.2.2.2.1, r22.2.2.2.2.2.1, r22.2.2.2.2.2.2, ([] : List Int)))))
  fun r23 =>
  (Option.bind (f2 (v2, x.2.1, r23.2.2.2.2.1, r23.2.2.2.2.2.1, r23.2.2.2.2.2.2.1, r23.2.2.2.2.2.2.2)) fun r24 =>
  (Option.bind
  (cond (decide (r24.1 = (0 : Int)))
  (some (decide ((List.map (fun (n : Int) => UInt8.ofNat n.toNat) r24.2) = (List.map (fun (n : Int) => UInt8.ofNat n.toNat) x.1))))
  (some false))
  fun r29 =>
  (cond r29
  (some (.inl (v2, x.2.1, r23.2.2.2.2.1, r23.2.2.2.2.2.1, r23.2.2.2.2.2.2.1, x.2.2.1, r23.1, r23.2.1, r23.2.2.1, r23.2.2.2.1, r23.2.2.2.2.2.2.2)))
  (next (x.1, (wrapF .i64 (x.2.1 + (1 : Int))), x.2.2.1, r23.1, r23.2.1, r23.2.2.1, r23.2.2.2.1))))))))
  none)
  (some (.inr ((x.2.2.1, x.2.2.2.1, x.2.2.2.2.1, x.2.2.2.2.2.1, x.2.2.2.2.2.2)))))
theorem granaryref21_GetReply_f2 (N : Nat) (f0 : (List Int) → Option ((List Int))) (f1 : Int × Int × Int × (List Int) → Option (Int × Int × Int × Int × (List Int))) (f2 : Int × Int × Int × Int × Int × (List Int) → Option (Int × (List Int))) (next) (x) : granaryref21_GetReply_a2 N f0 f1 f2 next x = loopStep Γ (granaryref21_GetReply_CA N f0 f1 f2) (granaryref21_GetReply_J N) 0 80 granaryref21_GetReply_d2 granaryref21_GetReply_c2 next x := by kernel_rfl
theorem granaryref21_GetReply_e2 (N : Nat) (next) (x) : granaryref21_GetReply_b2 N next x = loopStep Γ (granaryref21_GetReply_C N) (granaryref21_GetReply_J N) 0 80 granaryref21_GetReply_d2 granaryref21_GetReply_c2 next x := by
  rw [← granaryref21_GetReply_CE N]
  exact Eq.trans (by kernel_rfl) (granaryref21_GetReply_f2 N (granaryref01_NewReader) (granaryref01_Reader_Uint N) (granaryref21_PutReply_v1) next x)
theorem granaryref21_GetReply_k2 (N : Nat) : LoopOK Try.prog 80 granaryref21_GetReply_c2 ⟨granaryref21_GetReply_d2, loopF (granaryref21_GetReply_b2 N) N⟩ := loop_ok tabOK (granaryref21_GetReply_t N) mixedOK (J := granaryref21_GetReply_J N) (cx := 0) (body := granaryref21_GetReply_c2) (nt := 80) (l := granaryref21_GetReply_d2) (b := granaryref21_GetReply_b2 N) (jok_from granaryref21_GetReply_i2 ⟨trivial, trivial⟩) (granaryref21_GetReply_e2 N) N
theorem granaryref21_GetReply_i : loopsOf granaryref21_GetReply_c = [(0, granaryref21_GetReply_c0), (2, granaryref21_GetReply_c2)] := by kernel_rfl
noncomputable def granaryref21_GetReply_a (N : Nat) (f0 : (List Int) → Option ((List Int))) (f1 : Int × Int × Int × (List Int) → Option (Int × Int × Int × Int × (List Int))) (f2 : Int × Int × Int × Int × Int × (List Int) → Option (Int × (List Int))) (x : (List Int)) : Option (Int × Int × Int × Int × Int × Int × (List Int)) :=
  (Option.bind (f0 x) fun r2 =>
  (Option.bind (granaryref21_GetReply_l0 N (x, (0 : Int), (List.replicate 6 (EK.dflt (.int .u32))), (0 : Int), (0 : Int), (0 : Int), r2)) fun r3 =>
  (Option.bind (granaryref21_GetReply_l2 N (x, (0 : Int), r3.1, r3.2.1, r3.2.2.1, r3.2.2.2.1, r3.2.2.2.2)) fun r4 =>
  (match r4 with
  | .inl y5 =>
  (some (y5.1, y5.2.1, y5.2.2.1, y5.2.2.2.1, y5.2.2.2.2.1, (0 : Int), y5.2.2.2.2.2.2.2.2.2.2))
  | .inr z6 =>
  (some ((0 : Int), (0 : Int), (0 : Int), (0 : Int), (0 : Int), (212 : Int), ([] : List Int)))))))
theorem granaryref21_GetReply_f (N : Nat) (f0 : (List Int) → Option ((List Int))) (f1 : Int × Int × Int × (List Int) → Option (Int × Int × Int × Int × (List Int))) (f2 : Int × Int × Int × Int × Int × (List Int) → Option (Int × (List Int))) (x) : granaryref21_GetReply_a N f0 f1 f2 x = fnStep Γ (granaryref21_GetReply_CA N f0 f1 f2) (granaryref21_GetReply_J N) 80 Try.f41.results.toList (granaryref21_GetReply_g N) granaryref21_GetReply_o granaryref21_GetReply_c x := by kernel_rfl
theorem granaryref21_GetReply_e (N : Nat) (x) : (granaryref21_GetReply_g N).F x = fnStep Γ (granaryref21_GetReply_C N) (granaryref21_GetReply_J N) 80 Try.f41.results.toList (granaryref21_GetReply_g N) granaryref21_GetReply_o granaryref21_GetReply_c x := by
  rw [← granaryref21_GetReply_CE N]
  exact Eq.trans (by kernel_rfl) (granaryref21_GetReply_f N (granaryref01_NewReader) (granaryref01_Reader_Uint N) (granaryref21_PutReply_v1) x)
theorem granaryref21_GetReply_y : Try.f41.body = some granaryref21_GetReply_c := by kernel_rfl
theorem granaryref21_GetReply_n : (Try.f41.name == "runtime.NumGoroutine") = false := by kernel_rfl
theorem granaryref21_GetReply_ok (N : Nat) : FnDoes Try.prog 41 (granaryref21_GetReply_g N) := fn_ok tabOK (granaryref21_GetReply_t N) mixedOK (J := granaryref21_GetReply_J N) (body := granaryref21_GetReply_c) Try.func41 granaryref21_GetReply_y granaryref21_GetReply_n Try.ntmps41 (jok_from granaryref21_GetReply_i ⟨⟨.inr ⟨_, rfl, granaryref21_GetReply_k0 N⟩, .inr ⟨_, rfl, granaryref21_GetReply_k2 N⟩, trivial⟩, trivial⟩) rfl rfl (le_of_ble rfl) (granaryref21_GetReply_e N)
noncomputable def granaryref21_SameReply_c : Code := codeOf Try.f42.body
noncomputable def granaryref21_SameReply_J (N : Nat) : Nat → Hint := fun cx => hintOf cx [(0, { reg := fun k => assoc0 k [(1, ⟨⟨[(4, (.av (.one .bool)))], [(.keep, true), (.keep, true), (.keep, true), (.keep, true), (.keep, true), (.keep, false), (.keep, true), (.keep, true), (.keep, true), (.keep, true), (.keep, true), (.keep, false)]⟩, [], [], [.bool]⟩)], cnd := fun k => assoc0 k [], loop := fun k => assoc0 k [], nil := fun k => assoc0 k [], unr := fun k => assocN k [], blk := fun k => assoc0 k [] })]
noncomputable def granaryref21_SameReply_C (N : Nat) : Nat → List GS := fun k => tabOf k []
def granaryref21_SameReply_o : List (Shp × List Nat) := [(⟨[(0, (.av (.one .bool)))], []⟩, [])]
noncomputable def granaryref21_SameReply_g (N : Nat) : GS := { ins := ⟨[(0, (.av (.agg [(.one (.int .u32)), (.one (.int .i64)), (.one (.int .u32)), (.one (.int .u32)), (.one (.int .u32)), (.one (.rsl (.int .u8)))]))), (1, (.av (.agg [(.one (.int .u32)), (.one (.int .i64)), (.one (.int .u32)), (.one (.int .u32)), (.one (.int .u32)), (.one (.rsl (.int .u8)))])))], []⟩, lend := [.agg [none, none, none, none, none, some (.int .u8)], .agg [none, none, none, none, none, some (.int .u8)]], outs := granaryref21_SameReply_o.map fun s => ssOf s.1, its := [.int, .int, .int, .int, .int, .lst (.int .u8), .int, .int, .int, .int, .int, .lst (.int .u8)], ots := [[.bool]], F := granaryref21_SameReply }
theorem granaryref21_SameReply_t (N : Nat) : TabC Try.prog (granaryref21_SameReply_C N) := tab_ok trivial
theorem granaryref21_SameReply_i : loopsOf granaryref21_SameReply_c = [] := by kernel_rfl
theorem granaryref21_SameReply_e (N : Nat) (x) : (granaryref21_SameReply_g N).F x = fnStep Γ (granaryref21_SameReply_C N) (granaryref21_SameReply_J N) 47 Try.f42.results.toList (granaryref21_SameReply_g N) granaryref21_SameReply_o granaryref21_SameReply_c x := by kernel_rfl
theorem granaryref21_SameReply_y : Try.f42.body = some granaryref21_SameReply_c := by kernel_rfl
theorem granaryref21_SameReply_n : (Try.f42.name == "runtime.NumGoroutine") = false := by kernel_rfl
theorem granaryref21_SameReply_ok (N : Nat) : FnDoes Try.prog 42 (granaryref21_SameReply_g N) := fn_ok tabOK (granaryref21_SameReply_t N) mixedOK (J := granaryref21_SameReply_J N) (body := granaryref21_SameReply_c) Try.func42 granaryref21_SameReply_y granaryref21_SameReply_n Try.ntmps42 (jok_from granaryref21_SameReply_i ⟨trivial, trivial⟩) rfl rfl (le_of_ble rfl) (granaryref21_SameReply_e N)
end Go.Rf.W
