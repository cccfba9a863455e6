/-
  The law's printed function is what the program does.
-/
import Derived.Test.YtokfelhleojnjaaShaK2
import Derived.Test.YtokfelhleojnjaaShaFShaPieces
set_option linter.unusedVariables false
set_option maxRecDepth 100000
namespace Go.Rf.W
open Go Go.Rf Go.Proofs
noncomputable def granarylaw05_ShaPieces_c : Code := codeOf Try.f8.body
noncomputable def granarylaw05_ShaPieces_c0 : Code := codeOf (getLoop 0 granarylaw05_ShaPieces_c)
def granarylaw05_ShaPieces_d0 : LD := { ins := ⟨[(0, (.av (.one (.rsl (.int .u8))))), (1, (.av (.one (.rsl (.int .i64))))), (2, (.av (.one (.rsl (.arr 32 (.int .u8)))))), (3, (.av (.one (.int .i64)))), (9, (.av (.one (.const (.ptr ⟨0, 0, 0, 0⟩))))), (10, (.av (.one (.int .i64)))), (11, (.av (.one (.int .u32)))), (12, (.av (.one (.int .i64))))], [(.sh (.arr (.int .u32) (some 8)), true), (.sh (.one (.int .u64)), true), (.sh (.one (.const (.slw 3 1))), false), (.sh (.arr (.int .u8) none), false)]⟩, mov := [0, 1, 2, 3], wr := [], outs := [(.ret, ⟨[(8, (.av (.one (.const (.bool false)))))], [(.dead, false), (.dead, false), (.dead, false), (.dead, false)]⟩), (.exit 0, ⟨[(9, (.av (.one (.const (.ptr ⟨4, 0, 0, 0⟩))))), (10, (.av (.one (.int .i64)))), (11, (.av (.one (.int .u32))))], [(.dead, false), (.dead, false), (.dead, false), (.dead, false), (.sh (.arr (.int .u32) (some 8)), true), (.sh (.one (.int .u64)), true), (.sh (.one (.const (.slw 7 1))), false), (.sh (.arr (.int .u8) none), false)]⟩)], its := [.lst (.int .u8), .lst (.int .i64), .lst (.arr 32 (.int .u8)), .int, .int, .int, .int, .lst (.int .u32), .int, .lst (.int .u8)], ots := [[], [.int, .int, .lst (.int .u32), .int, .lst (.int .u8)]] }
noncomputable def granarylaw05_ShaPieces_J (N : Nat) : Nat → Hint := fun cx => hintOf cx [(0, { reg := fun k => assoc0 k [(1, ⟨⟨[(31, (.av (.one .bool)))], []⟩, [], [], [.bool]⟩), (11, ⟨⟨[(57, (.av (.one .bool)))], [(.keep, true), (.keep, true), (.keep, false), (.keep, false)]⟩, [], [], [.bool]⟩), (20, ⟨⟨[(136, (.av (.one .bool)))], [(.dead, true), (.dead, true), (.dead, false), (.dead, false), (.sh (.arr (.int .u32) (some 8)), true), (.sh (.one (.int .u64)), true), (.sh (.one (.const (.slw 8 1))), false), (.dead, false), (.sh (.arr (.int .u8) none), false)]⟩, [], [4, 5, 6, 8], [.bool, .lst (.int .u32), .int, .lst (.int .u8)]⟩), (22, ⟨⟨[(144, (.av (.one .bool)))], [(.dead, true), (.dead, true), (.dead, false), (.dead, false), (.keep, true), (.keep, true), (.keep, false), (.dead, false), (.keep, false)]⟩, [], [], [.bool]⟩), (26, ⟨⟨[(8, (.av (.one .bool)))], [(.dead, true), (.dead, true), (.dead, false), (.dead, false), (.keep, true), (.keep, true), (.keep, false), (.dead, false), (.keep, false), (.keep, false), (.keep, false)]⟩, [], [], [.bool]⟩)], cnd := fun k => assoc0 k [], loop := fun k => assoc0 k [(0, ⟨granarylaw05_ShaPieces_d0, loopF (granarylaw05_ShaPieces_b0 N) N⟩)], nil := fun k => assoc0 k [], unr := fun k => assocN k [], blk := fun k => assoc0 k [(1, ⟨[0, 1, 2, 3], [], [(.normal, ⟨[(9, (.av (.one (.const (.ptr ⟨4, 0, 0, 0⟩))))), (10, (.av (.one (.int .i64)))), (11, (.av (.one (.int .u32))))], [(.dead, true), (.dead, true), (.dead, false), (.dead, false), (.sh (.arr (.int .u32) (some 8)), true), (.sh (.one (.int .u64)), true), (.sh (.one (.const (.slw 7 1))), false), (.sh (.arr (.int .u8) none), false)]⟩), (.ret, ⟨[(8, (.av (.one (.const (.bool false)))))], [(.dead, true), (.dead, true), (.dead, false), (.dead, false)]⟩)], [[.int, .int, .lst (.int .u32), .int, .lst (.int .u8)], []]⟩)] })]
noncomputable def granarylaw05_ShaPieces_C (N : Nat) : Nat → List GS := fun k => tabOf k [(9, [granarylaw05_live_g N]), (32, [sha_New_g N]), (21, [sha_Hash_Write_g N, sha_Hash_Write_v4_g N]), (14, [sha_More_g N]), (24, [sha_Hash_Save_v1_g N]), (33, [sha_Load_g N]), (20, [granarylaw05_num_g N]), (23, [sha_Hash_Sum_g N]), (10, [sha_Sum_v1_g N]), (12, [sha_Crc_v1_g N]), (22, [sha_Hash_Len_v1_g N]), (25, [sha_Path_v1_g N]), (27, [sha_Climb_v1_g N]), (29, [sha_Root_v1_g N])]
def granarylaw05_ShaPieces_o : List (Shp × List Nat) := [(⟨[(0, (.av (.one .bool)))], []⟩, [])]
noncomputable def granarylaw05_ShaPieces_g (N : Nat) : GS := { ins := ⟨[(0, (.av (.one (.rsl (.int .u8))))), (1, (.av (.one (.rsl (.int .i64))))), (2, (.av (.one (.rsl (.arr 32 (.int .u8)))))), (3, (.av (.one (.int .i64))))], []⟩, lend := [.keep, .keep, .keep, .keep], outs := granarylaw05_ShaPieces_o.map fun s => ssOf s.1, its := [.lst (.int .u8), .lst (.int .i64), .lst (.arr 32 (.int .u8)), .int], ots := [[.bool]], F := granarylaw05_ShaPieces N }
noncomputable def granarylaw05_ShaPieces_CA (N : Nat) (f0 : Unit → Option (Bool)) (f1 : Unit → Option ((List Int))) (f2 : (List Int) × (List Int) × Int → Option ((List Int) × Int × (List Int))) (f3 : (List Int) × (List Int) × Int × (List Int) → Option ((List Int) × Int × (List Int))) (f4 : Int × (List Int) → Option (Int)) (f5 : (List Int) × Int × (List Int) → Option ((List Int) × Int × (List Int) × (List Int))) (f6 : (List Int) → Option ((Unit) ⊕ ((List Int) × Int × (List Int)))) (f7 : Int → Option (Int)) (f8 : (List Int) × Int × (List Int) → Option ((List Int) × (List Int) × Int × (List Int))) (f9 : (List Int) → Option ((List Int))) (f10 : (List Int) → Option (Int)) (f11 : (List Int) × Int × (List Int) → Option (Int × (List Int) × Int × (List Int))) (f12 : (List (List Int)) × Int → Option (Int × (List (List Int)))) (f13 : (List Int) × Int × Int × (List (List Int)) → Option ((List Int) × Int)) (f14 : (List (List Int)) → Option ((List Int))) : Nat → List GS := fun k => tabOf k [(9, [{ granarylaw05_live_g N with F := f0 }]), (32, [{ sha_New_g N with F := f1 }]), (21, [{ sha_Hash_Write_g N with F := f2 }, { sha_Hash_Write_v4_g N with F := f3 }]), (14, [{ sha_More_g N with F := f4 }]), (24, [{ sha_Hash_Save_v1_g N with F := f5 }]), (33, [{ sha_Load_g N with F := f6 }]), (20, [{ granarylaw05_num_g N with F := f7 }]), (23, [{ sha_Hash_Sum_g N with F := f8 }]), (10, [{ sha_Sum_v1_g N with F := f9 }]), (12, [{ sha_Crc_v1_g N with F := f10 }]), (22, [{ sha_Hash_Len_v1_g N with F := f11 }]), (25, [{ sha_Path_v1_g N with F := f12 }]), (27, [{ sha_Climb_v1_g N with F := f13 }]), (29, [{ sha_Root_v1_g N with F := f14 }])]
theorem granarylaw05_ShaPieces_CE (N : Nat) : granarylaw05_ShaPieces_CA N (granarylaw05_live N) (sha_New) (sha_Hash_Write N) (sha_Hash_Write_v4 N) (sha_More N) (sha_Hash_Save_v1 N) (sha_Load N) (granarylaw05_num) (sha_Hash_Sum N) (sha_Sum_v1 N) (sha_Crc_v1 N) (sha_Hash_Len_v1) (sha_Path_v1 N) (sha_Climb_v1 N) (sha_Root_v1 N) = granarylaw05_ShaPieces_C N := by kernel_rfl
theorem granarylaw05_ShaPieces_t (N : Nat) : TabC Try.prog (granarylaw05_ShaPieces_C N) := tab_ok ⟨⟨granarylaw05_live_ok N, trivial⟩, ⟨sha_New_ok N, trivial⟩, ⟨sha_Hash_Write_ok N, sha_Hash_Write_v4_ok N, trivial⟩, ⟨sha_More_ok N, trivial⟩, ⟨sha_Hash_Save_v1_ok N, trivial⟩, ⟨sha_Load_ok N, trivial⟩, ⟨granarylaw05_num_ok N, trivial⟩, ⟨sha_Hash_Sum_ok N, trivial⟩, ⟨sha_Sum_v1_ok N, trivial⟩, ⟨sha_Crc_v1_ok N, trivial⟩, ⟨sha_Hash_Len_v1_ok N, trivial⟩, ⟨sha_Path_v1_ok N, trivial⟩, ⟨sha_Climb_v1_ok N, trivial⟩, ⟨sha_Root_v1_ok N, trivial⟩, trivial⟩
theorem granarylaw05_ShaPieces_i0 : loopsOf granarylaw05_ShaPieces_c0 = [] := by kernel_rfl
noncomputable def granarylaw05_ShaPieces_a0 (N : Nat) (f0 : Unit → Option (Bool)) (f1 : Unit → Option ((List Int))) (f2 : (List Int) × (List Int) × Int → Option ((List Int) × Int × (List Int))) (f3 : (List Int) × (List Int) × Int × (List Int) → Option ((List Int) × Int × (List Int))) (f4 : Int × (List Int) → Option (Int)) (f5 : (List Int) × Int × (List Int) → Option ((List Int) × Int × (List Int) × (List Int))) (f6 : (List Int) → Option ((Unit) ⊕ ((List Int) × Int × (List Int)))) (f7 : Int → Option (Int)) (f8 : (List Int) × Int × (List Int) → Option ((List Int) × (List Int) × Int × (List Int))) (f9 : (List Int) → Option ((List Int))) (f10 : (List Int) → Option (Int)) (f11 : (List Int) × Int × (List Int) → Option (Int × (List Int) × Int × (List Int))) (f12 : (List (List Int)) × Int → Option (Int × (List (List Int)))) (f13 : (List Int) × Int × Int × (List (List Int)) → Option ((List Int) × Int)) (f14 : (List (List Int)) → Option ((List Int))) (next : (List Int) × (List Int) × (List (List Int)) × Int × Int × Int × Int × (List Int) × Int × (List Int) → Option (Unit ⊕ (Int × Int × (List Int) × Int × (List Int)))) (x : (List Int) × (List Int) × (List (List Int)) × Int × Int × Int × Int × (List Int) × Int × (List Int)) : Option (Unit ⊕ (Int × Int × (List Int) × Int × (List Int))) :=
  (cond (decide (x.2.2.2.2.2.2.1 < (((List.length x.2.1) : Nat) : Int)))
  (Option.bind
  ((Option.bind
  (cond ((decide ((0 : Int) ≤ x.2.2.2.2.2.2.1)) && (decide (x.2.2.2.2.2.2.1 < (((List.length x.2.1) : Nat) : Int))))
  ((cond (decide ((List.getD x.2.1 (Int.toNat x.2.2.2.2.2.2.1) (EK.dflt (.int .i64))) < (0 : Int)))
  (some true)
  (cond ((decide ((0 : Int) ≤ x.2.2.2.2.2.2.1)) && (decide (x.2.2.2.2.2.2.1 < (((List.length x.2.1) : Nat) : Int))))
  ((some (decide ((wrapF .i64 ((((List.length x.1) : Nat) : Int) - x.2.2.2.2.1)) < (List.getD x.2.1 (Int.toNat x.2.2.2.2.2.2.1) (EK.dflt (.int .i64)))))))
  none)))
  none)
  fun r9 =>
  (cond r9
  (some (.inl (x.2.2.2.2.1, x.2.2.2.2.2.1, x.2.2.2.2.2.2.2.1, x.2.2.2.2.2.2.2.2.1, x.2.2.2.2.2.2.2.2.2)))
  (cond ((decide ((0 : Int) ≤ x.2.2.2.2.2.2.1)) && (decide (x.2.2.2.2.2.2.1 < (((List.length x.2.1) : Nat) : Int))))
  ((let v11 : Int := (wrapF .i64 (x.2.2.2.2.1 + (List.getD x.2.1 (Int.toNat x.2.2.2.2.2.2.1) (EK.dflt (.int .i64)))))
  (cond (((decide ((0 : Int) ≤ x.2.2.2.2.1)) && (decide (x.2.2.2.2.1 ≤ v11))) && (decide (v11 ≤ (((List.length x.1) : Nat) : Int))))
  ((Option.bind (f3 ((List.take ((Int.toNat v11) - (Int.toNat x.2.2.2.2.1)) (List.drop (Int.toNat x.2.2.2.2.1) x.1)), x.2.2.2.2.2.2.2.1, x.2.2.2.2.2.2.2.2.1, x.2.2.2.2.2.2.2.2.2)) fun r13 =>
  (cond ((decide ((0 : Int) ≤ x.2.2.2.2.2.2.1)) && (decide (x.2.2.2.2.2.2.1 < (((List.length x.2.1) : Nat) : Int))))
  ((let v15 : Int := (wrapF .i64 (x.2.2.2.2.1 + (List.getD x.2.1 (Int.toNat x.2.2.2.2.2.2.1) (EK.dflt (.int .i64)))))
  (cond (((decide ((0 : Int) ≤ x.2.2.2.2.1)) && (decide (x.2.2.2.2.1 ≤ v15))) && (decide (v15 ≤ (((List.length x.1) : Nat) : Int))))
  ((Option.bind (f4 (x.2.2.2.2.2.1, (List.take ((Int.toNat v15) - (Int.toNat x.2.2.2.2.1)) (List.drop (Int.toNat x.2.2.2.2.1) x.1)))) fun r17 =>
  (cond ((decide ((0 : Int) ≤ x.2.2.2.2.2.2.1)) && (decide (x.2.2.2.2.2.2.1 < (((List.length x.2.1) : Nat) : Int))))
  ((let v19 : Int := (wrapF .i64 (x.2.2.2.2.1 + (List.getD x.2.1 (Int.toNat x.2.2.2.2.2.2.1) (EK.dflt (.int .i64)))))
  (Option.bind (f5 (r13.1, r13.2.1, r13.2.2)) fun r20 =>
  (Option.bind (f6 r20.2.2.2) fun r21 =>
  (match r21 with
  | .inl y22 =>
  (Option.bind (f7 (51 : Int)) fun r24 =>
  (cond (!(decide (r24 = (0 : Int))))
  (some (.inr (())))
  (some (.inr (())))))
  | .inr z23 =>
  (Option.bind (f7 (0 : Int)) fun r26 =>
  (cond (!(decide (r26 = (0 : Int))))
  (some (.inr (())))
  (Option.bind (f8 (r20.1, r20.2.1, r20.2.2.1)) fun r28 =>
  (cond ((decide ((0 : Int) ≤ v19)) && (decide (v19 ≤ (((List.length x.1) : Nat) : Int))))
  ((Option.bind (f9 (List.take (Int.toNat v19) (List.drop 0 x.1))) fun r30 =>
  (cond (!(decide (r28.1 = r30)))
  (some (.inr (())))
  (some (.inl (v19, r17, z23.1, z23.2.1, z23.2.2))))))
  none)))))))))
  none)))
  none)))
  none)))
  none)))
  none))) : Option ((Int × Int × (List Int) × Int × (List Int)) ⊕ (Unit)))
  fun r32 =>
  (match r32 with
  | .inl y33 =>
  (next (x.1, x.2.1, x.2.2.1, x.2.2.2.1, y33.1, y33.2.1, (wrapF .i64 (x.2.2.2.2.2.2.1 + (1 : Int))), y33.2.2.1, y33.2.2.2.1, y33.2.2.2.2))
  | .inr z34 =>
  (some (.inl ()))))
  (some (.inr ((x.2.2.2.2.1, x.2.2.2.2.2.1, x.2.2.2.2.2.2.2.1, x.2.2.2.2.2.2.2.2.1, x.2.2.2.2.2.2.2.2.2)))))
theorem granarylaw05_ShaPieces_f0 (N : Nat) (f0 : Unit → Option (Bool)) (f1 : Unit → Option ((List Int))) (f2 : (List Int) × (List Int) × Int → Option ((List Int) × Int × (List Int))) (f3 : (List Int) × (List Int) × Int × (List Int) → Option ((List Int) × Int × (List Int))) (f4 : Int × (List Int) → Option (Int)) (f5 : (List Int) × Int × (List Int) → Option ((List Int) × Int × (List Int) × (List Int))) (f6 : (List Int) → Option ((Unit) ⊕ ((List Int) × Int × (List Int)))) (f7 : Int → Option (Int)) (f8 : (List Int) × Int × (List Int) → Option ((List Int) × (List Int) × Int × (List Int))) (f9 : (List Int) → Option ((List Int))) (f10 : (List Int) → Option (Int)) (f11 : (List Int) × Int × (List Int) → Option (Int × (List Int) × Int × (List Int))) (f12 : (List (List Int)) × Int → Option (Int × (List (List Int)))) (f13 : (List Int) × Int × Int × (List (List Int)) → Option ((List Int) × Int)) (f14 : (List (List Int)) → Option ((List Int))) (next) (x) : granarylaw05_ShaPieces_a0 N f0 f1 f2 f3 f4 f5 f6 f7 f8 f9 f10 f11 f12 f13 f14 next x = loopStep Γ (granarylaw05_ShaPieces_CA N f0 f1 f2 f3 f4 f5 f6 f7 f8 f9 f10 f11 f12 f13 f14) (granarylaw05_ShaPieces_J N) 0 181 granarylaw05_ShaPieces_d0 granarylaw05_ShaPieces_c0 next x := by kernel_rfl
theorem granarylaw05_ShaPieces_e0 (N : Nat) (next) (x) : granarylaw05_ShaPieces_b0 N next x = loopStep Γ (granarylaw05_ShaPieces_C N) (granarylaw05_ShaPieces_J N) 0 181 granarylaw05_ShaPieces_d0 granarylaw05_ShaPieces_c0 next x := by
  rw [← granarylaw05_ShaPieces_CE N]
  exact Eq.trans (by kernel_rfl) (granarylaw05_ShaPieces_f0 N (granarylaw05_live N) (sha_New) (sha_Hash_Write N) (sha_Hash_Write_v4 N) (sha_More N) (sha_Hash_Save_v1 N) (sha_Load N) (granarylaw05_num) (sha_Hash_Sum N) (sha_Sum_v1 N) (sha_Crc_v1 N) (sha_Hash_Len_v1) (sha_Path_v1 N) (sha_Climb_v1 N) (sha_Root_v1 N) next x)
theorem granarylaw05_ShaPieces_k0 (N : Nat) : LoopOK Try.prog 181 granarylaw05_ShaPieces_c0 ⟨granarylaw05_ShaPieces_d0, loopF (granarylaw05_ShaPieces_b0 N) N⟩ := loop_ok tabOK (granarylaw05_ShaPieces_t N) mixedOK (J := granarylaw05_ShaPieces_J N) (cx := 0) (body := granarylaw05_ShaPieces_c0) (nt := 181) (l := granarylaw05_ShaPieces_d0) (b := granarylaw05_ShaPieces_b0 N) (jok_from granarylaw05_ShaPieces_i0 ⟨trivial, trivial⟩) (granarylaw05_ShaPieces_e0 N) N
theorem granarylaw05_ShaPieces_i : loopsOf granarylaw05_ShaPieces_c = [(0, granarylaw05_ShaPieces_c0)] := by kernel_rfl
noncomputable def granarylaw05_ShaPieces_a (N : Nat) (f0 : Unit → Option (Bool)) (f1 : Unit → Option ((List Int))) (f2 : (List Int) × (List Int) × Int → Option ((List Int) × Int × (List Int))) (f3 : (List Int) × (List Int) × Int × (List Int) → Option ((List Int) × Int × (List Int))) (f4 : Int × (List Int) → Option (Int)) (f5 : (List Int) × Int × (List Int) → Option ((List Int) × Int × (List Int) × (List Int))) (f6 : (List Int) → Option ((Unit) ⊕ ((List Int) × Int × (List Int)))) (f7 : Int → Option (Int)) (f8 : (List Int) × Int × (List Int) → Option ((List Int) × (List Int) × Int × (List Int))) (f9 : (List Int) → Option ((List Int))) (f10 : (List Int) → Option (Int)) (f11 : (List Int) × Int × (List Int) → Option (Int × (List Int) × Int × (List Int))) (f12 : (List (List Int)) × Int → Option (Int × (List (List Int)))) (f13 : (List Int) × Int × Int × (List (List Int)) → Option ((List Int) × Int)) (f14 : (List (List Int)) → Option ((List Int))) (x : (List Int) × (List Int) × (List (List Int)) × Int) : Option (Bool) :=
  (Option.bind
  (cond (decide ((9000 : Int) < (((List.length x.1) : Nat) : Int)))
  (some true)
  (cond (decide ((60 : Int) < (((List.length x.2.1) : Nat) : Int)))
  (some true)
  (some (decide ((60 : Int) < (((List.length x.2.2.1) : Nat) : Int))))))
  fun r7 =>
  (cond r7
  (Option.bind (f0 ()) fun r8 =>
  (some r8))
  (Option.bind (f1 ()) fun r9 =>
  (Option.bind (granarylaw05_ShaPieces_l0 N (x.1, x.2.1, x.2.2.1, x.2.2.2, (0 : Int), (0 : Int), (0 : Int), r9, (0 : Int), ([] : List Int))) fun r10 =>
  (match r10 with
  | .inl y11 =>
  (some false)
  | .inr z12 =>
  (cond (((decide ((0 : Int) ≤ z12.1)) && (decide (z12.1 ≤ (((List.length x.1) : Nat) : Int)))) && (decide ((((List.length x.1) : Nat) : Int) ≤ (((List.length x.1) : Nat) : Int))))
  ((Option.bind (f3 ((List.take ((List.length x.1) - (Int.toNat z12.1)) (List.drop (Int.toNat z12.1) x.1)), z12.2.2.1, z12.2.2.2.1, z12.2.2.2.2)) fun r14 =>
  (Option.bind
  (Option.bind (f8 (r14.1, r14.2.1, r14.2.2)) fun r15 =>
  (Option.bind (f9 x.1) fun r16 =>
  (cond (!(decide (r15.1 = r16)))
  (some (true, r15.2.1, r15.2.2.1, r15.2.2.2))
  (cond (((decide ((0 : Int) ≤ z12.1)) && (decide (z12.1 ≤ (((List.length x.1) : Nat) : Int)))) && (decide ((((List.length x.1) : Nat) : Int) ≤ (((List.length x.1) : Nat) : Int))))
  ((Option.bind (f4 (z12.2.1, (List.take ((List.length x.1) - (Int.toNat z12.1)) (List.drop (Int.toNat z12.1) x.1)))) fun r19 =>
  (Option.bind (f10 x.1) fun r20 =>
  (cond (!(decide (r19 = r20)))
  (some (true, r15.2.1, r15.2.2.1, r15.2.2.2))
  (Option.bind (f11 (r15.2.1, r15.2.2.1, r15.2.2.2)) fun r22 =>
  (some ((!(decide (r22.1 = (wrapF .u64 (((List.length x.1) : Nat) : Int))))), r22.2.1, r22.2.2.1, r22.2.2.2)))))))
  none))))
  fun r26 =>
  (cond r26.1
  (some false)
  (Option.bind
  (cond (decide (x.2.2.2 < (0 : Int)))
  (some true)
  (some (decide ((((List.length x.2.2.1) : Nat) : Int) ≤ x.2.2.2))))
  fun r30 =>
  (cond r30
  (Option.bind (f0 ()) fun r31 =>
  (some r31))
  (Option.bind (f12 (x.2.2.1, x.2.2.2)) fun r32 =>
  (cond ((decide ((0 : Int) ≤ x.2.2.2)) && (decide (x.2.2.2 < (((List.length x.2.2.1) : Nat) : Int))))
  ((Option.bind (f13 ((List.getD x.2.2.1 (Int.toNat x.2.2.2) (EK.dflt (.arr 32 (.int .u8)))), x.2.2.2, (((List.length x.2.2.1) : Nat) : Int), r32.2)) fun r35 =>
  (Option.bind
  (Option.bind (f7 r32.1) fun r37 =>
  (cond (decide (r37 = (0 : Int)))
  (Option.bind (f7 r35.2) fun r39 =>
  (cond (decide (r39 = (0 : Int)))
  (Option.bind (f14 x.2.2.1) fun r41 =>
  (cond (decide (r35.1 = r41))
  (Option.bind (f0 ()) fun r43 =>
  (some r43))
  (some false)))
  (some false)))
  (some false)))
  fun r44 =>
  (some r44))))
  none))))))))
  none))))))
theorem granarylaw05_ShaPieces_f (N : Nat) (f0 : Unit → Option (Bool)) (f1 : Unit → Option ((List Int))) (f2 : (List Int) × (List Int) × Int → Option ((List Int) × Int × (List Int))) (f3 : (List Int) × (List Int) × Int × (List Int) → Option ((List Int) × Int × (List Int))) (f4 : Int × (List Int) → Option (Int)) (f5 : (List Int) × Int × (List Int) → Option ((List Int) × Int × (List Int) × (List Int))) (f6 : (List Int) → Option ((Unit) ⊕ ((List Int) × Int × (List Int)))) (f7 : Int → Option (Int)) (f8 : (List Int) × Int × (List Int) → Option ((List Int) × (List Int) × Int × (List Int))) (f9 : (List Int) → Option ((List Int))) (f10 : (List Int) → Option (Int)) (f11 : (List Int) × Int × (List Int) → Option (Int × (List Int) × Int × (List Int))) (f12 : (List (List Int)) × Int → Option (Int × (List (List Int)))) (f13 : (List Int) × Int × Int × (List (List Int)) → Option ((List Int) × Int)) (f14 : (List (List Int)) → Option ((List Int))) (x) : granarylaw05_ShaPieces_a N f0 f1 f2 f3 f4 f5 f6 f7 f8 f9 f10 f11 f12 f13 f14 x = fnStep Γ (granarylaw05_ShaPieces_CA N f0 f1 f2 f3 f4 f5 f6 f7 f8 f9 f10 f11 f12 f13 f14) (granarylaw05_ShaPieces_J N) 181 Try.f8.results.toList (granarylaw05_ShaPieces_g N) granarylaw05_ShaPieces_o granarylaw05_ShaPieces_c x := by kernel_rfl
theorem granarylaw05_ShaPieces_e (N : Nat) (x) : (granarylaw05_ShaPieces_g N).F x = fnStep Γ (granarylaw05_ShaPieces_C N) (granarylaw05_ShaPieces_J N) 181 Try.f8.results.toList (granarylaw05_ShaPieces_g N) granarylaw05_ShaPieces_o granarylaw05_ShaPieces_c x := by
  rw [← granarylaw05_ShaPieces_CE N]
  exact Eq.trans (by kernel_rfl) (granarylaw05_ShaPieces_f N (granarylaw05_live N) (sha_New) (sha_Hash_Write N) (sha_Hash_Write_v4 N) (sha_More N) (sha_Hash_Save_v1 N) (sha_Load N) (granarylaw05_num) (sha_Hash_Sum N) (sha_Sum_v1 N) (sha_Crc_v1 N) (sha_Hash_Len_v1) (sha_Path_v1 N) (sha_Climb_v1 N) (sha_Root_v1 N) x)
theorem granarylaw05_ShaPieces_y : Try.f8.body = some granarylaw05_ShaPieces_c := by kernel_rfl
theorem granarylaw05_ShaPieces_n : (Try.f8.name == "runtime.NumGoroutine") = false := by kernel_rfl
theorem granarylaw05_ShaPieces_ok (N : Nat) : FnDoes Try.prog 8 (granarylaw05_ShaPieces_g N) := fn_ok tabOK (granarylaw05_ShaPieces_t N) mixedOK (J := granarylaw05_ShaPieces_J N) (body := granarylaw05_ShaPieces_c) Try.func8 granarylaw05_ShaPieces_y granarylaw05_ShaPieces_n Try.ntmps8 (jok_from granarylaw05_ShaPieces_i ⟨⟨.inr ⟨_, rfl, granarylaw05_ShaPieces_k0 N⟩, trivial⟩, trivial⟩) rfl rfl (le_of_ble rfl) (granarylaw05_ShaPieces_e N)
end Go.Rf.W
