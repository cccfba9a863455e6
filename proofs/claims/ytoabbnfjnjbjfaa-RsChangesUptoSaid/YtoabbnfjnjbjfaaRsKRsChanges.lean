/-
  The law's printed function is what the program does.
-/
import Derived.Test.YtoabbnfjnjbjfaaRsK1
import Derived.Test.YtoabbnfjnjbjfaaRsFRsChanges
set_option linter.unusedVariables false
set_option maxRecDepth 100000
namespace Go.Rf.W
open Go Go.Rf Go.Proofs
noncomputable def granarylaw03_RsChanges_c : Code := codeOf Try.f9.body
noncomputable def granarylaw03_RsChanges_c0 : Code := codeOf (getLoop 0 granarylaw03_RsChanges_c)
noncomputable def granarylaw03_RsChanges_c2 : Code := codeOf (getLoop 2 granarylaw03_RsChanges_c)
noncomputable def granarylaw03_RsChanges_c4 : Code := codeOf (getLoop 4 granarylaw03_RsChanges_c)
noncomputable def granarylaw03_RsChanges_c6 : Code := codeOf (getLoop 6 granarylaw03_RsChanges_c)
def granarylaw03_RsChanges_d2 : LD := { ins := ⟨[(0, (.av (.one (.int .i64)))), (1, (.av (.one (.int .i64)))), (5, (.av (.one (.rsl (.int .i64))))), (13, (.av (.one (.const (.ptr ⟨0, 0, 0, 0⟩))))), (16, (.av (.one (.rsl (.sl (.int .u8)))))), (17, (.av (.one (.rsl (.sl (.int .u8)))))), (18, (.av (.one (.rsl (.sl (.int .u8)))))), (20, (.av (.one (.rsl (.sl (.int .u8)))))), (27, (.av (.one (.const (.slw 14 1))))), (28, (.av (.one (.int .i64)))), (29, (.av (.one (.const (.slw 16 1))))), (30, (.av (.one (.int .i64))))], [(.keep, false), (.keep, false), (.keep, false), (.keep, false), (.keep, false), (.keep, false), (.keep, false), (.keep, false), (.keep, false), (.keep, false), (.keep, false), (.keep, false), (.keep, false), (.keep, false), (.keep, false), (.keep, false), (.sh (.arr (.int .u8) none), false)]⟩, mov := [], wr := [16], outs := [(.exit 2, ⟨[], [(.keep, false), (.keep, false), (.keep, false), (.keep, false), (.keep, false), (.keep, false), (.keep, false), (.keep, false), (.keep, false), (.keep, false), (.keep, false), (.keep, false), (.keep, false), (.keep, false), (.keep, false), (.keep, false), (.sh (.arr (.int .u8) none), false)]⟩)], its := [.int, .int, .lst (.int .i64), .lst (.sl (.int .u8)), .lst (.sl (.int .u8)), .lst (.sl (.int .u8)), .lst (.sl (.int .u8)), .int, .int, .lst (.int .u8)], ots := [[.lst (.int .u8)]] }
def granarylaw03_RsChanges_d0 : LD := { ins := ⟨[(0, (.av (.one (.int .i64)))), (1, (.av (.one (.int .i64)))), (5, (.av (.one (.rsl (.int .i64))))), (13, (.av (.one (.const (.ptr ⟨0, 0, 0, 0⟩))))), (16, (.av (.one (.rsl (.sl (.int .u8)))))), (17, (.av (.one (.rsl (.sl (.int .u8)))))), (18, (.av (.one (.rsl (.sl (.int .u8)))))), (20, (.av (.one (.rsl (.sl (.int .u8)))))), (27, (.av (.one (.const (.slw 14 1))))), (28, (.av (.one (.int .i64))))], [(.keep, false), (.keep, false), (.keep, false), (.keep, false), (.keep, false), (.keep, false), (.keep, false), (.keep, false), (.keep, false), (.keep, false), (.keep, false), (.keep, false), (.keep, false), (.keep, false), (.sh (.arr (.sl (.int .u8)) none), false)]⟩, mov := [14], wr := [], outs := [(.exit 0, ⟨[(27, (.av (.one (.const (.slw 15 1)))))], [(.keep, false), (.keep, false), (.keep, false), (.keep, false), (.keep, false), (.keep, false), (.keep, false), (.keep, false), (.keep, false), (.keep, false), (.keep, false), (.keep, false), (.keep, false), (.keep, false), (.dead, false), (.sh (.arr (.sl (.int .u8)) none), false)]⟩)], its := [.int, .int, .lst (.int .i64), .lst (.sl (.int .u8)), .lst (.sl (.int .u8)), .lst (.sl (.int .u8)), .lst (.sl (.int .u8)), .int, .lst (.sl (.int .u8))], ots := [[.lst (.sl (.int .u8))]] }
def granarylaw03_RsChanges_d6 : LD := { ins := ⟨[(0, (.av (.one (.int .i64)))), (1, (.av (.one (.int .i64)))), (5, (.av (.one (.rsl (.int .i64))))), (13, (.av (.one (.const (.ptr ⟨0, 0, 0, 0⟩))))), (16, (.av (.one (.rsl (.sl (.int .u8)))))), (18, (.av (.one (.rsl (.sl (.int .u8)))))), (20, (.av (.one (.rsl (.sl (.int .u8)))))), (31, (.av (.one (.const (.slw 16 1))))), (33, (.av (.one (.int .i64)))), (34, (.av (.one (.int .i64))))], [(.keep, false), (.keep, false), (.keep, false), (.keep, false), (.keep, false), (.keep, false), (.keep, false), (.keep, false), (.keep, false), (.keep, false), (.keep, false), (.keep, false), (.keep, false), (.keep, false), (.keep, false), (.keep, false), (.sh (.arr (.sl (.int .u8)) none), false)]⟩, mov := [], wr := [16], outs := [(.ret, ⟨[(12, (.av (.one (.const (.bool false)))))], [(.keep, false), (.keep, false), (.keep, false), (.keep, false), (.keep, false), (.keep, false), (.keep, false), (.keep, false), (.keep, false), (.keep, false), (.keep, false), (.keep, false), (.keep, false), (.keep, false), (.keep, false), (.keep, false), (.sh (.arr (.sl (.int .u8)) none), false)]⟩), (.exit 6, ⟨[], [(.keep, false), (.keep, false), (.keep, false), (.keep, false), (.keep, false), (.keep, false), (.keep, false), (.keep, false), (.keep, false), (.keep, false), (.keep, false), (.keep, false), (.keep, false), (.keep, false), (.keep, false), (.keep, false), (.sh (.arr (.sl (.int .u8)) none), false)]⟩)], its := [.int, .int, .lst (.int .i64), .lst (.sl (.int .u8)), .lst (.sl (.int .u8)), .lst (.sl (.int .u8)), .int, .int, .lst (.sl (.int .u8))], ots := [[.lst (.sl (.int .u8))], [.lst (.sl (.int .u8))]] }
def granarylaw03_RsChanges_d4 : LD := { ins := ⟨[(0, (.av (.one (.int .i64)))), (1, (.av (.one (.int .i64)))), (5, (.av (.one (.rsl (.int .i64))))), (13, (.av (.one (.const (.ptr ⟨0, 0, 0, 0⟩))))), (16, (.av (.one (.rsl (.sl (.int .u8)))))), (18, (.av (.one (.rsl (.sl (.int .u8)))))), (20, (.av (.one (.rsl (.sl (.int .u8)))))), (31, (.av (.one (.const (.slw 16 1))))), (33, (.av (.one (.int .i64))))], [(.keep, false), (.keep, false), (.keep, false), (.keep, false), (.keep, false), (.keep, false), (.keep, false), (.keep, false), (.keep, false), (.keep, false), (.keep, false), (.keep, false), (.keep, false), (.keep, false), (.keep, false), (.keep, false), (.sh (.arr (.sl (.int .u8)) none), false)]⟩, mov := [], wr := [16], outs := [(.ret, ⟨[(12, (.av (.one (.const (.bool false)))))], [(.keep, false), (.keep, false), (.keep, false), (.keep, false), (.keep, false), (.keep, false), (.keep, false), (.keep, false), (.keep, false), (.keep, false), (.keep, false), (.keep, false), (.keep, false), (.keep, false), (.keep, false), (.keep, false), (.sh (.arr (.sl (.int .u8)) none), false)]⟩), (.exit 4, ⟨[], [(.keep, false), (.keep, false), (.keep, false), (.keep, false), (.keep, false), (.keep, false), (.keep, false), (.keep, false), (.keep, false), (.keep, false), (.keep, false), (.keep, false), (.keep, false), (.keep, false), (.keep, false), (.keep, false), (.sh (.arr (.sl (.int .u8)) none), false)]⟩)], its := [.int, .int, .lst (.int .i64), .lst (.sl (.int .u8)), .lst (.sl (.int .u8)), .lst (.sl (.int .u8)), .int, .lst (.sl (.int .u8))], ots := [[.lst (.sl (.int .u8))], [.lst (.sl (.int .u8))]] }
noncomputable def granarylaw03_RsChanges_J (N : Nat) : Nat → Hint := fun cx => hintOf cx [(0, { reg := fun k => assoc0 k [(8, ⟨⟨[(106, (.av (.one .bool)))], [(.keep, true), (.keep, true), (.keep, false), (.keep, true), (.keep, false), (.keep, false), (.dead, false), (.dead, false), (.dead, false), (.dead, false)]⟩, [], [], [.bool]⟩), (9, ⟨⟨[(12, (.av (.one .bool)))], [(.keep, true), (.keep, true), (.keep, false), (.keep, true), (.keep, false), (.keep, false), (.dead, false), (.dead, false), (.dead, false), (.dead, false)]⟩, [], [], [.bool]⟩), (15, ⟨⟨[(162, (.av (.one .bool)))], [(.keep, true), (.keep, true), (.keep, false), (.keep, true), (.keep, false), (.keep, false), (.dead, false), (.dead, false), (.dead, false), (.dead, false), (.keep, false), (.keep, false), (.dead, false), (.keep, false)]⟩, [], [], [.bool]⟩), (28, ⟨⟨[(225, (.av (.one .bool)))], [(.keep, true), (.keep, true), (.keep, false), (.keep, true), (.keep, false), (.keep, false), (.dead, false), (.dead, false), (.dead, false), (.dead, false), (.keep, false), (.keep, false), (.dead, false), (.keep, false), (.dead, false), (.dead, false), (.keep, false)]⟩, [], [], [.bool]⟩), (38, ⟨⟨[(12, (.av (.one .bool)))], [(.sh (.one (.int .i64)), true), (.sh (.one (.int .i64)), true), (.sh (.one (.const (.slw 5 1))), false), (.keep, true), (.keep, false), (.sh (.arr (.int .u8) none), false), (.dead, false), (.dead, false), (.dead, false), (.dead, false), (.keep, false), (.keep, false), (.dead, false), (.keep, false), (.dead, false), (.dead, false), (.keep, false)]⟩, [], [0, 1, 2, 5], [.bool, .int, .int, .lst (.int .u8)]⟩)], cnd := fun k => assoc0 k [], loop := fun k => assoc0 k [(2, ⟨granarylaw03_RsChanges_d2, loopF (granarylaw03_RsChanges_b2 N) N⟩), (0, ⟨granarylaw03_RsChanges_d0, loopF (granarylaw03_RsChanges_b0 N) N⟩), (6, ⟨granarylaw03_RsChanges_d6, loopF (granarylaw03_RsChanges_b6 N) N⟩), (4, ⟨granarylaw03_RsChanges_d4, loopF (granarylaw03_RsChanges_b4 N) N⟩)], nil := fun k => assoc0 k [(16, (.sl (.int .u8))), (17, (.sl (.int .u8))), (18, (.sl (.int .u8))), (20, (.sl (.int .u8))), (90, (.arr 2 .unit)), (96, (.arr 2 .unit)), (146, (.arr 2 .unit)), (197, (.sl (.int .u8))), (202, (.arr 2 .unit))], unr := fun k => assocN k [], blk := fun k => assoc0 k [] })]
noncomputable def granarylaw03_RsChanges_C (N : Nat) : Nat → List GS := fun k => tabOf k [(11, [granarylaw03_both_g N]), (13, [granarylaw03_live_g N]), (28, [granarylaw03_shards_g N]), (24, [rs_Code_Encode_g N]), (18, [granarylaw03_num_g N]), (29, [rs_Code_Update_v2_g N]), (17, [granaryref03_Same_g N]), (14, [granarylaw03_lent_g N]), (35, [granarylaw03_wrong_g N])]
def granarylaw03_RsChanges_o : List (Shp × List Nat) := [(⟨[(0, (.av (.one .bool)))], []⟩, [])]
noncomputable def granarylaw03_RsChanges_g (N : Nat) : GS := { ins := ⟨[(0, (.av (.one (.int .i64)))), (1, (.av (.one (.int .i64)))), (2, (.av (.one (.rsl (.int .u8))))), (3, (.av (.one (.rsl (.int .u8))))), (4, (.av (.one (.int .i64)))), (5, (.av (.one (.rsl (.int .i64)))))], []⟩, lend := [.keep, .keep, .keep, .keep, .keep, .keep], outs := granarylaw03_RsChanges_o.map fun s => ssOf s.1, its := [.int, .int, .lst (.int .u8), .lst (.int .u8), .int, .lst (.int .i64)], ots := [[.bool]], F := granarylaw03_RsChanges N }
noncomputable def granarylaw03_RsChanges_CA (N : Nat) (f0 : Int × Int → Option ((Bool) ⊕ (Int × Int) ⊕ (Int × Int × (List Int)) ⊕ (Bool × Int × Int × Int × Int × (List Int)))) (f1 : Unit → Option (Bool)) (f2 : Int × (List Int) → Option ((List (List Int)))) (f3 : (List (List Int)) × Int × Int × (List Int) → Option (Int × Int × Int × (List Int) × (List (List Int)))) (f4 : Int → Option (Int)) (f5 : (List (List Int)) × Int × (List Int) × (List Int) × Int × Int × (List Int) → Option (Int × Int × Int × (List Int) × (List (List Int)))) (f6 : (List (List Int)) × (List (List Int)) → Option (Bool)) (f7 : (List (List Int)) → Option ((List (List Int)))) (f8 : Int × Int × (List (List Int)) × (List Int) × Int × Int × (List Int) → Option (Bool × Int × Int × (List Int))) : Nat → List GS := fun k => tabOf k [(11, [{ granarylaw03_both_g N with F := f0 }]), (13, [{ granarylaw03_live_g N with F := f1 }]), (28, [{ granarylaw03_shards_g N with F := f2 }]), (24, [{ rs_Code_Encode_g N with F := f3 }]), (18, [{ granarylaw03_num_g N with F := f4 }]), (29, [{ rs_Code_Update_v2_g N with F := f5 }]), (17, [{ granaryref03_Same_g N with F := f6 }]), (14, [{ granarylaw03_lent_g N with F := f7 }]), (35, [{ granarylaw03_wrong_g N with F := f8 }])]
theorem granarylaw03_RsChanges_CE (N : Nat) : granarylaw03_RsChanges_CA N (granarylaw03_both N) (granarylaw03_live N) (granarylaw03_shards N) (rs_Code_Encode N) (granarylaw03_num) (rs_Code_Update_v2 N) (granaryref03_Same N) (granarylaw03_lent N) (granarylaw03_wrong N) = granarylaw03_RsChanges_C N := by kernel_rfl
theorem granarylaw03_RsChanges_t (N : Nat) : TabC Try.prog (granarylaw03_RsChanges_C N) := tab_ok ⟨⟨granarylaw03_both_ok N, trivial⟩, ⟨granarylaw03_live_ok N, trivial⟩, ⟨granarylaw03_shards_ok N, trivial⟩, ⟨rs_Code_Encode_ok N, trivial⟩, ⟨granarylaw03_num_ok N, trivial⟩, ⟨rs_Code_Update_v2_ok N, trivial⟩, ⟨granaryref03_Same_ok N, trivial⟩, ⟨granarylaw03_lent_ok N, trivial⟩, ⟨granarylaw03_wrong_ok N, trivial⟩, trivial⟩
theorem granarylaw03_RsChanges_i2 : loopsOf granarylaw03_RsChanges_c2 = [] := by kernel_rfl
noncomputable def granarylaw03_RsChanges_a2 (N : Nat) (f0 : Int × Int → Option ((Bool) ⊕ (Int × Int) ⊕ (Int × Int × (List Int)) ⊕ (Bool × Int × Int × Int × Int × (List Int)))) (f1 : Unit → Option (Bool)) (f2 : Int × (List Int) → Option ((List (List Int)))) (f3 : (List (List Int)) × Int × Int × (List Int) → Option (Int × Int × Int × (List Int) × (List (List Int)))) (f4 : Int → Option (Int)) (f5 : (List (List Int)) × Int × (List Int) × (List Int) × Int × Int × (List Int) → Option (Int × Int × Int × (List Int) × (List (List Int)))) (f6 : (List (List Int)) × (List (List Int)) → Option (Bool)) (f7 : (List (List Int)) → Option ((List (List Int)))) (f8 : Int × Int × (List (List Int)) × (List Int) × Int × Int × (List Int) → Option (Bool × Int × Int × (List Int))) (next : Int × Int × (List Int) × (List (List Int)) × (List (List Int)) × (List (List Int)) × (List (List Int)) × Int × Int × (List Int) → Option (((List Int)))) (x : Int × Int × (List Int) × (List (List Int)) × (List (List Int)) × (List (List Int)) × (List (List Int)) × Int × Int × (List Int)) : Option (((List Int))) :=
  (cond (decide (x.2.2.2.2.2.2.2.2.1 < (((List.length x.2.2.2.2.2.2.2.2.2) : Nat) : Int)))
  (cond ((decide ((0 : Int) ≤ x.2.2.2.2.2.2.2.2.1)) && (decide (x.2.2.2.2.2.2.2.2.1 < (((List.length x.2.2.2.2.2.2.2.2.2) : Nat) : Int))))
  ((let v3 : Nat := (Int.toNat x.2.2.2.2.2.2.2.2.1)
  (cond (decide (v3 < (List.length x.2.2.2.2.2.2.2.2.2)))
  ((cond ((decide ((0 : Int) ≤ x.2.2.2.2.2.2.2.1)) && (decide (x.2.2.2.2.2.2.2.1 < (((List.length x.2.2.2.2.1) : Nat) : Int))))
  ((let v5 : (List Int) := (List.getD x.2.2.2.2.1 (Int.toNat x.2.2.2.2.2.2.2.1) (EK.dflt (.sl (.int .u8))))
  (cond ((decide ((0 : Int) ≤ x.2.2.2.2.2.2.2.2.1)) && (decide (x.2.2.2.2.2.2.2.2.1 < (((List.length v5) : Nat) : Int))))
  ((cond ((decide ((0 : Int) ≤ x.2.2.2.2.2.2.2.2.1)) && (decide (x.2.2.2.2.2.2.2.2.1 < (((List.length x.2.2.2.2.2.2.2.2.2) : Nat) : Int))))
  ((let v8 : Nat := (Int.toNat x.2.2.2.2.2.2.2.2.1)
  (cond (decide (v8 < (List.length x.2.2.2.2.2.2.2.2.2)))
  ((next (x.1, x.2.1, x.2.2.1, x.2.2.2.1, x.2.2.2.2.1, x.2.2.2.2.2.1, x.2.2.2.2.2.2.1, x.2.2.2.2.2.2.2.1, (wrapF .i64 (x.2.2.2.2.2.2.2.2.1 + (1 : Int))), (List.set x.2.2.2.2.2.2.2.2.2 v8 (xorF .u8 (List.getD x.2.2.2.2.2.2.2.2.2 v3 (EK.dflt (.int .u8))) (List.getD v5 (Int.toNat x.2.2.2.2.2.2.2.2.1) (EK.dflt (.int .u8))))))))
  none)))
  none))
  none)))
  none))
  none)))
  none)
  (some x.2.2.2.2.2.2.2.2.2))
theorem granarylaw03_RsChanges_f2 (N : Nat) (f0 : Int × Int → Option ((Bool) ⊕ (Int × Int) ⊕ (Int × Int × (List Int)) ⊕ (Bool × Int × Int × Int × Int × (List Int)))) (f1 : Unit → Option (Bool)) (f2 : Int × (List Int) → Option ((List (List Int)))) (f3 : (List (List Int)) × Int × Int × (List Int) → Option (Int × Int × Int × (List Int) × (List (List Int)))) (f4 : Int → Option (Int)) (f5 : (List (List Int)) × Int × (List Int) × (List Int) × Int × Int × (List Int) → Option (Int × Int × Int × (List Int) × (List (List Int)))) (f6 : (List (List Int)) × (List (List Int)) → Option (Bool)) (f7 : (List (List Int)) → Option ((List (List Int)))) (f8 : Int × Int × (List (List Int)) × (List Int) × Int × Int × (List Int) → Option (Bool × Int × Int × (List Int))) (next) (x) : granarylaw03_RsChanges_a2 N f0 f1 f2 f3 f4 f5 f6 f7 f8 next x = loopStep Γ (granarylaw03_RsChanges_CA N f0 f1 f2 f3 f4 f5 f6 f7 f8) (granarylaw03_RsChanges_J N) 0 275 granarylaw03_RsChanges_d2 granarylaw03_RsChanges_c2 next x := by kernel_rfl
theorem granarylaw03_RsChanges_e2 (N : Nat) (next) (x) : granarylaw03_RsChanges_b2 N next x = loopStep Γ (granarylaw03_RsChanges_C N) (granarylaw03_RsChanges_J N) 0 275 granarylaw03_RsChanges_d2 granarylaw03_RsChanges_c2 next x := by
  rw [← granarylaw03_RsChanges_CE N]
  exact Eq.trans (by kernel_rfl) (granarylaw03_RsChanges_f2 N (granarylaw03_both N) (granarylaw03_live N) (granarylaw03_shards N) (rs_Code_Encode N) (granarylaw03_num) (rs_Code_Update_v2 N) (granaryref03_Same N) (granarylaw03_lent N) (granarylaw03_wrong N) next x)
theorem granarylaw03_RsChanges_k2 (N : Nat) : LoopOK Try.prog 275 granarylaw03_RsChanges_c2 ⟨granarylaw03_RsChanges_d2, loopF (granarylaw03_RsChanges_b2 N) N⟩ := loop_ok tabOK (granarylaw03_RsChanges_t N) mixedOK (J := granarylaw03_RsChanges_J N) (cx := 0) (body := granarylaw03_RsChanges_c2) (nt := 275) (l := granarylaw03_RsChanges_d2) (b := granarylaw03_RsChanges_b2 N) (jok_from granarylaw03_RsChanges_i2 ⟨trivial, trivial⟩) (granarylaw03_RsChanges_e2 N) N
theorem granarylaw03_RsChanges_i6 : loopsOf granarylaw03_RsChanges_c6 = [] := by kernel_rfl
noncomputable def granarylaw03_RsChanges_a6 (N : Nat) (f0 : Int × Int → Option ((Bool) ⊕ (Int × Int) ⊕ (Int × Int × (List Int)) ⊕ (Bool × Int × Int × Int × Int × (List Int)))) (f1 : Unit → Option (Bool)) (f2 : Int × (List Int) → Option ((List (List Int)))) (f3 : (List (List Int)) × Int × Int × (List Int) → Option (Int × Int × Int × (List Int) × (List (List Int)))) (f4 : Int → Option (Int)) (f5 : (List (List Int)) × Int × (List Int) × (List Int) × Int × Int × (List Int) → Option (Int × Int × Int × (List Int) × (List (List Int)))) (f6 : (List (List Int)) × (List (List Int)) → Option (Bool)) (f7 : (List (List Int)) → Option ((List (List Int)))) (f8 : Int × Int × (List (List Int)) × (List Int) × Int × Int × (List Int) → Option (Bool × Int × Int × (List Int))) (next : Int × Int × (List Int) × (List (List Int)) × (List (List Int)) × (List (List Int)) × Int × Int × (List (List Int)) → Option (((List (List Int))) ⊕ ((List (List Int))))) (x : Int × Int × (List Int) × (List (List Int)) × (List (List Int)) × (List (List Int)) × Int × Int × (List (List Int))) : Option (((List (List Int))) ⊕ ((List (List Int)))) :=
  (cond ((decide ((0 : Int) ≤ x.2.2.2.2.2.2.1)) && (decide (x.2.2.2.2.2.2.1 < (((List.length x.2.2.2.2.2.2.2.2) : Nat) : Int))))
  ((let v1 : Nat := (Int.toNat x.2.2.2.2.2.2.1)
  (cond (decide (v1 < (List.length x.2.2.2.2.2.2.2.2)))
  ((cond (decide (x.2.2.2.2.2.2.2.1 < (((List.length (List.getD x.2.2.2.2.2.2.2.2 v1 (EK.dflt (.sl (.int .u8))))) : Nat) : Int)))
  (cond ((decide ((0 : Int) ≤ x.2.2.2.2.2.2.1)) && (decide (x.2.2.2.2.2.2.1 < (((List.length x.2.2.2.2.2.2.2.2) : Nat) : Int))))
  ((let v5 : Nat := (Int.toNat x.2.2.2.2.2.2.1)
  (cond (decide (v5 < (List.length x.2.2.2.2.2.2.2.2)))
  ((let v6 : List Int := (List.getD x.2.2.2.2.2.2.2.2 v5 (EK.dflt (.sl (.int .u8))))
  (cond ((decide ((0 : Int) ≤ x.2.2.2.2.2.2.2.1)) && (decide (x.2.2.2.2.2.2.2.1 < (((List.length v6) : Nat) : Int))))
  ((cond ((decide ((0 : Int) ≤ x.2.2.2.2.2.2.1)) && (decide (x.2.2.2.2.2.2.1 < (((List.length x.2.2.2.2.1) : Nat) : Int))))
  ((let v8 : (List Int) := (List.getD x.2.2.2.2.1 (Int.toNat x.2.2.2.2.2.2.1) (EK.dflt (.sl (.int .u8))))
  (cond ((decide ((0 : Int) ≤ x.2.2.2.2.2.2.2.1)) && (decide (x.2.2.2.2.2.2.2.1 < (((List.length v8) : Nat) : Int))))
  ((cond ((decide ((0 : Int) ≤ x.2.2.2.2.2.2.1)) && (decide (x.2.2.2.2.2.2.1 < (((List.length x.2.2.2.2.2.1) : Nat) : Int))))
  ((let v10 : (List Int) := (List.getD x.2.2.2.2.2.1 (Int.toNat x.2.2.2.2.2.2.1) (EK.dflt (.sl (.int .u8))))
  (cond ((decide ((0 : Int) ≤ x.2.2.2.2.2.2.2.1)) && (decide (x.2.2.2.2.2.2.2.1 < (((List.length v10) : Nat) : Int))))
  ((cond (!(decide ((List.getD v6 (Int.toNat x.2.2.2.2.2.2.2.1) (EK.dflt (.int .u8))) = (xorF .u8 (List.getD v8 (Int.toNat x.2.2.2.2.2.2.2.1) (EK.dflt (.int .u8))) (List.getD v10 (Int.toNat x.2.2.2.2.2.2.2.1) (EK.dflt (.int .u8)))))))
  (some (.inl x.2.2.2.2.2.2.2.2))
  (next (x.1, x.2.1, x.2.2.1, x.2.2.2.1, x.2.2.2.2.1, x.2.2.2.2.2.1, x.2.2.2.2.2.2.1, (wrapF .i64 (x.2.2.2.2.2.2.2.1 + (1 : Int))), x.2.2.2.2.2.2.2.2))))
  none)))
  none))
  none)))
  none))
  none)))
  none)))
  none)
  (some (.inr (x.2.2.2.2.2.2.2.2)))))
  none)))
  none)
theorem granarylaw03_RsChanges_f6 (N : Nat) (f0 : Int × Int → Option ((Bool) ⊕ (Int × Int) ⊕ (Int × Int × (List Int)) ⊕ (Bool × Int × Int × Int × Int × (List Int)))) (f1 : Unit → Option (Bool)) (f2 : Int × (List Int) → Option ((List (List Int)))) (f3 : (List (List Int)) × Int × Int × (List Int) → Option (Int × Int × Int × (List Int) × (List (List Int)))) (f4 : Int → Option (Int)) (f5 : (List (List Int)) × Int × (List Int) × (List Int) × Int × Int × (List Int) → Option (Int × Int × Int × (List Int) × (List (List Int)))) (f6 : (List (List Int)) × (List (List Int)) → Option (Bool)) (f7 : (List (List Int)) → Option ((List (List Int)))) (f8 : Int × Int × (List (List Int)) × (List Int) × Int × Int × (List Int) → Option (Bool × Int × Int × (List Int))) (next) (x) : granarylaw03_RsChanges_a6 N f0 f1 f2 f3 f4 f5 f6 f7 f8 next x = loopStep Γ (granarylaw03_RsChanges_CA N f0 f1 f2 f3 f4 f5 f6 f7 f8) (granarylaw03_RsChanges_J N) 0 275 granarylaw03_RsChanges_d6 granarylaw03_RsChanges_c6 next x := by kernel_rfl
theorem granarylaw03_RsChanges_e6 (N : Nat) (next) (x) : granarylaw03_RsChanges_b6 N next x = loopStep Γ (granarylaw03_RsChanges_C N) (granarylaw03_RsChanges_J N) 0 275 granarylaw03_RsChanges_d6 granarylaw03_RsChanges_c6 next x := by
  rw [← granarylaw03_RsChanges_CE N]
  exact Eq.trans (by kernel_rfl) (granarylaw03_RsChanges_f6 N (granarylaw03_both N) (granarylaw03_live N) (granarylaw03_shards N) (rs_Code_Encode N) (granarylaw03_num) (rs_Code_Update_v2 N) (granaryref03_Same N) (granarylaw03_lent N) (granarylaw03_wrong N) next x)
theorem granarylaw03_RsChanges_k6 (N : Nat) : LoopOK Try.prog 275 granarylaw03_RsChanges_c6 ⟨granarylaw03_RsChanges_d6, loopF (granarylaw03_RsChanges_b6 N) N⟩ := loop_ok tabOK (granarylaw03_RsChanges_t N) mixedOK (J := granarylaw03_RsChanges_J N) (cx := 0) (body := granarylaw03_RsChanges_c6) (nt := 275) (l := granarylaw03_RsChanges_d6) (b := granarylaw03_RsChanges_b6 N) (jok_from granarylaw03_RsChanges_i6 ⟨trivial, trivial⟩) (granarylaw03_RsChanges_e6 N) N
theorem granarylaw03_RsChanges_i0 : loopsOf granarylaw03_RsChanges_c0 = [(2, granarylaw03_RsChanges_c2)] := by kernel_rfl
noncomputable def granarylaw03_RsChanges_a0 (N : Nat) (f0 : Int × Int → Option ((Bool) ⊕ (Int × Int) ⊕ (Int × Int × (List Int)) ⊕ (Bool × Int × Int × Int × Int × (List Int)))) (f1 : Unit → Option (Bool)) (f2 : Int × (List Int) → Option ((List (List Int)))) (f3 : (List (List Int)) × Int × Int × (List Int) → Option (Int × Int × Int × (List Int) × (List (List Int)))) (f4 : Int → Option (Int)) (f5 : (List (List Int)) × Int × (List Int) × (List Int) × Int × Int × (List Int) → Option (Int × Int × Int × (List Int) × (List (List Int)))) (f6 : (List (List Int)) × (List (List Int)) → Option (Bool)) (f7 : (List (List Int)) → Option ((List (List Int)))) (f8 : Int × Int × (List (List Int)) × (List Int) × Int × Int × (List Int) → Option (Bool × Int × Int × (List Int))) (next : Int × Int × (List Int) × (List (List Int)) × (List (List Int)) × (List (List Int)) × (List (List Int)) × Int × (List (List Int)) → Option (((List (List Int))))) (x : Int × Int × (List Int) × (List (List Int)) × (List (List Int)) × (List (List Int)) × (List (List Int)) × Int × (List (List Int))) : Option (((List (List Int)))) :=
  (cond (decide (x.2.2.2.2.2.2.2.1 < x.1))
  (cond ((decide ((0 : Int) ≤ x.2.2.2.2.2.2.2.1)) && (decide (x.2.2.2.2.2.2.2.1 < (((List.length x.2.2.2.1) : Nat) : Int))))
  ((let v3 : (List Int) := (List.getD x.2.2.2.1 (Int.toNat x.2.2.2.2.2.2.2.1) (EK.dflt (.sl (.int .u8))))
  (cond (fits 1 (List.length v3))
  ((Option.bind (granarylaw03_RsChanges_l2 N (x.1, x.2.1, x.2.2.1, x.2.2.2.1, x.2.2.2.2.1, x.2.2.2.2.2.1, x.2.2.2.2.2.2.1, x.2.2.2.2.2.2.2.1, (0 : Int), v3)) fun r4 =>
  (let v5 : List (List Int) := ([r4] : List (List Int))
  (cond (fits 24 ((List.length x.2.2.2.2.2.2.2.2) + (List.length v5)))
  ((next (x.1, x.2.1, x.2.2.1, x.2.2.2.1, x.2.2.2.2.1, x.2.2.2.2.2.1, x.2.2.2.2.2.2.1, (wrapF .i64 (x.2.2.2.2.2.2.2.1 + (1 : Int))), (x.2.2.2.2.2.2.2.2 ++ v5))))
  none))))
  none)))
  none)
  (some x.2.2.2.2.2.2.2.2))
theorem granarylaw03_RsChanges_f0 (N : Nat) (f0 : Int × Int → Option ((Bool) ⊕ (Int × Int) ⊕ (Int × Int × (List Int)) ⊕ (Bool × Int × Int × Int × Int × (List Int)))) (f1 : Unit → Option (Bool)) (f2 : Int × (List Int) → Option ((List (List Int)))) (f3 : (List (List Int)) × Int × Int × (List Int) → Option (Int × Int × Int × (List Int) × (List (List Int)))) (f4 : Int → Option (Int)) (f5 : (List (List Int)) × Int × (List Int) × (List Int) × Int × Int × (List Int) → Option (Int × Int × Int × (List Int) × (List (List Int)))) (f6 : (List (List Int)) × (List (List Int)) → Option (Bool)) (f7 : (List (List Int)) → Option ((List (List Int)))) (f8 : Int × Int × (List (List Int)) × (List Int) × Int × Int × (List Int) → Option (Bool × Int × Int × (List Int))) (next) (x) : granarylaw03_RsChanges_a0 N f0 f1 f2 f3 f4 f5 f6 f7 f8 next x = loopStep Γ (granarylaw03_RsChanges_CA N f0 f1 f2 f3 f4 f5 f6 f7 f8) (granarylaw03_RsChanges_J N) 0 275 granarylaw03_RsChanges_d0 granarylaw03_RsChanges_c0 next x := by kernel_rfl
theorem granarylaw03_RsChanges_e0 (N : Nat) (next) (x) : granarylaw03_RsChanges_b0 N next x = loopStep Γ (granarylaw03_RsChanges_C N) (granarylaw03_RsChanges_J N) 0 275 granarylaw03_RsChanges_d0 granarylaw03_RsChanges_c0 next x := by
  rw [← granarylaw03_RsChanges_CE N]
  exact Eq.trans (by kernel_rfl) (granarylaw03_RsChanges_f0 N (granarylaw03_both N) (granarylaw03_live N) (granarylaw03_shards N) (rs_Code_Encode N) (granarylaw03_num) (rs_Code_Update_v2 N) (granaryref03_Same N) (granarylaw03_lent N) (granarylaw03_wrong N) next x)
theorem granarylaw03_RsChanges_k0 (N : Nat) : LoopOK Try.prog 275 granarylaw03_RsChanges_c0 ⟨granarylaw03_RsChanges_d0, loopF (granarylaw03_RsChanges_b0 N) N⟩ := loop_ok tabOK (granarylaw03_RsChanges_t N) mixedOK (J := granarylaw03_RsChanges_J N) (cx := 0) (body := granarylaw03_RsChanges_c0) (nt := 275) (l := granarylaw03_RsChanges_d0) (b := granarylaw03_RsChanges_b0 N) (jok_from granarylaw03_RsChanges_i0 ⟨⟨.inr ⟨_, rfl, granarylaw03_RsChanges_k2 N⟩, trivial⟩, trivial⟩) (granarylaw03_RsChanges_e0 N) N
theorem granarylaw03_RsChanges_i4 : loopsOf granarylaw03_RsChanges_c4 = [(6, granarylaw03_RsChanges_c6)] := by kernel_rfl
noncomputable def granarylaw03_RsChanges_a4 (N : Nat) (f0 : Int × Int → Option ((Bool) ⊕ (Int × Int) ⊕ (Int × Int × (List Int)) ⊕ (Bool × Int × Int × Int × Int × (List Int)))) (f1 : Unit → Option (Bool)) (f2 : Int × (List Int) → Option ((List (List Int)))) (f3 : (List (List Int)) × Int × Int × (List Int) → Option (Int × Int × Int × (List Int) × (List (List Int)))) (f4 : Int → Option (Int)) (f5 : (List (List Int)) × Int × (List Int) × (List Int) × Int × Int × (List Int) → Option (Int × Int × Int × (List Int) × (List (List Int)))) (f6 : (List (List Int)) × (List (List Int)) → Option (Bool)) (f7 : (List (List Int)) → Option ((List (List Int)))) (f8 : Int × Int × (List (List Int)) × (List Int) × Int × Int × (List Int) → Option (Bool × Int × Int × (List Int))) (next : Int × Int × (List Int) × (List (List Int)) × (List (List Int)) × (List (List Int)) × Int × (List (List Int)) → Option (((List (List Int))) ⊕ ((List (List Int))))) (x : Int × Int × (List Int) × (List (List Int)) × (List (List Int)) × (List (List Int)) × Int × (List (List Int))) : Option (((List (List Int))) ⊕ ((List (List Int)))) :=
  (cond (decide (x.2.2.2.2.2.2.1 < x.2.1))
  (Option.bind (granarylaw03_RsChanges_l6 N (x.1, x.2.1, x.2.2.1, x.2.2.2.1, x.2.2.2.2.1, x.2.2.2.2.2.1, x.2.2.2.2.2.2.1, (0 : Int), x.2.2.2.2.2.2.2)) fun r2 =>
  (match r2 with
  | .inl y3 =>
  (some (.inl y3))
  | .inr z4 =>
  (next (x.1, x.2.1, x.2.2.1, x.2.2.2.1, x.2.2.2.2.1, x.2.2.2.2.2.1, (wrapF .i64 (x.2.2.2.2.2.2.1 + (1 : Int))), z4))))
  (some (.inr (x.2.2.2.2.2.2.2))))
theorem granarylaw03_RsChanges_f4 (N : Nat) (f0 : Int × Int → Option ((Bool) ⊕ (Int × Int) ⊕ (Int × Int × (List Int)) ⊕ (Bool × Int × Int × Int × Int × (List Int)))) (f1 : Unit → Option (Bool)) (f2 : Int × (List Int) → Option ((List (List Int)))) (f3 : (List (List Int)) × Int × Int × (List Int) → Option (Int × Int × Int × (List Int) × (List (List Int)))) (f4 : Int → Option (Int)) (f5 : (List (List Int)) × Int × (List Int) × (List Int) × Int × Int × (List Int) → Option (Int × Int × Int × (List Int) × (List (List Int)))) (f6 : (List (List Int)) × (List (List Int)) → Option (Bool)) (f7 : (List (List Int)) → Option ((List (List Int)))) (f8 : Int × Int × (List (List Int)) × (List Int) × Int × Int × (List Int) → Option (Bool × Int × Int × (List Int))) (next) (x) : granarylaw03_RsChanges_a4 N f0 f1 f2 f3 f4 f5 f6 f7 f8 next x = loopStep Γ (granarylaw03_RsChanges_CA N f0 f1 f2 f3 f4 f5 f6 f7 f8) (granarylaw03_RsChanges_J N) 0 275 granarylaw03_RsChanges_d4 granarylaw03_RsChanges_c4 next x := by kernel_rfl
theorem granarylaw03_RsChanges_e4 (N : Nat) (next) (x) : granarylaw03_RsChanges_b4 N next x = loopStep Γ (granarylaw03_RsChanges_C N) (granarylaw03_RsChanges_J N) 0 275 granarylaw03_RsChanges_d4 granarylaw03_RsChanges_c4 next x := by
  rw [← granarylaw03_RsChanges_CE N]
  exact Eq.trans (by kernel_rfl) (granarylaw03_RsChanges_f4 N (granarylaw03_both N) (granarylaw03_live N) (granarylaw03_shards N) (rs_Code_Encode N) (granarylaw03_num) (rs_Code_Update_v2 N) (granaryref03_Same N) (granarylaw03_lent N) (granarylaw03_wrong N) next x)
theorem granarylaw03_RsChanges_k4 (N : Nat) : LoopOK Try.prog 275 granarylaw03_RsChanges_c4 ⟨granarylaw03_RsChanges_d4, loopF (granarylaw03_RsChanges_b4 N) N⟩ := loop_ok tabOK (granarylaw03_RsChanges_t N) mixedOK (J := granarylaw03_RsChanges_J N) (cx := 0) (body := granarylaw03_RsChanges_c4) (nt := 275) (l := granarylaw03_RsChanges_d4) (b := granarylaw03_RsChanges_b4 N) (jok_from granarylaw03_RsChanges_i4 ⟨⟨.inr ⟨_, rfl, granarylaw03_RsChanges_k6 N⟩, trivial⟩, trivial⟩) (granarylaw03_RsChanges_e4 N) N
theorem granarylaw03_RsChanges_i : loopsOf granarylaw03_RsChanges_c = [(0, granarylaw03_RsChanges_c0), (2, granarylaw03_RsChanges_c2), (4, granarylaw03_RsChanges_c4), (6, granarylaw03_RsChanges_c6)] := by kernel_rfl
noncomputable def granarylaw03_RsChanges_a (N : Nat) (f0 : Int × Int → Option ((Bool) ⊕ (Int × Int) ⊕ (Int × Int × (List Int)) ⊕ (Bool × Int × Int × Int × Int × (List Int)))) (f1 : Unit → Option (Bool)) (f2 : Int × (List Int) → Option ((List (List Int)))) (f3 : (List (List Int)) × Int × Int × (List Int) → Option (Int × Int × Int × (List Int) × (List (List Int)))) (f4 : Int → Option (Int)) (f5 : (List (List Int)) × Int × (List Int) × (List Int) × Int × Int × (List Int) → Option (Int × Int × Int × (List Int) × (List (List Int)))) (f6 : (List (List Int)) × (List (List Int)) → Option (Bool)) (f7 : (List (List Int)) → Option ((List (List Int)))) (f8 : Int × Int × (List (List Int)) × (List Int) × Int × Int × (List Int) → Option (Bool × Int × Int × (List Int))) (x : Int × Int × (List Int) × (List Int) × Int × (List Int)) : Option (Bool) :=
  (Option.bind (f0 (x.1, x.2.1)) fun r1 =>
  (match r1 with
  | .inl y2 =>
  (cond (!y2)
  (cond y2
  (Option.bind (f1 ()) fun r5 =>
  (some r5))
  (some false))
  (cond (decide ((9000 : Int) < (((List.length x.2.2.1) : Nat) : Int)))
  (cond y2
  (Option.bind (f1 ()) fun r8 =>
  (some r8))
  (some false))
  (cond (decide ((((List.length x.2.2.2.1) : Nat) : Int) < (((List.length x.2.2.1) : Nat) : Int)))
  (cond y2
  (Option.bind (f1 ()) fun r12 =>
  (some r12))
  (some false))
  (cond (decide ((9000 : Int) < (((List.length x.2.2.2.1) : Nat) : Int)))
  (cond y2
  (Option.bind (f1 ()) fun r15 =>
  (some r15))
  (some false))
  (cond (decide ((30 : Int) < (((List.length x.2.2.2.2.2) : Nat) : Int)))
  (cond y2
  (Option.bind (f1 ()) fun r18 =>
  (some r18))
  (some false))
  (cond y2
  (Option.bind (f1 ()) fun r19 =>
  (some r19))
  (some false)))))))
  | .inr z3 =>
  (match z3 with
  | .inl y20 =>
  (some false)
  | .inr z21 =>
  (match z21 with
  | .inl y22 =>
  (some false)
  | .inr z23 =>
  (cond (!z23.1)
  (cond z23.1
  (Option.bind (f1 ()) fun r25 =>
  (some r25))
  (some false))
  (cond (decide ((9000 : Int) < (((List.length x.2.2.1) : Nat) : Int)))
  (cond z23.1
  (Option.bind (f1 ()) fun r28 =>
  (some r28))
  (some false))
  (cond (decide ((((List.length x.2.2.2.1) : Nat) : Int) < (((List.length x.2.2.1) : Nat) : Int)))
  (cond z23.1
  (Option.bind (f1 ()) fun r32 =>
  (some r32))
  (some false))
  (cond (decide ((9000 : Int) < (((List.length x.2.2.2.1) : Nat) : Int)))
  (cond z23.1
  (Option.bind (f1 ()) fun r35 =>
  (some r35))
  (some false))
  (cond (decide ((30 : Int) < (((List.length x.2.2.2.2.2) : Nat) : Int)))
  (cond z23.1
  (Option.bind (f1 ()) fun r38 =>
  (some r38))
  (some false))
  (cond (decide (x.2.2.2.2.1 < (0 : Int)))
  (cond z23.1
  (Option.bind (f1 ()) fun r40 =>
  (some r40))
  (some false))
  (Option.bind (f2 (x.1, x.2.2.1)) fun r41 =>
  (let v42 : Int := (((List.length x.2.2.1) : Nat) : Int)
  (cond ((decide ((0 : Int) ≤ v42)) && (decide (v42 ≤ (((List.length x.2.2.2.1) : Nat) : Int))))
  ((Option.bind (f2 (x.1, (List.take (Int.toNat v42) (List.drop 0 x.2.2.2.1)))) fun r44 =>
  (Option.bind (f3 (r41, z23.2.1, z23.2.2.1, z23.2.2.2.2.2)) fun r45 =>
  (Option.bind (f3 (r44, r45.2.1, r45.2.2.1, r45.2.2.2.1)) fun r46 =>
  (Option.bind
  (Option.bind (f4 r45.1) fun r47 =>
  (cond (!(decide (r47 = (0 : Int))))
  (some true)
  (Option.bind (f4 r46.1) fun r49 =>
  (some (!(decide (r49 = (0 : Int))))))))
  fun r51 =>
  (cond r51
  (Option.bind
  (cond (decide ((0 : Int) < (((List.length r41) : Nat) : Int)))
  ((cond (decide ((4096 : Int) < (((List.length (List.getD r41 0 (EK.dflt (.sl (.int .u8))))) : Nat) : Int)))
  (Option.bind (f1 ()) fun r55 =>
  (some r55))
  (some false)))
  none)
  fun r56 =>
  (some r56))
  (cond (!(decide (x.1 = (0 : Int))))
  ((let v57 : Int := (Int.tmod x.2.2.2.2.1 x.1)
  (cond ((decide ((0 : Int) ≤ v57)) && (decide (v57 < (((List.length r41) : Nat) : Int))))
  ((cond ((decide ((0 : Int) ≤ v57)) && (decide (v57 < (((List.length r44) : Nat) : Int))))
  ((Option.bind (f5 (r45.2.2.2.2, v57, (List.getD r41 (Int.toNat v57) (EK.dflt (.sl (.int .u8)))), (List.getD r44 (Int.toNat v57) (EK.dflt (.sl (.int .u8)))), r46.2.1, r46.2.2.1, r46.2.2.2.1)) fun r60 =>
  (cond (fits 24 (List.length r41))
  ((cond ((decide ((0 : Int) ≤ v57)) && (decide (v57 < (((List.length r44) : Nat) : Int))))
  ((cond ((decide ((0 : Int) ≤ v57)) && (decide (v57 < (((List.length r41) : Nat) : Int))))
  ((let v63 : Nat := (Int.toNat v57)
  (cond (decide (v63 < (List.length r41)))
  ((Option.bind (f3 ((List.set r41 v63 (List.getD r44 (Int.toNat v57) (EK.dflt (.sl (.int .u8))))), r60.2.1, r60.2.2.1, r60.2.2.2.1)) fun r65 =>
  (Option.bind
  (Option.bind (f4 r60.1) fun r66 =>
  (cond (!(decide (r66 = (0 : Int))))
  (some true)
  (Option.bind (f4 r65.1) fun r68 =>
  (cond (!(decide (r68 = (0 : Int))))
  (some true)
  (Option.bind (f6 (r60.2.2.2.2, r65.2.2.2.2)) fun r70 =>
  (some (!r70)))))))
  fun r72 =>
  (cond r72
  (some false)
  (Option.bind (granarylaw03_RsChanges_l0 N (x.1, x.2.1, x.2.2.2.2.2, r41, r44, r45.2.2.2.2, r46.2.2.2.2, (0 : Int), ([] : List (List Int)))) fun r73 =>
  (Option.bind (f3 (r73, r65.2.1, r65.2.2.1, r65.2.2.2.1)) fun r74 =>
  (Option.bind
  (Option.bind (f4 r74.1) fun r75 =>
  (cond (!(decide (r75 = (0 : Int))))
  (some true)
  (cond (!(decide ((((List.length r74.2.2.2.2) : Nat) : Int) = x.2.1)))
  (some true)
  (cond (!(decide ((((List.length r45.2.2.2.2) : Nat) : Int) = x.2.1)))
  (some true)
  (some (!(decide ((((List.length r46.2.2.2.2) : Nat) : Int) = x.2.1))))))))
  fun r83 =>
  (cond r83
  (some false)
  (Option.bind (granarylaw03_RsChanges_l4 N (x.1, x.2.1, x.2.2.2.2.2, r41, r45.2.2.2.2, r46.2.2.2.2, (0 : Int), r74.2.2.2.2)) fun r84 =>
  (match r84 with
  | .inl y85 =>
  (some false)
  | .inr z86 =>
  (Option.bind
  (Option.bind (f7 r41) fun r87 =>
  (cond (fits 24 ((List.length r87) + (List.length r45.2.2.2.2)))
  ((Option.bind (f8 (x.1, x.2.1, (r87 ++ r45.2.2.2.2), x.2.2.2.2.2, r74.2.1, r74.2.2.1, r74.2.2.2.1)) fun r89 =>
  (cond r89.1
  (Option.bind (f1 ()) fun r90 =>
  (some (r90, r89.2.1, r89.2.2.1, r89.2.2.2)))
  (some (false, r89.2.1, r89.2.2.1, r89.2.2.2)))))
  none))
  fun r91 =>
  (some r91.1))))))))))))
  none)))
  none))
  none))
  none)))
  none))
  none)))
  none)))))))
  none)))))))))))))
theorem granarylaw03_RsChanges_f (N : Nat) (f0 : Int × Int → Option ((Bool) ⊕ (Int × Int) ⊕ (Int × Int × (List Int)) ⊕ (Bool × Int × Int × Int × Int × (List Int)))) (f1 : Unit → Option (Bool)) (f2 : Int × (List Int) → Option ((List (List Int)))) (f3 : (List (List Int)) × Int × Int × (List Int) → Option (Int × Int × Int × (List Int) × (List (List Int)))) (f4 : Int → Option (Int)) (f5 : (List (List Int)) × Int × (List Int) × (List Int) × Int × Int × (List Int) → Option (Int × Int × Int × (List Int) × (List (List Int)))) (f6 : (List (List Int)) × (List (List Int)) → Option (Bool)) (f7 : (List (List Int)) → Option ((List (List Int)))) (f8 : Int × Int × (List (List Int)) × (List Int) × Int × Int × (List Int) → Option (Bool × Int × Int × (List Int))) (x) : granarylaw03_RsChanges_a N f0 f1 f2 f3 f4 f5 f6 f7 f8 x = fnStep Γ (granarylaw03_RsChanges_CA N f0 f1 f2 f3 f4 f5 f6 f7 f8) (granarylaw03_RsChanges_J N) 275 Try.f9.results.toList (granarylaw03_RsChanges_g N) granarylaw03_RsChanges_o granarylaw03_RsChanges_c x := by kernel_rfl
theorem granarylaw03_RsChanges_e (N : Nat) (x) : (granarylaw03_RsChanges_g N).F x = fnStep Γ (granarylaw03_RsChanges_C N) (granarylaw03_RsChanges_J N) 275 Try.f9.results.toList (granarylaw03_RsChanges_g N) granarylaw03_RsChanges_o granarylaw03_RsChanges_c x := by
  rw [← granarylaw03_RsChanges_CE N]
  exact Eq.trans (by kernel_rfl) (granarylaw03_RsChanges_f N (granarylaw03_both N) (granarylaw03_live N) (granarylaw03_shards N) (rs_Code_Encode N) (granarylaw03_num) (rs_Code_Update_v2 N) (granaryref03_Same N) (granarylaw03_lent N) (granarylaw03_wrong N) x)
theorem granarylaw03_RsChanges_y : Try.f9.body = some granarylaw03_RsChanges_c := by kernel_rfl
theorem granarylaw03_RsChanges_n : (Try.f9.name == "runtime.NumGoroutine") = false := by kernel_rfl
theorem granarylaw03_RsChanges_ok (N : Nat) : FnDoes Try.prog 9 (granarylaw03_RsChanges_g N) := fn_ok tabOK (granarylaw03_RsChanges_t N) mixedOK (J := granarylaw03_RsChanges_J N) (body := granarylaw03_RsChanges_c) Try.func9 granarylaw03_RsChanges_y granarylaw03_RsChanges_n Try.ntmps9 (jok_from granarylaw03_RsChanges_i ⟨⟨.inr ⟨_, rfl, granarylaw03_RsChanges_k0 N⟩, .inr ⟨_, rfl, granarylaw03_RsChanges_k2 N⟩, .inr ⟨_, rfl, granarylaw03_RsChanges_k4 N⟩, .inr ⟨_, rfl, granarylaw03_RsChanges_k6 N⟩, trivial⟩, trivial⟩) rfl rfl (le_of_ble rfl) (granarylaw03_RsChanges_e N)
end Go.Rf.W
