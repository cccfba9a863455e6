/-
  The law's printed function is what the program does.
-/
import Derived.Test.YtoabbnfjnjbjfaaRsK1
import Derived.Test.YtoabbnfjnjbjfaaRsFRsAny
set_option linter.unusedVariables false
set_option maxRecDepth 100000
namespace Go.Rf.W
open Go Go.Rf Go.Proofs
noncomputable def granarylaw03_RsAny_c : Code := codeOf Try.f6.body
noncomputable def granarylaw03_RsAny_c0 : Code := codeOf (getLoop 0 granarylaw03_RsAny_c)
noncomputable def granarylaw03_RsAny_c2 : Code := codeOf (getLoop 2 granarylaw03_RsAny_c)
def granarylaw03_RsAny_d0 : LD := { ins := ⟨[(0, (.av (.one (.int .i64)))), (1, (.av (.one (.int .i64)))), (3, (.av (.one (.rsl (.int .i64))))), (9, (.av (.one (.const (.ptr ⟨0, 0, 0, 0⟩))))), (15, (.av (.one (.rsl (.sl (.int .u8)))))), (16, (.av (.one (.const (.slw 11 1))))), (17, (.av (.one (.const (.slw 12 1))))), (18, (.av (.one (.int .i64))))], [(.keep, false), (.keep, false), (.keep, false), (.keep, false), (.keep, false), (.keep, false), (.keep, false), (.keep, false), (.keep, false), (.keep, false), (.keep, false), (.keep, false), (.sh (.arr .bool none), false)]⟩, mov := [], wr := [12], outs := [(.exit 0, ⟨[], [(.keep, false), (.keep, false), (.keep, false), (.keep, false), (.keep, false), (.keep, false), (.keep, false), (.keep, false), (.keep, false), (.keep, false), (.keep, false), (.keep, false), (.sh (.arr .bool none), false)]⟩)], its := [.int, .int, .lst (.int .i64), .lst (.sl (.int .u8)), .int, .lst .bool], ots := [[.lst .bool]] }
def granarylaw03_RsAny_d2 : LD := { ins := ⟨[(0, (.av (.one (.int .i64)))), (1, (.av (.one (.int .i64)))), (3, (.av (.one (.rsl (.int .i64))))), (9, (.av (.one (.const (.ptr ⟨0, 0, 0, 0⟩))))), (15, (.av (.one (.rsl (.sl (.int .u8)))))), (16, (.av (.one (.const (.slw 11 1))))), (17, (.av (.one (.const (.slw 12 1))))), (19, (.av (.one (.int .i64)))), (20, (.av (.one (.int .i64))))], [(.keep, false), (.keep, false), (.keep, false), (.keep, false), (.keep, false), (.keep, false), (.keep, false), (.keep, false), (.keep, false), (.keep, false), (.keep, false), (.sh (.arr (.sl (.int .u8)) none), false), (.sh (.arr .bool none), false)]⟩, mov := [], wr := [11, 12], outs := [(.exit 2, ⟨[], [(.keep, false), (.keep, false), (.keep, false), (.keep, false), (.keep, false), (.keep, false), (.keep, false), (.keep, false), (.keep, false), (.keep, false), (.keep, false), (.sh (.arr (.sl (.int .u8)) none), false), (.sh (.arr .bool none), false)]⟩)], its := [.int, .int, .lst (.int .i64), .lst (.sl (.int .u8)), .int, .int, .lst (.sl (.int .u8)), .lst .bool], ots := [[.lst (.sl (.int .u8)), .lst .bool]] }
noncomputable def granarylaw03_RsAny_J (N : Nat) : Nat → Hint := fun cx => hintOf cx [(0, { reg := fun k => assoc0 k [(6, ⟨⟨[(70, (.av (.one .bool)))], [(.keep, true), (.keep, true), (.keep, false), (.keep, true), (.keep, false), (.keep, false), (.dead, false), (.keep, false)]⟩, [], [], [.bool]⟩), (7, ⟨⟨[(8, (.av (.one .bool)))], [(.keep, true), (.keep, true), (.keep, false), (.keep, true), (.keep, false), (.keep, false), (.dead, false), (.keep, false)]⟩, [], [], [.bool]⟩), (17, ⟨⟨[(107, (.av (.one .bool)))], [(.dead, false), (.dead, false), (.dead, false), (.dead, false), (.dead, false), (.dead, false), (.dead, false), (.dead, false), (.dead, false), (.dead, false), (.dead, false), (.keep, false), (.keep, false)]⟩, [], [], [.bool]⟩), (28, ⟨⟨[(8, (.av (.one .bool)))], [(.keep, true), (.keep, true), (.keep, false), (.keep, true), (.keep, false), (.keep, false), (.dead, false), (.keep, false), (.keep, false), (.dead, false), (.dead, false), (.dead, false), (.dead, false), (.keep, false)]⟩, [], [], [.bool]⟩)], cnd := fun k => assoc0 k [(119, ⟨[], [], [(.normal, ⟨[(21, (.av (.one (.int .i64))))], [(.dead, false), (.dead, false), (.dead, false), (.dead, false), (.dead, false), (.dead, false), (.dead, false), (.dead, false), (.dead, false), (.dead, false), (.dead, false), (.keep, false), (.keep, false)]⟩)], [[.int]]⟩), (128, ⟨[], [11, 12], [(.normal, ⟨[(19, (.av (.one (.int .i64))))], [(.dead, false), (.dead, false), (.dead, false), (.dead, false), (.dead, false), (.dead, false), (.dead, false), (.dead, false), (.dead, false), (.dead, false), (.dead, false), (.sh (.arr (.sl (.int .u8)) none), false), (.sh (.arr .bool none), false)]⟩)], [[.int, .lst (.sl (.int .u8)), .lst .bool]]⟩)], loop := fun k => assoc0 k [(0, ⟨granarylaw03_RsAny_d0, loopF (granarylaw03_RsAny_b0 N) N⟩), (2, ⟨granarylaw03_RsAny_d2, loopF (granarylaw03_RsAny_b2 N) N⟩)], nil := fun k => assoc0 k [(12, (.sl (.int .u8))), (15, (.sl (.int .u8))), (59, (.arr 2 .unit)), (143, (.arr 6 .unit))], unr := fun k => assocN k [], blk := fun k => assoc0 k [] })]
noncomputable def granarylaw03_RsAny_C (N : Nat) : Nat → List GS := fun k => tabOf k [(11, [granarylaw03_both_g N]), (13, [granarylaw03_live_g N]), (28, [granarylaw03_shards_g N]), (24, [rs_Code_Encode_g N]), (18, [granarylaw03_num_g N]), (14, [granarylaw03_lent_g N]), (15, [rs_Code_Rebuild_g N]), (26, [rs_Code_Check_v1_g N]), (17, [granaryref03_Same_v1_g N])]
def granarylaw03_RsAny_o : List (Shp × List Nat) := [(⟨[(0, (.av (.one .bool)))], []⟩, [])]
noncomputable def granarylaw03_RsAny_g (N : Nat) : GS := { ins := ⟨[(0, (.av (.one (.int .i64)))), (1, (.av (.one (.int .i64)))), (2, (.av (.one (.rsl (.int .u8))))), (3, (.av (.one (.rsl (.int .i64)))))], []⟩, lend := [.keep, .keep, .keep, .keep], outs := granarylaw03_RsAny_o.map fun s => ssOf s.1, its := [.int, .int, .lst (.int .u8), .lst (.int .i64)], ots := [[.bool]], F := granarylaw03_RsAny N }
noncomputable def granarylaw03_RsAny_CA (N : Nat) (f0 : Int × Int → Option ((Bool) ⊕ (Int × Int) ⊕ (Int × Int × (List Int)) ⊕ (Bool × Int × Int × Int × Int × (List Int)))) (f1 : Unit → Option (Bool)) (f2 : Int × (List Int) → Option ((List (List Int)))) (f3 : (List (List Int)) × Int × Int × (List Int) → Option (Int × Int × Int × (List Int) × (List (List Int)))) (f4 : Int → Option (Int)) (f5 : (List (List Int)) → Option ((List (List Int)))) (f6 : (List (List Int)) × (List Bool) × Int × Int × (List Int) → Option (Int × Int × Int × (List Int) × (List (List Int)))) (f7 : (List (List Int)) × Int × Int × (List Int) → Option (Bool × Int × Int × Int × (List Int))) (f8 : (List (List Int)) × (List (List Int)) → Option (Bool)) : Nat → List GS := fun k => tabOf k [(11, [{ granarylaw03_both_g N with F := f0 }]), (13, [{ granarylaw03_live_g N with F := f1 }]), (28, [{ granarylaw03_shards_g N with F := f2 }]), (24, [{ rs_Code_Encode_g N with F := f3 }]), (18, [{ granarylaw03_num_g N with F := f4 }]), (14, [{ granarylaw03_lent_g N with F := f5 }]), (15, [{ rs_Code_Rebuild_g N with F := f6 }]), (26, [{ rs_Code_Check_v1_g N with F := f7 }]), (17, [{ granaryref03_Same_v1_g N with F := f8 }])]
theorem granarylaw03_RsAny_CE (N : Nat) : granarylaw03_RsAny_CA N (granarylaw03_both N) (granarylaw03_live N) (granarylaw03_shards N) (rs_Code_Encode N) (granarylaw03_num) (granarylaw03_lent N) (rs_Code_Rebuild N) (rs_Code_Check_v1 N) (granaryref03_Same_v1 N) = granarylaw03_RsAny_C N := by kernel_rfl
theorem granarylaw03_RsAny_t (N : Nat) : TabC Try.prog (granarylaw03_RsAny_C N) := tab_ok ⟨⟨granarylaw03_both_ok N, trivial⟩, ⟨granarylaw03_live_ok N, trivial⟩, ⟨granarylaw03_shards_ok N, trivial⟩, ⟨rs_Code_Encode_ok N, trivial⟩, ⟨granarylaw03_num_ok N, trivial⟩, ⟨granarylaw03_lent_ok N, trivial⟩, ⟨rs_Code_Rebuild_ok N, trivial⟩, ⟨rs_Code_Check_v1_ok N, trivial⟩, ⟨granaryref03_Same_v1_ok N, trivial⟩, trivial⟩
theorem granarylaw03_RsAny_i0 : loopsOf granarylaw03_RsAny_c0 = [] := by kernel_rfl
noncomputable def granarylaw03_RsAny_a0 (N : Nat) (f0 : Int × Int → Option ((Bool) ⊕ (Int × Int) ⊕ (Int × Int × (List Int)) ⊕ (Bool × Int × Int × Int × Int × (List Int)))) (f1 : Unit → Option (Bool)) (f2 : Int × (List Int) → Option ((List (List Int)))) (f3 : (List (List Int)) × Int × Int × (List Int) → Option (Int × Int × Int × (List Int) × (List (List Int)))) (f4 : Int → Option (Int)) (f5 : (List (List Int)) → Option ((List (List Int)))) (f6 : (List (List Int)) × (List Bool) × Int × Int × (List Int) → Option (Int × Int × Int × (List Int) × (List (List Int)))) (f7 : (List (List Int)) × Int × Int × (List Int) → Option (Bool × Int × Int × Int × (List Int))) (f8 : (List (List Int)) × (List (List Int)) → Option (Bool)) (next : Int × Int × (List Int) × (List (List Int)) × Int × (List Bool) → Option (((List Bool)))) (x : Int × Int × (List Int) × (List (List Int)) × Int × (List Bool)) : Option (((List Bool))) :=
  (cond (decide (x.2.2.2.2.1 < (((List.length x.2.2.2.2.2) : Nat) : Int)))
  (cond ((decide ((0 : Int) ≤ x.2.2.2.2.1)) && (decide (x.2.2.2.2.1 < (((List.length x.2.2.2.2.2) : Nat) : Int))))
  ((let v3 : Nat := (Int.toNat x.2.2.2.2.1)
  (cond (decide (v3 < (List.length x.2.2.2.2.2)))
  ((next (x.1, x.2.1, x.2.2.1, x.2.2.2.1, (wrapF .i64 (x.2.2.2.2.1 + (1 : Int))), (List.set x.2.2.2.2.2 v3 true))))
  none)))
  none)
  (some x.2.2.2.2.2))
theorem granarylaw03_RsAny_f0 (N : Nat) (f0 : Int × Int → Option ((Bool) ⊕ (Int × Int) ⊕ (Int × Int × (List Int)) ⊕ (Bool × Int × Int × Int × Int × (List Int)))) (f1 : Unit → Option (Bool)) (f2 : Int × (List Int) → Option ((List (List Int)))) (f3 : (List (List Int)) × Int × Int × (List Int) → Option (Int × Int × Int × (List Int) × (List (List Int)))) (f4 : Int → Option (Int)) (f5 : (List (List Int)) → Option ((List (List Int)))) (f6 : (List (List Int)) × (List Bool) × Int × Int × (List Int) → Option (Int × Int × Int × (List Int) × (List (List Int)))) (f7 : (List (List Int)) × Int × Int × (List Int) → Option (Bool × Int × Int × Int × (List Int))) (f8 : (List (List Int)) × (List (List Int)) → Option (Bool)) (next) (x) : granarylaw03_RsAny_a0 N f0 f1 f2 f3 f4 f5 f6 f7 f8 next x = loopStep Γ (granarylaw03_RsAny_CA N f0 f1 f2 f3 f4 f5 f6 f7 f8) (granarylaw03_RsAny_J N) 0 171 granarylaw03_RsAny_d0 granarylaw03_RsAny_c0 next x := by kernel_rfl
theorem granarylaw03_RsAny_e0 (N : Nat) (next) (x) : granarylaw03_RsAny_b0 N next x = loopStep Γ (granarylaw03_RsAny_C N) (granarylaw03_RsAny_J N) 0 171 granarylaw03_RsAny_d0 granarylaw03_RsAny_c0 next x := by
  rw [← granarylaw03_RsAny_CE N]
  exact Eq.trans (by kernel_rfl) (granarylaw03_RsAny_f0 N (granarylaw03_both N) (granarylaw03_live N) (granarylaw03_shards N) (rs_Code_Encode N) (granarylaw03_num) (granarylaw03_lent N) (rs_Code_Rebuild N) (rs_Code_Check_v1 N) (granaryref03_Same_v1 N) next x)
theorem granarylaw03_RsAny_k0 (N : Nat) : LoopOK Try.prog 171 granarylaw03_RsAny_c0 ⟨granarylaw03_RsAny_d0, loopF (granarylaw03_RsAny_b0 N) N⟩ := loop_ok tabOK (granarylaw03_RsAny_t N) mixedOK (J := granarylaw03_RsAny_J N) (cx := 0) (body := granarylaw03_RsAny_c0) (nt := 171) (l := granarylaw03_RsAny_d0) (b := granarylaw03_RsAny_b0 N) (jok_from granarylaw03_RsAny_i0 ⟨trivial, trivial⟩) (granarylaw03_RsAny_e0 N) N
theorem granarylaw03_RsAny_i2 : loopsOf granarylaw03_RsAny_c2 = [] := by kernel_rfl
noncomputable def granarylaw03_RsAny_a2 (N : Nat) (f0 : Int × Int → Option ((Bool) ⊕ (Int × Int) ⊕ (Int × Int × (List Int)) ⊕ (Bool × Int × Int × Int × Int × (List Int)))) (f1 : Unit → Option (Bool)) (f2 : Int × (List Int) → Option ((List (List Int)))) (f3 : (List (List Int)) × Int × Int × (List Int) → Option (Int × Int × Int × (List Int) × (List (List Int)))) (f4 : Int → Option (Int)) (f5 : (List (List Int)) → Option ((List (List Int)))) (f6 : (List (List Int)) × (List Bool) × Int × Int × (List Int) → Option (Int × Int × Int × (List Int) × (List (List Int)))) (f7 : (List (List Int)) × Int × Int × (List Int) → Option (Bool × Int × Int × Int × (List Int))) (f8 : (List (List Int)) × (List (List Int)) → Option (Bool)) (next : Int × Int × (List Int) × (List (List Int)) × Int × Int × (List (List Int)) × (List Bool) → Option (((List (List Int)) × (List Bool)))) (x : Int × Int × (List Int) × (List (List Int)) × Int × Int × (List (List Int)) × (List Bool)) : Option (((List (List Int)) × (List Bool))) :=
  (Option.bind
  (cond (decide (x.2.2.2.2.2.1 < (((List.length x.2.2.1) : Nat) : Int)))
  (some (decide (x.2.2.2.2.1 < x.2.1)))
  (some false))
  fun r4 =>
  (cond r4
  (cond ((decide ((0 : Int) ≤ x.2.2.2.2.2.1)) && (decide (x.2.2.2.2.2.1 < (((List.length x.2.2.1) : Nat) : Int))))
  ((let v6 : Int := (wrapF .i64 (x.1 + x.2.1))
  (cond (!(decide (v6 = (0 : Int))))
  ((let v7 : Int := (Int.tmod (List.getD x.2.2.1 (Int.toNat x.2.2.2.2.2.1) (EK.dflt (.int .i64))) v6)
  (Option.bind
  (cond (decide (v7 < (0 : Int)))
  (some (wrapF .i64 ((wrapF .i64 (v7 + x.1)) + x.2.1)))
  (some v7))
  fun r11 =>
  (cond ((decide ((0 : Int) ≤ r11)) && (decide (r11 < (((List.length x.2.2.2.2.2.2.2) : Nat) : Int))))
  ((let v12 : Nat := (Int.toNat r11)
  (cond (decide (v12 < (List.length x.2.2.2.2.2.2.2)))
  ((Option.bind
  (cond (List.getD x.2.2.2.2.2.2.2 v12 (EK.dflt .bool))
  (cond ((decide ((0 : Int) ≤ r11)) && (decide (r11 < (((List.length x.2.2.2.2.2.2.2) : Nat) : Int))))
  ((let v14 : Nat := (Int.toNat r11)
  (cond (decide (v14 < (List.length x.2.2.2.2.2.2.2)))
  ((let v16 : List Int := ([(108 : Int), (111 : Int), (115 : Int), (116 : Int)] : List Int)
  (cond ((decide ((0 : Int) ≤ r11)) && (decide (r11 < (((List.length x.2.2.2.2.2.2.1) : Nat) : Int))))
  ((let v17 : Nat := (Int.toNat r11)
  (cond ((decide (4 ≤ (List.length v16))) && (decide (v17 < (List.length x.2.2.2.2.2.2.1))))
  ((some ((wrapF .i64 (x.2.2.2.2.1 + (1 : Int))), (List.set x.2.2.2.2.2.2.1 v17 (List.take 4 (List.drop 0 v16))), (List.set x.2.2.2.2.2.2.2 v14 false))))
  none)))
  none)))
  none)))
  none)
  (some (x.2.2.2.2.1, x.2.2.2.2.2.2.1, x.2.2.2.2.2.2.2)))
  fun r20 =>
  (next (x.1, x.2.1, x.2.2.1, x.2.2.2.1, r20.1, (wrapF .i64 (x.2.2.2.2.2.1 + (1 : Int))), r20.2.1, r20.2.2))))
  none)))
  none))))
  none)))
  none)
  (some (x.2.2.2.2.2.2.1, x.2.2.2.2.2.2.2))))
theorem granarylaw03_RsAny_f2 (N : Nat) (f0 : Int × Int → Option ((Bool) ⊕ (Int × Int) ⊕ (Int × Int × (List Int)) ⊕ (Bool × Int × Int × Int × Int × (List Int)))) (f1 : Unit → Option (Bool)) (f2 : Int × (List Int) → Option ((List (List Int)))) (f3 : (List (List Int)) × Int × Int × (List Int) → Option (Int × Int × Int × (List Int) × (List (List Int)))) (f4 : Int → Option (Int)) (f5 : (List (List Int)) → Option ((List (List Int)))) (f6 : (List (List Int)) × (List Bool) × Int × Int × (List Int) → Option (Int × Int × Int × (List Int) × (List (List Int)))) (f7 : (List (List Int)) × Int × Int × (List Int) → Option (Bool × Int × Int × Int × (List Int))) (f8 : (List (List Int)) × (List (List Int)) → Option (Bool)) (next) (x) : granarylaw03_RsAny_a2 N f0 f1 f2 f3 f4 f5 f6 f7 f8 next x = loopStep Γ (granarylaw03_RsAny_CA N f0 f1 f2 f3 f4 f5 f6 f7 f8) (granarylaw03_RsAny_J N) 0 171 granarylaw03_RsAny_d2 granarylaw03_RsAny_c2 next x := by kernel_rfl
theorem granarylaw03_RsAny_e2 (N : Nat) (next) (x) : granarylaw03_RsAny_b2 N next x = loopStep Γ (granarylaw03_RsAny_C N) (granarylaw03_RsAny_J N) 0 171 granarylaw03_RsAny_d2 granarylaw03_RsAny_c2 next x := by
  rw [← granarylaw03_RsAny_CE N]
  exact Eq.trans (by kernel_rfl) (granarylaw03_RsAny_f2 N (granarylaw03_both N) (granarylaw03_live N) (granarylaw03_shards N) (rs_Code_Encode N) (granarylaw03_num) (granarylaw03_lent N) (rs_Code_Rebuild N) (rs_Code_Check_v1 N) (granaryref03_Same_v1 N) next x)
theorem granarylaw03_RsAny_k2 (N : Nat) : LoopOK Try.prog 171 granarylaw03_RsAny_c2 ⟨granarylaw03_RsAny_d2, loopF (granarylaw03_RsAny_b2 N) N⟩ := loop_ok tabOK (granarylaw03_RsAny_t N) mixedOK (J := granarylaw03_RsAny_J N) (cx := 0) (body := granarylaw03_RsAny_c2) (nt := 171) (l := granarylaw03_RsAny_d2) (b := granarylaw03_RsAny_b2 N) (jok_from granarylaw03_RsAny_i2 ⟨trivial, trivial⟩) (granarylaw03_RsAny_e2 N) N
theorem granarylaw03_RsAny_i : loopsOf granarylaw03_RsAny_c = [(0, granarylaw03_RsAny_c0), (2, granarylaw03_RsAny_c2)] := by kernel_rfl
noncomputable def granarylaw03_RsAny_a (N : Nat) (f0 : Int × Int → Option ((Bool) ⊕ (Int × Int) ⊕ (Int × Int × (List Int)) ⊕ (Bool × Int × Int × Int × Int × (List Int)))) (f1 : Unit → Option (Bool)) (f2 : Int × (List Int) → Option ((List (List Int)))) (f3 : (List (List Int)) × Int × Int × (List Int) → Option (Int × Int × Int × (List Int) × (List (List Int)))) (f4 : Int → Option (Int)) (f5 : (List (List Int)) → Option ((List (List Int)))) (f6 : (List (List Int)) × (List Bool) × Int × Int × (List Int) → Option (Int × Int × Int × (List Int) × (List (List Int)))) (f7 : (List (List Int)) × Int × Int × (List Int) → Option (Bool × Int × Int × Int × (List Int))) (f8 : (List (List Int)) × (List (List Int)) → Option (Bool)) (x : Int × Int × (List Int) × (List Int)) : Option (Bool) :=
  (Option.bind (f0 (x.1, x.2.1)) fun r1 =>
  (match r1 with
  | .inl y2 =>
  (cond (!y2)
  (cond y2
  (Option.bind (f1 ()) fun r5 =>
  (some r5))
  (some false))
  (cond (decide ((9000 : Int) < (((List.length x.2.2.1) : Nat) : Int)))
  (cond y2
  (Option.bind (f1 ()) fun r8 =>
  (some r8))
  (some false))
  (cond y2
  (Option.bind (f1 ()) fun r9 =>
  (some r9))
  (some false))))
  | .inr z3 =>
  (match z3 with
  | .inl y10 =>
  (some false)
  | .inr z11 =>
  (match z11 with
  | .inl y12 =>
  (some false)
  | .inr z13 =>
  (cond (!z13.1)
  (cond z13.1
  (Option.bind (f1 ()) fun r15 =>
  (some r15))
  (some false))
  (cond (decide ((9000 : Int) < (((List.length x.2.2.1) : Nat) : Int)))
  (cond z13.1
  (Option.bind (f1 ()) fun r18 =>
  (some r18))
  (some false))
  (cond (decide ((30 : Int) < (((List.length x.2.2.2) : Nat) : Int)))
  (cond z13.1
  (Option.bind (f1 ()) fun r21 =>
  (some r21))
  (some false))
  (Option.bind (f2 (x.1, x.2.2.1)) fun r22 =>
  (Option.bind (f3 (r22, z13.2.1, z13.2.2.1, z13.2.2.2.2.2)) fun r23 =>
  (Option.bind
  (Option.bind (f4 r23.1) fun r24 =>
  (cond (!(decide (r24 = (0 : Int))))
  (some true)
  (some (!(decide ((((List.length r23.2.2.2.2) : Nat) : Int) = x.2.1))))))
  fun r28 =>
  (cond r28
  (Option.bind
  (cond (decide ((0 : Int) < (((List.length r22) : Nat) : Int)))
  ((cond (decide ((4096 : Int) < (((List.length (List.getD r22 0 (EK.dflt (.sl (.int .u8))))) : Nat) : Int)))
  (Option.bind (f1 ()) fun r32 =>
  (some r32))
  (some false)))
  none)
  fun r33 =>
  (some r33))
  (cond (fits 24 (List.length r22))
  ((cond (fits 24 ((List.length r22) + (List.length r23.2.2.2.2)))
  ((let v35 : List (List Int) := (r22 ++ r23.2.2.2.2)
  (Option.bind (f5 v35) fun r36 =>
  (let v37 : Int := (wrapF .i64 (x.1 + x.2.1))
  (cond ((decide ((0 : Int) ≤ v37)) && (fits 1 (Int.toNat v37)))
  ((Option.bind (granarylaw03_RsAny_l0 N (x.1, x.2.1, x.2.2.2, v35, (0 : Int), (List.replicate (Int.toNat v37) (EK.dflt .bool)))) fun r39 =>
  (Option.bind (granarylaw03_RsAny_l2 N (x.1, x.2.1, x.2.2.2, v35, (0 : Int), (0 : Int), r36, r39)) fun r40 =>
  (Option.bind (f6 (r40.1, r40.2, r23.2.1, r23.2.2.1, r23.2.2.2.1)) fun r41 =>
  (Option.bind (f7 (r41.2.2.2.2, r41.2.1, r41.2.2.1, r41.2.2.2.1)) fun r42 =>
  (Option.bind
  (Option.bind (f4 r41.1) fun r43 =>
  (cond (decide (r43 = (0 : Int)))
  (Option.bind (f8 (r41.2.2.2.2, v35)) fun r45 =>
  (cond r45
  (Option.bind (f4 r42.2.1) fun r46 =>
  (cond (decide (r46 = (0 : Int)))
  (cond r42.1
  (Option.bind (f1 ()) fun r48 =>
  (some r48))
  (some false))
  (some false)))
  (some false)))
  (some false)))
  fun r49 =>
  (some r49)))))))
  none)))))
  none))
  none))))))))))))
theorem granarylaw03_RsAny_f (N : Nat) (f0 : Int × Int → Option ((Bool) ⊕ (Int × Int) ⊕ (Int × Int × (List Int)) ⊕ (Bool × Int × Int × Int × Int × (List Int)))) (f1 : Unit → Option (Bool)) (f2 : Int × (List Int) → Option ((List (List Int)))) (f3 : (List (List Int)) × Int × Int × (List Int) → Option (Int × Int × Int × (List Int) × (List (List Int)))) (f4 : Int → Option (Int)) (f5 : (List (List Int)) → Option ((List (List Int)))) (f6 : (List (List Int)) × (List Bool) × Int × Int × (List Int) → Option (Int × Int × Int × (List Int) × (List (List Int)))) (f7 : (List (List Int)) × Int × Int × (List Int) → Option (Bool × Int × Int × Int × (List Int))) (f8 : (List (List Int)) × (List (List Int)) → Option (Bool)) (x) : granarylaw03_RsAny_a N f0 f1 f2 f3 f4 f5 f6 f7 f8 x = fnStep Γ (granarylaw03_RsAny_CA N f0 f1 f2 f3 f4 f5 f6 f7 f8) (granarylaw03_RsAny_J N) 171 Try.f6.results.toList (granarylaw03_RsAny_g N) granarylaw03_RsAny_o granarylaw03_RsAny_c x := by kernel_rfl
theorem granarylaw03_RsAny_e (N : Nat) (x) : (granarylaw03_RsAny_g N).F x = fnStep Γ (granarylaw03_RsAny_C N) (granarylaw03_RsAny_J N) 171 Try.f6.results.toList (granarylaw03_RsAny_g N) granarylaw03_RsAny_o granarylaw03_RsAny_c x := by
  rw [← granarylaw03_RsAny_CE N]
  exact Eq.trans (by kernel_rfl) (granarylaw03_RsAny_f N (granarylaw03_both N) (granarylaw03_live N) (granarylaw03_shards N) (rs_Code_Encode N) (granarylaw03_num) (granarylaw03_lent N) (rs_Code_Rebuild N) (rs_Code_Check_v1 N) (granaryref03_Same_v1 N) x)
theorem granarylaw03_RsAny_y : Try.f6.body = some granarylaw03_RsAny_c := by kernel_rfl
theorem granarylaw03_RsAny_n : (Try.f6.name == "runtime.NumGoroutine") = false := by kernel_rfl
theorem granarylaw03_RsAny_ok (N : Nat) : FnDoes Try.prog 6 (granarylaw03_RsAny_g N) := fn_ok tabOK (granarylaw03_RsAny_t N) mixedOK (J := granarylaw03_RsAny_J N) (body := granarylaw03_RsAny_c) Try.func6 granarylaw03_RsAny_y granarylaw03_RsAny_n Try.ntmps6 (jok_from granarylaw03_RsAny_i ⟨⟨.inr ⟨_, rfl, granarylaw03_RsAny_k0 N⟩, .inr ⟨_, rfl, granarylaw03_RsAny_k2 N⟩, trivial⟩, trivial⟩) rfl rfl (le_of_ble rfl) (granarylaw03_RsAny_e N)
end Go.Rf.W
