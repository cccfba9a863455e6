/-
  The law's printed function is what the program does.
-/
import Derived.Test.YtabkbpilajgcnaaXdrK2
import Derived.Test.YtabkbpilajgcnaaXdrFXdrWrites
set_option linter.unusedVariables false
set_option maxRecDepth 100000
namespace Go.Rf.W
open Go Go.Rf Go.Proofs
noncomputable def granarylaw01_XdrWrites_c : Code := codeOf Try.f3.body
noncomputable def granarylaw01_XdrWrites_c0 : Code := codeOf (getLoop 0 granarylaw01_XdrWrites_c)
noncomputable def granarylaw01_XdrWrites_c2 : Code := codeOf (getLoop 2 granarylaw01_XdrWrites_c)
def granarylaw01_XdrWrites_d2 : LD := { ins := ⟨[(0, (.av (.one (.rsl (.pair (.int .i64) (.pair (.int .u64) (.pair (.sl (.int .u8)) (.pair (.int .i64) (.pair (.sl (.int .u32)) (.pair (.sl .str) .unit)))))))))), (3, (.av (.one (.const (.ptr ⟨0, 0, 0, 0⟩))))), (4, (.av (.one (.const (.ptr ⟨2, 0, 0, 0⟩))))), (5, (.av (.one (.int .i64)))), (8, (.av (.one (.const (.slw 17 1))))), (9, (.av (.one (.int .i64))))], [(.keep, false), (.keep, false), (.keep, false), (.keep, false), (.keep, false), (.keep, false), (.keep, false), (.keep, false), (.keep, false), (.keep, false), (.keep, false), (.keep, false), (.keep, false), (.keep, false), (.keep, false), (.keep, false), (.keep, false), (.sh (.arr (.int .u8) none), false)]⟩, mov := [], wr := [17], outs := [(.exit 2, ⟨[], [(.keep, false), (.keep, false), (.keep, false), (.keep, false), (.keep, false), (.keep, false), (.keep, false), (.keep, false), (.keep, false), (.keep, false), (.keep, false), (.keep, false), (.keep, false), (.keep, false), (.keep, false), (.keep, false), (.keep, false), (.sh (.arr (.int .u8) none), false)]⟩)], its := [.lst (.pair (.int .i64) (.pair (.int .u64) (.pair (.sl (.int .u8)) (.pair (.int .i64) (.pair (.sl (.int .u32)) (.pair (.sl .str) .unit)))))), .int, .int, .lst (.int .u8)], ots := [[.lst (.int .u8)]] }
def granarylaw01_XdrWrites_d0 : LD := { ins := ⟨[(0, (.av (.one (.rsl (.pair (.int .i64) (.pair (.int .u64) (.pair (.sl (.int .u8)) (.pair (.int .i64) (.pair (.sl (.int .u32)) (.pair (.sl .str) .unit)))))))))), (3, (.av (.one (.const (.ptr ⟨0, 0, 0, 0⟩))))), (4, (.av (.one (.const (.ptr ⟨2, 0, 0, 0⟩))))), (5, (.av (.one (.int .i64))))], [(.sh (.one (.const (.slw 4 1))), true), (.sh (.one (.int .i64)), false), (.sh (.one (.const (.slw 5 1))), true), (.sh (.one (.int .i64)), false), (.sh (.arr (.int .u8) none), false), (.sh (.arr (.int .u8) none), false)]⟩, mov := [4, 5], wr := [0, 1, 2, 3], outs := [(.ret, ⟨[(2, (.av (.one (.const (.bool false)))))], [(.sh (.one (.const (.slw 6 1))), true), (.sh (.one (.int .i64)), false), (.sh (.one (.const (.slw 7 1))), true), (.sh (.one (.int .i64)), false), (.dead, false), (.dead, false), (.sh (.arr (.int .u8) none), false), (.sh (.arr (.int .u8) none), false)]⟩), (.exit 0, ⟨[], [(.sh (.one (.const (.slw 6 1))), true), (.sh (.one (.int .i64)), false), (.sh (.one (.const (.slw 7 1))), true), (.sh (.one (.int .i64)), false), (.dead, false), (.dead, false), (.sh (.arr (.int .u8) none), false), (.sh (.arr (.int .u8) none), false)]⟩)], its := [.lst (.pair (.int .i64) (.pair (.int .u64) (.pair (.sl (.int .u8)) (.pair (.int .i64) (.pair (.sl (.int .u32)) (.pair (.sl .str) .unit)))))), .int, .int, .int, .lst (.int .u8), .lst (.int .u8)], ots := [[.int, .int, .lst (.int .u8), .lst (.int .u8)], [.int, .int, .lst (.int .u8), .lst (.int .u8)]] }
noncomputable def granarylaw01_XdrWrites_J (N : Nat) : Nat → Hint := fun cx => hintOf cx [(0, { reg := fun k => assoc0 k [(15, ⟨⟨[(80, (.av (.one .bool)))], [(.sh (.one (.const (.slw 15 1))), true), (.sh (.one (.int .i64)), false), (.keep, true), (.keep, false), (.dead, false), (.dead, false), (.keep, false), (.dead, false), (.keep, false), (.keep, true), (.keep, true), (.keep, true), (.keep, true), (.keep, true), (.keep, false), (.sh (.arr (.int .u8) none), false), (.keep, false), (.keep, false)]⟩, [], [0, 1, 15], [.bool, .int, .lst (.int .u8)]⟩), (21, ⟨⟨[(2, (.av (.one .bool)))], [(.sh (.one (.const (.slw 6 1))), true), (.sh (.one (.int .i64)), false), (.keep, true), (.keep, false), (.dead, false), (.dead, false), (.sh (.arr (.int .u8) none), false), (.keep, false)]⟩, [], [0, 1, 6], [.bool, .int, .lst (.int .u8)]⟩)], cnd := fun k => assoc0 k [], loop := fun k => assoc0 k [(2, ⟨granarylaw01_XdrWrites_d2, loopF (granarylaw01_XdrWrites_b2 N) N⟩), (0, ⟨granarylaw01_XdrWrites_d0, loopF (granarylaw01_XdrWrites_b0 N) N⟩)], nil := fun k => assoc0 k [], unr := fun k => assocN k [], blk := fun k => assoc0 k [] })]
noncomputable def granarylaw01_XdrWrites_C (N : Nat) : Nat → List GS := fun k => tabOf k [(7, [granarylaw01_huge_g N]), (8, [granarylaw01_live_g N]), (9, [xdr_NewWriter_g N]), (10, [granarylaw01_writes_g N, granarylaw01_writes_v1_g N]), (11, [xdr_Writer_Bytes_g N]), (13, [xdr_Writer_Why_v1_g N]), (12, [granarylaw01_num_g N])]
def granarylaw01_XdrWrites_o : List (Shp × List Nat) := [(⟨[(0, (.av (.one .bool)))], []⟩, [])]
noncomputable def granarylaw01_XdrWrites_g (N : Nat) : GS := { ins := ⟨[(0, (.av (.one (.rsl (.pair (.int .i64) (.pair (.int .u64) (.pair (.sl (.int .u8)) (.pair (.int .i64) (.pair (.sl (.int .u32)) (.pair (.sl .str) .unit))))))))))], []⟩, lend := [.keep], outs := granarylaw01_XdrWrites_o.map fun s => ssOf s.1, its := [.lst (.pair (.int .i64) (.pair (.int .u64) (.pair (.sl (.int .u8)) (.pair (.int .i64) (.pair (.sl (.int .u32)) (.pair (.sl .str) .unit))))))], ots := [[.bool]], F := granarylaw01_XdrWrites N }
noncomputable def granarylaw01_XdrWrites_CA (N : Nat) (f0 : (List (Int × (Int × ((List Int) × (Int × ((List Int) × ((List (List UInt8)) × Unit))))))) → Option (Bool)) (f1 : Unit → Option (Bool)) (f2 : Unit → Option (Unit)) (f3 : Int × Int × (List Int) × Int × (List Int) × (List (List UInt8)) × Int × Int → Option (Int × Int × (List Int) × (List Int))) (f4 : Int × Int × (List Int) × Int × (List Int) × (List (List UInt8)) × Int × Int × (List Int) × (List Int) → Option (Int × Int × (List Int) × (List Int))) (f5 : Int × (List Int) → Option (Int × (List Int) × (List Int))) (f6 : Int × (List Int) → Option (Int × Int × (List Int))) (f7 : Int → Option (Int)) : Nat → List GS := fun k => tabOf k [(7, [{ granarylaw01_huge_g N with F := f0 }]), (8, [{ granarylaw01_live_g N with F := f1 }]), (9, [{ xdr_NewWriter_g N with F := f2 }]), (10, [{ granarylaw01_writes_g N with F := f3 }, { granarylaw01_writes_v1_g N with F := f4 }]), (11, [{ xdr_Writer_Bytes_g N with F := f5 }]), (13, [{ xdr_Writer_Why_v1_g N with F := f6 }]), (12, [{ granarylaw01_num_g N with F := f7 }])]
theorem granarylaw01_XdrWrites_CE (N : Nat) : granarylaw01_XdrWrites_CA N (granarylaw01_huge N) (granarylaw01_live N) (xdr_NewWriter) (granarylaw01_writes N) (granarylaw01_writes_v1 N) (xdr_Writer_Bytes) (xdr_Writer_Why_v1) (granarylaw01_num) = granarylaw01_XdrWrites_C N := by kernel_rfl
theorem granarylaw01_XdrWrites_t (N : Nat) : TabC Try.prog (granarylaw01_XdrWrites_C N) := tab_ok ⟨⟨granarylaw01_huge_ok N, trivial⟩, ⟨granarylaw01_live_ok N, trivial⟩, ⟨xdr_NewWriter_ok N, trivial⟩, ⟨granarylaw01_writes_ok N, granarylaw01_writes_v1_ok N, trivial⟩, ⟨xdr_Writer_Bytes_ok N, trivial⟩, ⟨xdr_Writer_Why_v1_ok N, trivial⟩, ⟨granarylaw01_num_ok N, trivial⟩, trivial⟩
theorem granarylaw01_XdrWrites_i2 : loopsOf granarylaw01_XdrWrites_c2 = [] := by kernel_rfl
noncomputable def granarylaw01_XdrWrites_a2 (N : Nat) (f0 : (List (Int × (Int × ((List Int) × (Int × ((List Int) × ((List (List UInt8)) × Unit))))))) → Option (Bool)) (f1 : Unit → Option (Bool)) (f2 : Unit → Option (Unit)) (f3 : Int × Int × (List Int) × Int × (List Int) × (List (List UInt8)) × Int × Int → Option (Int × Int × (List Int) × (List Int))) (f4 : Int × Int × (List Int) × Int × (List Int) × (List (List UInt8)) × Int × Int × (List Int) × (List Int) → Option (Int × Int × (List Int) × (List Int))) (f5 : Int × (List Int) → Option (Int × (List Int) × (List Int))) (f6 : Int × (List Int) → Option (Int × Int × (List Int))) (f7 : Int → Option (Int)) (next : (List (Int × (Int × ((List Int) × (Int × ((List Int) × ((List (List UInt8)) × Unit))))))) × Int × Int × (List Int) → Option (((List Int)))) (x : (List (Int × (Int × ((List Int) × (Int × ((List Int) × ((List (List UInt8)) × Unit))))))) × Int × Int × (List Int)) : Option (((List Int))) :=
  (cond (decide (x.2.2.1 < (((List.length x.2.2.2) : Nat) : Int)))
  (cond ((decide ((0 : Int) ≤ x.2.2.1)) && (decide (x.2.2.1 < (((List.length x.2.2.2) : Nat) : Int))))
  ((let v3 : Nat := (Int.toNat x.2.2.1)
  (cond (decide (v3 < (List.length x.2.2.2)))
  ((cond ((decide ((0 : Int) ≤ x.2.2.1)) && (decide (x.2.2.1 < (((List.length x.2.2.2) : Nat) : Int))))
  ((let v6 : Nat := (Int.toNat x.2.2.1)
  (cond (decide (v6 < (List.length x.2.2.2)))
  ((next (x.1, x.2.1, (wrapF .i64 (x.2.2.1 + (1 : Int))), (List.set x.2.2.2 v6 (xorF .u8 (List.getD x.2.2.2 v3 (EK.dflt (.int .u8))) (85 : Int))))))
  none)))
  none))
  none)))
  none)
  (some x.2.2.2))
theorem granarylaw01_XdrWrites_f2 (N : Nat) (f0 : (List (Int × (Int × ((List Int) × (Int × ((List Int) × ((List (List UInt8)) × Unit))))))) → Option (Bool)) (f1 : Unit → Option (Bool)) (f2 : Unit → Option (Unit)) (f3 : Int × Int × (List Int) × Int × (List Int) × (List (List UInt8)) × Int × Int → Option (Int × Int × (List Int) × (List Int))) (f4 : Int × Int × (List Int) × Int × (List Int) × (List (List UInt8)) × Int × Int × (List Int) × (List Int) → Option (Int × Int × (List Int) × (List Int))) (f5 : Int × (List Int) → Option (Int × (List Int) × (List Int))) (f6 : Int × (List Int) → Option (Int × Int × (List Int))) (f7 : Int → Option (Int)) (next) (x) : granarylaw01_XdrWrites_a2 N f0 f1 f2 f3 f4 f5 f6 f7 next x = loopStep Γ (granarylaw01_XdrWrites_CA N f0 f1 f2 f3 f4 f5 f6 f7) (granarylaw01_XdrWrites_J N) 0 107 granarylaw01_XdrWrites_d2 granarylaw01_XdrWrites_c2 next x := by kernel_rfl
theorem granarylaw01_XdrWrites_e2 (N : Nat) (next) (x) : granarylaw01_XdrWrites_b2 N next x = loopStep Γ (granarylaw01_XdrWrites_C N) (granarylaw01_XdrWrites_J N) 0 107 granarylaw01_XdrWrites_d2 granarylaw01_XdrWrites_c2 next x := by
  rw [← granarylaw01_XdrWrites_CE N]
  exact Eq.trans (by kernel_rfl) (granarylaw01_XdrWrites_f2 N (granarylaw01_huge N) (granarylaw01_live N) (xdr_NewWriter) (granarylaw01_writes N) (granarylaw01_writes_v1 N) (xdr_Writer_Bytes) (xdr_Writer_Why_v1) (granarylaw01_num) next x)
theorem granarylaw01_XdrWrites_k2 (N : Nat) : LoopOK Try.prog 107 granarylaw01_XdrWrites_c2 ⟨granarylaw01_XdrWrites_d2, loopF (granarylaw01_XdrWrites_b2 N) N⟩ := loop_ok tabOK (granarylaw01_XdrWrites_t N) mixedOK (J := granarylaw01_XdrWrites_J N) (cx := 0) (body := granarylaw01_XdrWrites_c2) (nt := 107) (l := granarylaw01_XdrWrites_d2) (b := granarylaw01_XdrWrites_b2 N) (jok_from granarylaw01_XdrWrites_i2 ⟨trivial, trivial⟩) (granarylaw01_XdrWrites_e2 N) N
theorem granarylaw01_XdrWrites_i0 : loopsOf granarylaw01_XdrWrites_c0 = [(2, granarylaw01_XdrWrites_c2)] := by kernel_rfl
noncomputable def granarylaw01_XdrWrites_a0 (N : Nat) (f0 : (List (Int × (Int × ((List Int) × (Int × ((List Int) × ((List (List UInt8)) × Unit))))))) → Option (Bool)) (f1 : Unit → Option (Bool)) (f2 : Unit → Option (Unit)) (f3 : Int × Int × (List Int) × Int × (List Int) × (List (List UInt8)) × Int × Int → Option (Int × Int × (List Int) × (List Int))) (f4 : Int × Int × (List Int) × Int × (List Int) × (List (List UInt8)) × Int × Int × (List Int) × (List Int) → Option (Int × Int × (List Int) × (List Int))) (f5 : Int × (List Int) → Option (Int × (List Int) × (List Int))) (f6 : Int × (List Int) → Option (Int × Int × (List Int))) (f7 : Int → Option (Int)) (next : (List (Int × (Int × ((List Int) × (Int × ((List Int) × ((List (List UInt8)) × Unit))))))) × Int × Int × Int × (List Int) × (List Int) → Option ((Int × Int × (List Int) × (List Int)) ⊕ (Int × Int × (List Int) × (List Int)))) (x : (List (Int × (Int × ((List Int) × (Int × ((List Int) × ((List (List UInt8)) × Unit))))))) × Int × Int × Int × (List Int) × (List Int)) : Option ((Int × Int × (List Int) × (List Int)) ⊕ (Int × Int × (List Int) × (List Int))) :=
  (cond (decide (x.2.1 < (((List.length x.1) : Nat) : Int)))
  (cond ((decide ((0 : Int) ≤ x.2.1)) && (decide (x.2.1 < (((List.length x.1) : Nat) : Int))))
  ((let v4 : (Int × (Int × ((List Int) × (Int × ((List Int) × ((List (List UInt8)) × Unit)))))) := (List.getD x.1 (Int.toNat x.2.1) (EK.dflt (.pair (.int .i64) (.pair (.int .u64) (.pair (.sl (.int .u8)) (.pair (.int .i64) (.pair (.sl (.int .u32)) (.pair (.sl .str) .unit))))))))
  (cond (fits 1 (List.length v4.2.2.1))
  ((cond (fits 1 ((List.length v4.2.2.1) + (List.length (List.map (fun b => (b.toNat : Int)) ([114, 101, 115, 116] : List UInt8)))))
  ((let v5 : List Int := (v4.2.2.1 ++ (List.map (fun b => (b.toNat : Int)) ([114, 101, 115, 116] : List UInt8)))
  (cond ((decide ((0 : Int) ≤ x.2.1)) && (decide (x.2.1 < (((List.length x.1) : Nat) : Int))))
  ((let v6 : (Int × (Int × ((List Int) × (Int × ((List Int) × ((List (List UInt8)) × Unit)))))) := (List.getD x.1 (Int.toNat x.2.1) (EK.dflt (.pair (.int .i64) (.pair (.int .u64) (.pair (.sl (.int .u8)) (.pair (.int .i64) (.pair (.sl (.int .u32)) (.pair (.sl .str) .unit))))))))
  (cond ((decide ((0 : Int) ≤ x.2.1)) && (decide (x.2.1 < (((List.length x.1) : Nat) : Int))))
  ((let v8 : Int := (((List.length (List.getD x.1 (Int.toNat x.2.1) (EK.dflt (.pair (.int .i64) (.pair (.int .u64) (.pair (.sl (.int .u8)) (.pair (.int .i64) (.pair (.sl (.int .u32)) (.pair (.sl .str) .unit)))))))).2.2.1) : Nat) : Int)
  (cond ((decide ((0 : Int) ≤ v8)) && (decide (v8 ≤ (((List.length v5) : Nat) : Int))))
  ((let v9 : Nat := (Int.toNat v8)
  (cond (cond ((decide ((0 + v9) ≤ (List.length v5))) && true) true false)
  (Option.bind (f4 (v6.1, v6.2.1, (List.take v9 (List.drop 0 v5)), v6.2.2.2.1, v6.2.2.2.2.1, v6.2.2.2.2.2.1, x.2.2.1, x.2.2.2.1, x.2.2.2.2.1, x.2.2.2.2.2)) fun r10 =>
  (Option.bind (f5 (r10.1, r10.2.2.1)) fun r11 =>
  (Option.bind
  (cond (!(decide ((List.map (fun (n : Int) => UInt8.ofNat n.toNat) r11.2.2) = (List.map (fun (n : Int) => UInt8.ofNat n.toNat) r10.2.2.2))))
  (some (true, r11.1, r11.2.1))
  (Option.bind (f6 (r11.1, r11.2.1)) fun r15 =>
  (Option.bind (f7 r15.1) fun r16 =>
  (cond (!(decide (r16 = r10.2.1)))
  (some (true, r15.2.1, r15.2.2))
  (cond ((decide ((0 : Int) ≤ x.2.1)) && (decide (x.2.1 < (((List.length x.1) : Nat) : Int))))
  ((let v20 : List UInt8 := (List.map (fun (n : Int) => UInt8.ofNat n.toNat) (List.getD x.1 (Int.toNat x.2.1) (EK.dflt (.pair (.int .i64) (.pair (.int .u64) (.pair (.sl (.int .u8)) (.pair (.int .i64) (.pair (.sl (.int .u32)) (.pair (.sl .str) .unit)))))))).2.2.1)
  (cond (decide ((List.length v20) + (List.length ([114, 101, 115, 116] : List UInt8)) ≤ 9223372036854775807))
  ((some ((!(decide ((List.map (fun (n : Int) => UInt8.ofNat n.toNat) v5) = (v20 ++ ([114, 101, 115, 116] : List UInt8))))), r15.2.1, r15.2.2)))
  none)))
  none)))))
  fun r23 =>
  (cond r23.1
  (some (.inl (r23.2.1, r10.2.1, r23.2.2, r10.2.2.2)))
  (Option.bind (granarylaw01_XdrWrites_l2 N (x.1, x.2.1, (0 : Int), r11.2.2)) fun r24 =>
  (next (x.1, (wrapF .i64 (x.2.1 + (1 : Int))), r23.2.1, r10.2.1, r23.2.2, r10.2.2.2)))))))
  none)))
  none)))
  none)))
  none)))
  none))
  none)))
  none)
  (some (.inr ((x.2.2.1, x.2.2.2.1, x.2.2.2.2.1, x.2.2.2.2.2)))))
theorem granarylaw01_XdrWrites_f0 (N : Nat) (f0 : (List (Int × (Int × ((List Int) × (Int × ((List Int) × ((List (List UInt8)) × Unit))))))) → Option (Bool)) (f1 : Unit → Option (Bool)) (f2 : Unit → Option (Unit)) (f3 : Int × Int × (List Int) × Int × (List Int) × (List (List UInt8)) × Int × Int → Option (Int × Int × (List Int) × (List Int))) (f4 : Int × Int × (List Int) × Int × (List Int) × (List (List UInt8)) × Int × Int × (List Int) × (List Int) → Option (Int × Int × (List Int) × (List Int))) (f5 : Int × (List Int) → Option (Int × (List Int) × (List Int))) (f6 : Int × (List Int) → Option (Int × Int × (List Int))) (f7 : Int → Option (Int)) (next) (x) : granarylaw01_XdrWrites_a0 N f0 f1 f2 f3 f4 f5 f6 f7 next x = loopStep Γ (granarylaw01_XdrWrites_CA N f0 f1 f2 f3 f4 f5 f6 f7) (granarylaw01_XdrWrites_J N) 0 107 granarylaw01_XdrWrites_d0 granarylaw01_XdrWrites_c0 next x := by kernel_rfl
theorem granarylaw01_XdrWrites_e0 (N : Nat) (next) (x) : granarylaw01_XdrWrites_b0 N next x = loopStep Γ (granarylaw01_XdrWrites_C N) (granarylaw01_XdrWrites_J N) 0 107 granarylaw01_XdrWrites_d0 granarylaw01_XdrWrites_c0 next x := by
  rw [← granarylaw01_XdrWrites_CE N]
  exact Eq.trans (by kernel_rfl) (granarylaw01_XdrWrites_f0 N (granarylaw01_huge N) (granarylaw01_live N) (xdr_NewWriter) (granarylaw01_writes N) (granarylaw01_writes_v1 N) (xdr_Writer_Bytes) (xdr_Writer_Why_v1) (granarylaw01_num) next x)
theorem granarylaw01_XdrWrites_k0 (N : Nat) : LoopOK Try.prog 107 granarylaw01_XdrWrites_c0 ⟨granarylaw01_XdrWrites_d0, loopF (granarylaw01_XdrWrites_b0 N) N⟩ := loop_ok tabOK (granarylaw01_XdrWrites_t N) mixedOK (J := granarylaw01_XdrWrites_J N) (cx := 0) (body := granarylaw01_XdrWrites_c0) (nt := 107) (l := granarylaw01_XdrWrites_d0) (b := granarylaw01_XdrWrites_b0 N) (jok_from granarylaw01_XdrWrites_i0 ⟨⟨.inr ⟨_, rfl, granarylaw01_XdrWrites_k2 N⟩, trivial⟩, trivial⟩) (granarylaw01_XdrWrites_e0 N) N
theorem granarylaw01_XdrWrites_i : loopsOf granarylaw01_XdrWrites_c = [(0, granarylaw01_XdrWrites_c0), (2, granarylaw01_XdrWrites_c2)] := by kernel_rfl
noncomputable def granarylaw01_XdrWrites_a (N : Nat) (f0 : (List (Int × (Int × ((List Int) × (Int × ((List Int) × ((List (List UInt8)) × Unit))))))) → Option (Bool)) (f1 : Unit → Option (Bool)) (f2 : Unit → Option (Unit)) (f3 : Int × Int × (List Int) × Int × (List Int) × (List (List UInt8)) × Int × Int → Option (Int × Int × (List Int) × (List Int))) (f4 : Int × Int × (List Int) × Int × (List Int) × (List (List UInt8)) × Int × Int × (List Int) × (List Int) → Option (Int × Int × (List Int) × (List Int))) (f5 : Int × (List Int) → Option (Int × (List Int) × (List Int))) (f6 : Int × (List Int) → Option (Int × Int × (List Int))) (f7 : Int → Option (Int)) (x : (List (Int × (Int × ((List Int) × (Int × ((List Int) × ((List (List UInt8)) × Unit)))))))) : Option (Bool) :=
  (Option.bind (f0 x) fun r1 =>
  (cond r1
  (Option.bind (f1 ()) fun r2 =>
  (some r2))
  (Option.bind (f2 ()) fun r3 =>
  (Option.bind (granarylaw01_XdrWrites_l0 N (x, (0 : Int), (0 : Int), (0 : Int), ([] : List Int), ([] : List Int))) fun r4 =>
  (match r4 with
  | .inl y5 =>
  (some false)
  | .inr z6 =>
  (Option.bind
  (Option.bind (f5 (z6.1, z6.2.2.1)) fun r7 =>
  (cond (decide ((List.map (fun (n : Int) => UInt8.ofNat n.toNat) r7.2.2) = (List.map (fun (n : Int) => UInt8.ofNat n.toNat) z6.2.2.2)))
  (Option.bind (f1 ()) fun r11 =>
  (some (r11, r7.1, r7.2.1)))
  (some (false, r7.1, r7.2.1))))
  fun r12 =>
  (some r12.1)))))))
theorem granarylaw01_XdrWrites_f (N : Nat) (f0 : (List (Int × (Int × ((List Int) × (Int × ((List Int) × ((List (List UInt8)) × Unit))))))) → Option (Bool)) (f1 : Unit → Option (Bool)) (f2 : Unit → Option (Unit)) (f3 : Int × Int × (List Int) × Int × (List Int) × (List (List UInt8)) × Int × Int → Option (Int × Int × (List Int) × (List Int))) (f4 : Int × Int × (List Int) × Int × (List Int) × (List (List UInt8)) × Int × Int × (List Int) × (List Int) → Option (Int × Int × (List Int) × (List Int))) (f5 : Int × (List Int) → Option (Int × (List Int) × (List Int))) (f6 : Int × (List Int) → Option (Int × Int × (List Int))) (f7 : Int → Option (Int)) (x) : granarylaw01_XdrWrites_a N f0 f1 f2 f3 f4 f5 f6 f7 x = fnStep Γ (granarylaw01_XdrWrites_CA N f0 f1 f2 f3 f4 f5 f6 f7) (granarylaw01_XdrWrites_J N) 107 Try.f3.results.toList (granarylaw01_XdrWrites_g N) granarylaw01_XdrWrites_o granarylaw01_XdrWrites_c x := by kernel_rfl
theorem granarylaw01_XdrWrites_e (N : Nat) (x) : (granarylaw01_XdrWrites_g N).F x = fnStep Γ (granarylaw01_XdrWrites_C N) (granarylaw01_XdrWrites_J N) 107 Try.f3.results.toList (granarylaw01_XdrWrites_g N) granarylaw01_XdrWrites_o granarylaw01_XdrWrites_c x := by
  rw [← granarylaw01_XdrWrites_CE N]
  exact Eq.trans (by kernel_rfl) (granarylaw01_XdrWrites_f N (granarylaw01_huge N) (granarylaw01_live N) (xdr_NewWriter) (granarylaw01_writes N) (granarylaw01_writes_v1 N) (xdr_Writer_Bytes) (xdr_Writer_Why_v1) (granarylaw01_num) x)
theorem granarylaw01_XdrWrites_y : Try.f3.body = some granarylaw01_XdrWrites_c := by kernel_rfl
theorem granarylaw01_XdrWrites_n : (Try.f3.name == "runtime.NumGoroutine") = false := by kernel_rfl
theorem granarylaw01_XdrWrites_ok (N : Nat) : FnDoes Try.prog 3 (granarylaw01_XdrWrites_g N) := fn_ok tabOK (granarylaw01_XdrWrites_t N) mixedOK (J := granarylaw01_XdrWrites_J N) (body := granarylaw01_XdrWrites_c) Try.func3 granarylaw01_XdrWrites_y granarylaw01_XdrWrites_n Try.ntmps3 (jok_from granarylaw01_XdrWrites_i ⟨⟨.inr ⟨_, rfl, granarylaw01_XdrWrites_k0 N⟩, .inr ⟨_, rfl, granarylaw01_XdrWrites_k2 N⟩, trivial⟩, trivial⟩) rfl rfl (le_of_ble rfl) (granarylaw01_XdrWrites_e N)
end Go.Rf.W
