/-
  The printed functions are what the program does.
-/
import Derived.Test.YtabkbpilajgcnaaXdrK1
set_option linter.unusedVariables false
set_option maxRecDepth 100000
namespace Go.Rf.W
open Go Go.Rf Go.Proofs
noncomputable def xdr_Reader_Hyper_v1_c : Code := codeOf Try.f36.body
noncomputable def xdr_Reader_Hyper_v1_J (N : Nat) : Nat → Hint := fun cx => hintOf cx []
noncomputable def xdr_Reader_Hyper_v1_C (N : Nat) : Nat → List GS := fun k => tabOf k [(26, [xdr_Reader_At_g N]), (62, [xdr_Reader_take_g N]), (63, [octet_Get_g N])]
def xdr_Reader_Hyper_v1_o : List (Shp × List Nat) := [(⟨[(0, (.av (.one (.int .u64))))], [(.sh (.one (.const (.slw 4 1))), true), (.sh (.one (.int .i64)), true), (.sh (.one (.int .i64)), true), (.sh (.one (.int .i64)), false), (.sh (.arr (.int .u8) none), false)]⟩, [])]
noncomputable def xdr_Reader_Hyper_v1_g (N : Nat) : GS := { ins := ⟨[(0, (.av (.one (.const (.ptr ⟨0, 0, 0, 0⟩)))))], [(some (.one (.const (.slw 4 1))), true), (some (.one (.int .i64)), true), (some (.one (.int .i64)), true), (some (.one (.int .i64)), false), (some (.arr (.int .u8) none), false)]⟩, lend := [.keep], outs := xdr_Reader_Hyper_v1_o.map fun s => ssOf s.1, its := [.int, .int, .int, .lst (.int .u8)], ots := [[.int, .int, .int, .int, .lst (.int .u8)]], F := xdr_Reader_Hyper_v1 N }
noncomputable def xdr_Reader_Hyper_v1_CA (N : Nat) (f0 : Int × Int × Int × (List Int) → Option (Int × Int × Int × Int × (List Int))) (f1 : Int × Int × Int × Int × Int × (List Int) → Option ((Int × Int × Int × (List Int)) ⊕ (Nat × Nat × Int × Int × Int × (List Int)))) (f2 : (List Int) → Option (Int)) : Nat → List GS := fun k => tabOf k [(26, [{ xdr_Reader_At_g N with F := f0 }]), (62, [{ xdr_Reader_take_g N with F := f1 }]), (63, [{ octet_Get_g N with F := f2 }])]
theorem xdr_Reader_Hyper_v1_CE (N : Nat) : xdr_Reader_Hyper_v1_CA N (xdr_Reader_At) (xdr_Reader_take) (octet_Get N) = xdr_Reader_Hyper_v1_C N := by kernel_rfl
theorem xdr_Reader_Hyper_v1_t (N : Nat) : TabC Try.prog (xdr_Reader_Hyper_v1_C N) := tab_ok ⟨⟨xdr_Reader_At_ok N, trivial⟩, ⟨xdr_Reader_take_ok N, trivial⟩, ⟨octet_Get_ok N, trivial⟩, trivial⟩
theorem xdr_Reader_Hyper_v1_i : loopsOf xdr_Reader_Hyper_v1_c = [] := by kernel_rfl
noncomputable def xdr_Reader_Hyper_v1_a (N : Nat) (f0 : Int × Int × Int × (List Int) → Option (Int × Int × Int × Int × (List Int))) (f1 : Int × Int × Int × Int × Int × (List Int) → Option ((Int × Int × Int × (List Int)) ⊕ (Nat × Nat × Int × Int × Int × (List Int)))) (f2 : (List Int) → Option (Int)) (x : Int × Int × Int × (List Int)) : Option (Int × Int × Int × Int × (List Int)) :=
  (Option.bind (f0 (x.1, x.2.1, x.2.2.1, x.2.2.2)) fun r1 =>
  (Option.bind (f1 ((8 : Int), r1.1, r1.2.1, r1.2.2.1, r1.2.2.2.1, r1.2.2.2.2)) fun r2 =>
  (match r2 with
  | .inl y3 =>
  (some ((0 : Int), y3.1, y3.2.1, y3.2.2.1, y3.2.2.2))
  | .inr z4 =>
  (agreeC (decide (z4.2.1 = 0)) false
  (some ((0 : Int), z4.2.2.1, z4.2.2.2.1, z4.2.2.2.2.1, z4.2.2.2.2.2))
  (cond (decide ((8 : Int) ≤ ((z4.2.1 : Nat) : Int)))
  ((let v5 : Nat := (0 + z4.1)
  (cond (cond (decide ((v5 + 8) ≤ (List.length z4.2.2.2.2.2))) true false)
  (Option.bind (f2 (List.take 8 (List.drop v5 z4.2.2.2.2.2))) fun r6 =>
  (some (r6, z4.2.2.1, z4.2.2.2.1, z4.2.2.2.2.1, z4.2.2.2.2.2)))
  none)))
  none)))))
theorem xdr_Reader_Hyper_v1_f (N : Nat) (f0 : Int × Int × Int × (List Int) → Option (Int × Int × Int × Int × (List Int))) (f1 : Int × Int × Int × Int × Int × (List Int) → Option ((Int × Int × Int × (List Int)) ⊕ (Nat × Nat × Int × Int × Int × (List Int)))) (f2 : (List Int) → Option (Int)) (x) : xdr_Reader_Hyper_v1_a N f0 f1 f2 x = fnStep Γ (xdr_Reader_Hyper_v1_CA N f0 f1 f2) (xdr_Reader_Hyper_v1_J N) 13 Try.f36.results.toList (xdr_Reader_Hyper_v1_g N) xdr_Reader_Hyper_v1_o xdr_Reader_Hyper_v1_c x := by kernel_rfl
theorem xdr_Reader_Hyper_v1_e (N : Nat) (x) : (xdr_Reader_Hyper_v1_g N).F x = fnStep Γ (xdr_Reader_Hyper_v1_C N) (xdr_Reader_Hyper_v1_J N) 13 Try.f36.results.toList (xdr_Reader_Hyper_v1_g N) xdr_Reader_Hyper_v1_o xdr_Reader_Hyper_v1_c x := by
  rw [← xdr_Reader_Hyper_v1_CE N]
  exact Eq.trans (by kernel_rfl) (xdr_Reader_Hyper_v1_f N (xdr_Reader_At) (xdr_Reader_take) (octet_Get N) x)
theorem xdr_Reader_Hyper_v1_y : Try.f36.body = some xdr_Reader_Hyper_v1_c := by kernel_rfl
theorem xdr_Reader_Hyper_v1_n : (Try.f36.name == "runtime.NumGoroutine") = false := by kernel_rfl
theorem xdr_Reader_Hyper_v1_ok (N : Nat) : FnDoes Try.prog 36 (xdr_Reader_Hyper_v1_g N) := fn_ok tabOK (xdr_Reader_Hyper_v1_t N) mixedOK (J := xdr_Reader_Hyper_v1_J N) (body := xdr_Reader_Hyper_v1_c) Try.func36 xdr_Reader_Hyper_v1_y xdr_Reader_Hyper_v1_n Try.ntmps36 (jok_from xdr_Reader_Hyper_v1_i trivial) rfl rfl (le_of_ble rfl) (xdr_Reader_Hyper_v1_e N)
noncomputable def xdr_Reader_Fixed_v1_c : Code := codeOf Try.f37.body
noncomputable def xdr_Reader_Fixed_v1_J (N : Nat) : Nat → Hint := fun cx => hintOf cx []
noncomputable def xdr_Reader_Fixed_v1_C (N : Nat) : Nat → List GS := fun k => tabOf k [(26, [xdr_Reader_At_g N]), (64, [xdr_Reader_fixed_g N])]
def xdr_Reader_Fixed_v1_o : List (Shp × List Nat) := [(⟨[(0, (.av (.one (.const (.slw 5 1)))))], [(.sh (.one (.const (.slw 4 1))), true), (.sh (.one (.int .i64)), true), (.sh (.one (.int .i64)), true), (.sh (.one (.int .i64)), false), (.sh (.arr (.int .u8) none), false), (.sh (.arr (.int .u8) none), false)]⟩, [])]
noncomputable def xdr_Reader_Fixed_v1_g (N : Nat) : GS := { ins := ⟨[(0, (.av (.one (.const (.ptr ⟨0, 0, 0, 0⟩))))), (1, (.av (.one (.int .i64))))], [(some (.one (.const (.slw 4 1))), true), (some (.one (.int .i64)), true), (some (.one (.int .i64)), true), (some (.one (.int .i64)), false), (some (.arr (.int .u8) none), false)]⟩, lend := [.keep, .keep], outs := xdr_Reader_Fixed_v1_o.map fun s => ssOf s.1, its := [.int, .int, .int, .int, .lst (.int .u8)], ots := [[.int, .int, .int, .lst (.int .u8), .lst (.int .u8)]], F := xdr_Reader_Fixed_v1 N }
noncomputable def xdr_Reader_Fixed_v1_CA (N : Nat) (f0 : Int × Int × Int × (List Int) → Option (Int × Int × Int × Int × (List Int))) (f1 : Int × Int × Int × Int × Int × (List Int) → Option (Int × Int × Int × (List Int) × (List Int))) : Nat → List GS := fun k => tabOf k [(26, [{ xdr_Reader_At_g N with F := f0 }]), (64, [{ xdr_Reader_fixed_g N with F := f1 }])]
theorem xdr_Reader_Fixed_v1_CE (N : Nat) : xdr_Reader_Fixed_v1_CA N (xdr_Reader_At) (xdr_Reader_fixed N) = xdr_Reader_Fixed_v1_C N := by kernel_rfl
theorem xdr_Reader_Fixed_v1_t (N : Nat) : TabC Try.prog (xdr_Reader_Fixed_v1_C N) := tab_ok ⟨⟨xdr_Reader_At_ok N, trivial⟩, ⟨xdr_Reader_fixed_ok N, trivial⟩, trivial⟩
theorem xdr_Reader_Fixed_v1_i : loopsOf xdr_Reader_Fixed_v1_c = [] := by kernel_rfl
noncomputable def xdr_Reader_Fixed_v1_a (N : Nat) (f0 : Int × Int × Int × (List Int) → Option (Int × Int × Int × Int × (List Int))) (f1 : Int × Int × Int × Int × Int × (List Int) → Option (Int × Int × Int × (List Int) × (List Int))) (x : Int × Int × Int × Int × (List Int)) : Option (Int × Int × Int × (List Int) × (List Int)) :=
  (Option.bind (f0 (x.2.1, x.2.2.1, x.2.2.2.1, x.2.2.2.2)) fun r1 =>
  (Option.bind (f1 (x.1, r1.1, r1.2.1, r1.2.2.1, r1.2.2.2.1, r1.2.2.2.2)) fun r2 =>
  (some (r2.1, r2.2.1, r2.2.2.1, r2.2.2.2.1, r2.2.2.2.2))))
theorem xdr_Reader_Fixed_v1_f (N : Nat) (f0 : Int × Int × Int × (List Int) → Option (Int × Int × Int × Int × (List Int))) (f1 : Int × Int × Int × Int × Int × (List Int) → Option (Int × Int × Int × (List Int) × (List Int))) (x) : xdr_Reader_Fixed_v1_a N f0 f1 x = fnStep Γ (xdr_Reader_Fixed_v1_CA N f0 f1) (xdr_Reader_Fixed_v1_J N) 10 Try.f37.results.toList (xdr_Reader_Fixed_v1_g N) xdr_Reader_Fixed_v1_o xdr_Reader_Fixed_v1_c x := by kernel_rfl
theorem xdr_Reader_Fixed_v1_e (N : Nat) (x) : (xdr_Reader_Fixed_v1_g N).F x = fnStep Γ (xdr_Reader_Fixed_v1_C N) (xdr_Reader_Fixed_v1_J N) 10 Try.f37.results.toList (xdr_Reader_Fixed_v1_g N) xdr_Reader_Fixed_v1_o xdr_Reader_Fixed_v1_c x := by
  rw [← xdr_Reader_Fixed_v1_CE N]
  exact Eq.trans (by kernel_rfl) (xdr_Reader_Fixed_v1_f N (xdr_Reader_At) (xdr_Reader_fixed N) x)
theorem xdr_Reader_Fixed_v1_y : Try.f37.body = some xdr_Reader_Fixed_v1_c := by kernel_rfl
theorem xdr_Reader_Fixed_v1_n : (Try.f37.name == "runtime.NumGoroutine") = false := by kernel_rfl
theorem xdr_Reader_Fixed_v1_ok (N : Nat) : FnDoes Try.prog 37 (xdr_Reader_Fixed_v1_g N) := fn_ok tabOK (xdr_Reader_Fixed_v1_t N) mixedOK (J := xdr_Reader_Fixed_v1_J N) (body := xdr_Reader_Fixed_v1_c) Try.func37 xdr_Reader_Fixed_v1_y xdr_Reader_Fixed_v1_n Try.ntmps37 (jok_from xdr_Reader_Fixed_v1_i trivial) rfl rfl (le_of_ble rfl) (xdr_Reader_Fixed_v1_e N)
noncomputable def granarylaw01_getNum_c : Code := codeOf Try.f40.body
noncomputable def granarylaw01_getNum_J (N : Nat) : Nat → Hint := fun cx => hintOf cx []
noncomputable def granarylaw01_getNum_C (N : Nat) : Nat → List GS := fun k => tabOf k [(34, [xdr_Reader_Uint_g N])]
def granarylaw01_getNum_o : List (Shp × List Nat) := [(⟨[(0, (.av (.one (.int .u32))))], [(.sh (.one (.const (.slw 4 1))), true), (.sh (.one (.int .i64)), true), (.sh (.one (.int .i64)), true), (.sh (.one (.int .i64)), false), (.sh (.arr (.int .u8) none), false)]⟩, [])]
noncomputable def granarylaw01_getNum_g (N : Nat) : GS := { ins := ⟨[(0, (.av (.one (.const (.ptr ⟨0, 0, 0, 0⟩)))))], [(some (.one (.const (.slw 4 1))), true), (some (.one (.int .i64)), true), (some (.one (.int .i64)), true), (some (.one (.int .i64)), false), (some (.arr (.int .u8) none), false)]⟩, lend := [.keep], outs := granarylaw01_getNum_o.map fun s => ssOf s.1, its := [.int, .int, .int, .lst (.int .u8)], ots := [[.int, .int, .int, .int, .lst (.int .u8)]], F := granarylaw01_getNum N }
noncomputable def granarylaw01_getNum_CA (N : Nat) (f0 : Int × Int × Int × (List Int) → Option (Int × Int × Int × Int × (List Int))) : Nat → List GS := fun k => tabOf k [(34, [{ xdr_Reader_Uint_g N with F := f0 }])]
theorem granarylaw01_getNum_CE (N : Nat) : granarylaw01_getNum_CA N (xdr_Reader_Uint N) = granarylaw01_getNum_C N := by kernel_rfl
theorem granarylaw01_getNum_t (N : Nat) : TabC Try.prog (granarylaw01_getNum_C N) := tab_ok ⟨⟨xdr_Reader_Uint_ok N, trivial⟩, trivial⟩
theorem granarylaw01_getNum_i : loopsOf granarylaw01_getNum_c = [] := by kernel_rfl
noncomputable def granarylaw01_getNum_a (N : Nat) (f0 : Int × Int × Int × (List Int) → Option (Int × Int × Int × Int × (List Int))) (x : Int × Int × Int × (List Int)) : Option (Int × Int × Int × Int × (List Int)) :=
  (Option.bind (f0 (x.1, x.2.1, x.2.2.1, x.2.2.2)) fun r1 =>
  (some (r1.1, r1.2.1, r1.2.2.1, r1.2.2.2.1, r1.2.2.2.2)))
theorem granarylaw01_getNum_f (N : Nat) (f0 : Int × Int × Int × (List Int) → Option (Int × Int × Int × Int × (List Int))) (x) : granarylaw01_getNum_a N f0 x = fnStep Γ (granarylaw01_getNum_CA N f0) (granarylaw01_getNum_J N) 5 Try.f40.results.toList (granarylaw01_getNum_g N) granarylaw01_getNum_o granarylaw01_getNum_c x := by kernel_rfl
theorem granarylaw01_getNum_e (N : Nat) (x) : (granarylaw01_getNum_g N).F x = fnStep Γ (granarylaw01_getNum_C N) (granarylaw01_getNum_J N) 5 Try.f40.results.toList (granarylaw01_getNum_g N) granarylaw01_getNum_o granarylaw01_getNum_c x := by
  rw [← granarylaw01_getNum_CE N]
  exact Eq.trans (by kernel_rfl) (granarylaw01_getNum_f N (xdr_Reader_Uint N) x)
theorem granarylaw01_getNum_y : Try.f40.body = some granarylaw01_getNum_c := by kernel_rfl
theorem granarylaw01_getNum_n : (Try.f40.name == "runtime.NumGoroutine") = false := by kernel_rfl
theorem granarylaw01_getNum_ok (N : Nat) : FnDoes Try.prog 40 (granarylaw01_getNum_g N) := fn_ok tabOK (granarylaw01_getNum_t N) mixedOK (J := granarylaw01_getNum_J N) (body := granarylaw01_getNum_c) Try.func40 granarylaw01_getNum_y granarylaw01_getNum_n Try.ntmps40 (jok_from granarylaw01_getNum_i trivial) rfl rfl (le_of_ble rfl) (granarylaw01_getNum_e N)
noncomputable def xdr_List_uint32_v1_c : Code := codeOf Try.f39.body
noncomputable def xdr_List_uint32_v1_c0 : Code := codeOf (getLoop 0 xdr_List_uint32_v1_c)
def xdr_List_uint32_v1_d0 : LD := { ins := ⟨[(0, (.av (.one (.const (.ptr ⟨0, 0, 0, 0⟩))))), (2, (.av (.one (.const (.fn 40 []))))), (7, (.av (.one (.const (.slw 5 1))))), (12, (.av (.one (.int .i64)))), (13, (.av (.one (.int .i64))))], [(.sh (.one (.const (.slw 4 1))), true), (.sh (.one (.int .i64)), true), (.sh (.one (.int .i64)), true), (.sh (.one (.int .i64)), false), (.sh (.arr (.int .u8) none), false), (.sh (.arr (.int .u32) none), false)]⟩, mov := [5], wr := [0, 1, 2, 3, 4], outs := [(.exit 0, ⟨[(7, (.av (.one (.const (.slw 6 1)))))], [(.sh (.one (.const (.slw 4 1))), true), (.sh (.one (.int .i64)), true), (.sh (.one (.int .i64)), true), (.sh (.one (.int .i64)), false), (.sh (.arr (.int .u8) none), false), (.dead, false), (.sh (.arr (.int .u32) none), false)]⟩)], its := [.int, .int, .int, .int, .int, .lst (.int .u8), .lst (.int .u32)], ots := [[.int, .int, .int, .lst (.int .u8), .lst (.int .u32)]] }
noncomputable def xdr_List_uint32_v1_J (N : Nat) : Nat → Hint := fun cx => hintOf cx [(0, { reg := fun k => assoc0 k [], cnd := fun k => assoc0 k [], loop := fun k => assoc0 k [(0, ⟨xdr_List_uint32_v1_d0, loopF (xdr_List_uint32_v1_b0 N) N⟩)], nil := fun k => assoc0 k [], unr := fun k => assocN k [], blk := fun k => assoc0 k [] })]
noncomputable def xdr_List_uint32_v1_C (N : Nat) : Nat → List GS := fun k => tabOf k [(55, [xdr_Reader_length_g N]), (56, [xdr_Reader_bad_g N]), (40, [granarylaw01_getNum_g N])]
def xdr_List_uint32_v1_o : List (Shp × List Nat) := [(⟨[(0, (.av (.one (.const (.slw 5 1)))))], [(.sh (.one (.const (.slw 4 1))), true), (.sh (.one (.int .i64)), true), (.sh (.one (.int .i64)), true), (.sh (.one (.int .i64)), false), (.sh (.arr (.int .u8) none), false), (.sh (.arr (.int .u32) none), false)]⟩, [])]
noncomputable def xdr_List_uint32_v1_g (N : Nat) : GS := { ins := ⟨[(0, (.av (.one (.const (.ptr ⟨0, 0, 0, 0⟩))))), (1, (.av (.one (.int .i64)))), (2, (.av (.one (.const (.fn 40 [])))))], [(some (.one (.const (.slw 4 1))), true), (some (.one (.int .i64)), true), (some (.one (.int .i64)), true), (some (.one (.int .i64)), false), (some (.arr (.int .u8) none), false)]⟩, lend := [.keep, .keep, .keep], outs := xdr_List_uint32_v1_o.map fun s => ssOf s.1, its := [.int, .int, .int, .int, .lst (.int .u8)], ots := [[.int, .int, .int, .lst (.int .u8), .lst (.int .u32)]], F := xdr_List_uint32_v1 N }
noncomputable def xdr_List_uint32_v1_CA (N : Nat) (f0 : Int × Int × Int × Int × (List Int) → Option (Int × Int × Int × Int × (List Int))) (f1 : Int × Int × Int × (List Int) → Option (Bool × Int × Int × Int × (List Int))) (f2 : Int × Int × Int × (List Int) → Option (Int × Int × Int × Int × (List Int))) : Nat → List GS := fun k => tabOf k [(55, [{ xdr_Reader_length_g N with F := f0 }]), (56, [{ xdr_Reader_bad_g N with F := f1 }]), (40, [{ granarylaw01_getNum_g N with F := f2 }])]
theorem xdr_List_uint32_v1_CE (N : Nat) : xdr_List_uint32_v1_CA N (xdr_Reader_length N) (xdr_Reader_bad) (granarylaw01_getNum N) = xdr_List_uint32_v1_C N := by kernel_rfl
theorem xdr_List_uint32_v1_t (N : Nat) : TabC Try.prog (xdr_List_uint32_v1_C N) := tab_ok ⟨⟨xdr_Reader_length_ok N, trivial⟩, ⟨xdr_Reader_bad_ok N, trivial⟩, ⟨granarylaw01_getNum_ok N, trivial⟩, trivial⟩
theorem xdr_List_uint32_v1_i0 : loopsOf xdr_List_uint32_v1_c0 = [] := by kernel_rfl
noncomputable def xdr_List_uint32_v1_a0 (N : Nat) (f0 : Int × Int × Int × Int × (List Int) → Option (Int × Int × Int × Int × (List Int))) (f1 : Int × Int × Int × (List Int) → Option (Bool × Int × Int × Int × (List Int))) (f2 : Int × Int × Int × (List Int) → Option (Int × Int × Int × Int × (List Int))) (next : Int × Int × Int × Int × Int × (List Int) × (List Int) → Option ((Int × Int × Int × (List Int) × (List Int)))) (x : Int × Int × Int × Int × Int × (List Int) × (List Int)) : Option ((Int × Int × Int × (List Int) × (List Int))) :=
  (cond (decide (x.2.1 < x.1))
  (Option.bind (f1 (x.2.2.1, x.2.2.2.1, x.2.2.2.2.1, x.2.2.2.2.2.1)) fun r2 =>
  (cond r2.1
  (some (r2.2.1, r2.2.2.1, r2.2.2.2.1, r2.2.2.2.2, x.2.2.2.2.2.2))
  (Option.bind (f2 (r2.2.1, r2.2.2.1, r2.2.2.2.1, r2.2.2.2.2)) fun r3 =>
  (let v4 : List Int := ([r3.1] : List Int)
  (cond ((decide (1 ≤ (List.length v4))) && (fits 4 ((List.length x.2.2.2.2.2.2) + (List.length (List.take 1 (List.drop 0 v4))))))
  ((next (x.1, (wrapF .i64 (x.2.1 + (1 : Int))), r3.2.1, r3.2.2.1, r3.2.2.2.1, r3.2.2.2.2, (x.2.2.2.2.2.2 ++ (List.take 1 (List.drop 0 v4))))))
  none)))))
  (some (x.2.2.1, x.2.2.2.1, x.2.2.2.2.1, x.2.2.2.2.2.1, x.2.2.2.2.2.2)))
theorem xdr_List_uint32_v1_f0 (N : Nat) (f0 : Int × Int × Int × Int × (List Int) → Option (Int × Int × Int × Int × (List Int))) (f1 : Int × Int × Int × (List Int) → Option (Bool × Int × Int × Int × (List Int))) (f2 : Int × Int × Int × (List Int) → Option (Int × Int × Int × Int × (List Int))) (next) (x) : xdr_List_uint32_v1_a0 N f0 f1 f2 next x = loopStep Γ (xdr_List_uint32_v1_CA N f0 f1 f2) (xdr_List_uint32_v1_J N) 0 27 xdr_List_uint32_v1_d0 xdr_List_uint32_v1_c0 next x := by kernel_rfl
theorem xdr_List_uint32_v1_e0 (N : Nat) (next) (x) : xdr_List_uint32_v1_b0 N next x = loopStep Γ (xdr_List_uint32_v1_C N) (xdr_List_uint32_v1_J N) 0 27 xdr_List_uint32_v1_d0 xdr_List_uint32_v1_c0 next x := by
  rw [← xdr_List_uint32_v1_CE N]
  exact Eq.trans (by kernel_rfl) (xdr_List_uint32_v1_f0 N (xdr_Reader_length N) (xdr_Reader_bad) (granarylaw01_getNum N) next x)
theorem xdr_List_uint32_v1_k0 (N : Nat) : LoopOK Try.prog 27 xdr_List_uint32_v1_c0 ⟨xdr_List_uint32_v1_d0, loopF (xdr_List_uint32_v1_b0 N) N⟩ := loop_ok tabOK (xdr_List_uint32_v1_t N) mixedOK (J := xdr_List_uint32_v1_J N) (cx := 0) (body := xdr_List_uint32_v1_c0) (nt := 27) (l := xdr_List_uint32_v1_d0) (b := xdr_List_uint32_v1_b0 N) (jok_from xdr_List_uint32_v1_i0 ⟨trivial, trivial⟩) (xdr_List_uint32_v1_e0 N) N
theorem xdr_List_uint32_v1_i : loopsOf xdr_List_uint32_v1_c = [(0, xdr_List_uint32_v1_c0)] := by kernel_rfl
noncomputable def xdr_List_uint32_v1_a (N : Nat) (f0 : Int × Int × Int × Int × (List Int) → Option (Int × Int × Int × Int × (List Int))) (f1 : Int × Int × Int × (List Int) → Option (Bool × Int × Int × Int × (List Int))) (f2 : Int × Int × Int × (List Int) → Option (Int × Int × Int × Int × (List Int))) (x : Int × Int × Int × Int × (List Int)) : Option (Int × Int × Int × (List Int) × (List Int)) :=
  (Option.bind (f0 (x.1, x.2.1, x.2.2.1, x.2.2.2.1, x.2.2.2.2)) fun r1 =>
  (Option.bind (xdr_List_uint32_v1_l0 N (r1.1, (0 : Int), r1.2.1, r1.2.2.1, r1.2.2.2.1, r1.2.2.2.2, ([] : List Int))) fun r2 =>
  (Option.bind (f1 (r2.1, r2.2.1, r2.2.2.1, r2.2.2.2.1)) fun r3 =>
  (cond r3.1
  (some (r3.2.1, r3.2.2.1, r3.2.2.2.1, r3.2.2.2.2, ([] : List Int)))
  (some (r3.2.1, r3.2.2.1, r3.2.2.2.1, r3.2.2.2.2, r2.2.2.2.2))))))
theorem xdr_List_uint32_v1_f (N : Nat) (f0 : Int × Int × Int × Int × (List Int) → Option (Int × Int × Int × Int × (List Int))) (f1 : Int × Int × Int × (List Int) → Option (Bool × Int × Int × Int × (List Int))) (f2 : Int × Int × Int × (List Int) → Option (Int × Int × Int × Int × (List Int))) (x) : xdr_List_uint32_v1_a N f0 f1 f2 x = fnStep Γ (xdr_List_uint32_v1_CA N f0 f1 f2) (xdr_List_uint32_v1_J N) 27 Try.f39.results.toList (xdr_List_uint32_v1_g N) xdr_List_uint32_v1_o xdr_List_uint32_v1_c x := by kernel_rfl
theorem xdr_List_uint32_v1_e (N : Nat) (x) : (xdr_List_uint32_v1_g N).F x = fnStep Γ (xdr_List_uint32_v1_C N) (xdr_List_uint32_v1_J N) 27 Try.f39.results.toList (xdr_List_uint32_v1_g N) xdr_List_uint32_v1_o xdr_List_uint32_v1_c x := by
  rw [← xdr_List_uint32_v1_CE N]
  exact Eq.trans (by kernel_rfl) (xdr_List_uint32_v1_f N (xdr_Reader_length N) (xdr_Reader_bad) (granarylaw01_getNum N) x)
theorem xdr_List_uint32_v1_y : Try.f39.body = some xdr_List_uint32_v1_c := by kernel_rfl
theorem xdr_List_uint32_v1_n : (Try.f39.name == "runtime.NumGoroutine") = false := by kernel_rfl
theorem xdr_List_uint32_v1_ok (N : Nat) : FnDoes Try.prog 39 (xdr_List_uint32_v1_g N) := fn_ok tabOK (xdr_List_uint32_v1_t N) mixedOK (J := xdr_List_uint32_v1_J N) (body := xdr_List_uint32_v1_c) Try.func39 xdr_List_uint32_v1_y xdr_List_uint32_v1_n Try.ntmps39 (jok_from xdr_List_uint32_v1_i ⟨⟨.inr ⟨_, rfl, xdr_List_uint32_v1_k0 N⟩, trivial⟩, trivial⟩) rfl rfl (le_of_ble rfl) (xdr_List_uint32_v1_e N)
noncomputable def granarylaw01_same_c : Code := codeOf Try.f38.body
noncomputable def granarylaw01_same_c0 : Code := codeOf (getLoop 0 granarylaw01_same_c)
def granarylaw01_same_d0 : LD := { ins := ⟨[(0, (.av (.one (.rsl (.int .u32))))), (1, (.av (.one (.rsl (.int .u32))))), (5, (.av (.one (.int .i64))))], []⟩, mov := [], wr := [], outs := [(.ret, ⟨[(4, (.av (.one (.const (.bool false)))))], []⟩), (.exit 0, ⟨[], []⟩)], its := [.lst (.int .u32), .lst (.int .u32), .int], ots := [[], []] }
noncomputable def granarylaw01_same_J (N : Nat) : Nat → Hint := fun cx => hintOf cx [(0, { reg := fun k => assoc0 k [], cnd := fun k => assoc0 k [], loop := fun k => assoc0 k [(0, ⟨granarylaw01_same_d0, loopF (granarylaw01_same_b0 N) N⟩)], nil := fun k => assoc0 k [], unr := fun k => assocN k [], blk := fun k => assoc0 k [] })]
noncomputable def granarylaw01_same_C (N : Nat) : Nat → List GS := fun k => tabOf k []
def granarylaw01_same_o : List (Shp × List Nat) := [(⟨[(0, (.av (.one .bool)))], []⟩, [])]
noncomputable def granarylaw01_same_g (N : Nat) : GS := { ins := ⟨[(0, (.av (.one (.rsl (.int .u32))))), (1, (.av (.one (.rsl (.int .u32)))))], []⟩, lend := [.lend (.int .u32), .keep], outs := granarylaw01_same_o.map fun s => ssOf s.1, its := [.lst (.int .u32), .lst (.int .u32)], ots := [[.bool]], F := granarylaw01_same N }
theorem granarylaw01_same_t (N : Nat) : TabC Try.prog (granarylaw01_same_C N) := tab_ok trivial
theorem granarylaw01_same_i0 : loopsOf granarylaw01_same_c0 = [] := by kernel_rfl
theorem granarylaw01_same_e0 (N : Nat) (next) (x) : granarylaw01_same_b0 N next x = loopStep Γ (granarylaw01_same_C N) (granarylaw01_same_J N) 0 26 granarylaw01_same_d0 granarylaw01_same_c0 next x := by kernel_rfl
theorem granarylaw01_same_k0 (N : Nat) : LoopOK Try.prog 26 granarylaw01_same_c0 ⟨granarylaw01_same_d0, loopF (granarylaw01_same_b0 N) N⟩ := loop_ok tabOK (granarylaw01_same_t N) mixedOK (J := granarylaw01_same_J N) (cx := 0) (body := granarylaw01_same_c0) (nt := 26) (l := granarylaw01_same_d0) (b := granarylaw01_same_b0 N) (jok_from granarylaw01_same_i0 ⟨trivial, trivial⟩) (granarylaw01_same_e0 N) N
theorem granarylaw01_same_i : loopsOf granarylaw01_same_c = [(0, granarylaw01_same_c0)] := by kernel_rfl
theorem granarylaw01_same_e (N : Nat) (x) : (granarylaw01_same_g N).F x = fnStep Γ (granarylaw01_same_C N) (granarylaw01_same_J N) 26 Try.f38.results.toList (granarylaw01_same_g N) granarylaw01_same_o granarylaw01_same_c x := by kernel_rfl
theorem granarylaw01_same_y : Try.f38.body = some granarylaw01_same_c := by kernel_rfl
theorem granarylaw01_same_n : (Try.f38.name == "runtime.NumGoroutine") = false := by kernel_rfl
theorem granarylaw01_same_ok (N : Nat) : FnDoes Try.prog 38 (granarylaw01_same_g N) := fn_ok tabOK (granarylaw01_same_t N) mixedOK (J := granarylaw01_same_J N) (body := granarylaw01_same_c) Try.func38 granarylaw01_same_y granarylaw01_same_n Try.ntmps38 (jok_from granarylaw01_same_i ⟨⟨.inr ⟨_, rfl, granarylaw01_same_k0 N⟩, trivial⟩, trivial⟩) rfl rfl (le_of_ble rfl) (granarylaw01_same_e N)
noncomputable def granarylaw01_texts_c : Code := codeOf Try.f41.body
noncomputable def granarylaw01_texts_c0 : Code := codeOf (getLoop 0 granarylaw01_texts_c)
def granarylaw01_texts_d0 : LD := { ins := ⟨[(0, (.av (.one (.rsl .str)))), (1, (.av (.one (.rsl .str)))), (5, (.av (.one (.int .i64))))], []⟩, mov := [], wr := [], outs := [(.ret, ⟨[(4, (.av (.one (.const (.bool false)))))], []⟩), (.exit 0, ⟨[], []⟩)], its := [.lst .str, .lst .str, .int], ots := [[], []] }
noncomputable def granarylaw01_texts_J (N : Nat) : Nat → Hint := fun cx => hintOf cx [(0, { reg := fun k => assoc0 k [], cnd := fun k => assoc0 k [], loop := fun k => assoc0 k [(0, ⟨granarylaw01_texts_d0, loopF (granarylaw01_texts_b0 N) N⟩)], nil := fun k => assoc0 k [], unr := fun k => assocN k [], blk := fun k => assoc0 k [] })]
noncomputable def granarylaw01_texts_C (N : Nat) : Nat → List GS := fun k => tabOf k []
def granarylaw01_texts_o : List (Shp × List Nat) := [(⟨[(0, (.av (.one .bool)))], []⟩, [])]
noncomputable def granarylaw01_texts_g (N : Nat) : GS := { ins := ⟨[(0, (.av (.one (.rsl .str)))), (1, (.av (.one (.rsl .str))))], []⟩, lend := [.lend .str, .keep], outs := granarylaw01_texts_o.map fun s => ssOf s.1, its := [.lst .str, .lst .str], ots := [[.bool]], F := granarylaw01_texts N }
theorem granarylaw01_texts_t (N : Nat) : TabC Try.prog (granarylaw01_texts_C N) := tab_ok trivial
theorem granarylaw01_texts_i0 : loopsOf granarylaw01_texts_c0 = [] := by kernel_rfl
theorem granarylaw01_texts_e0 (N : Nat) (next) (x) : granarylaw01_texts_b0 N next x = loopStep Γ (granarylaw01_texts_C N) (granarylaw01_texts_J N) 0 26 granarylaw01_texts_d0 granarylaw01_texts_c0 next x := by kernel_rfl
theorem granarylaw01_texts_k0 (N : Nat) : LoopOK Try.prog 26 granarylaw01_texts_c0 ⟨granarylaw01_texts_d0, loopF (granarylaw01_texts_b0 N) N⟩ := loop_ok tabOK (granarylaw01_texts_t N) mixedOK (J := granarylaw01_texts_J N) (cx := 0) (body := granarylaw01_texts_c0) (nt := 26) (l := granarylaw01_texts_d0) (b := granarylaw01_texts_b0 N) (jok_from granarylaw01_texts_i0 ⟨trivial, trivial⟩) (granarylaw01_texts_e0 N) N
theorem granarylaw01_texts_i : loopsOf granarylaw01_texts_c = [(0, granarylaw01_texts_c0)] := by kernel_rfl
theorem granarylaw01_texts_e (N : Nat) (x) : (granarylaw01_texts_g N).F x = fnStep Γ (granarylaw01_texts_C N) (granarylaw01_texts_J N) 26 Try.f41.results.toList (granarylaw01_texts_g N) granarylaw01_texts_o granarylaw01_texts_c x := by kernel_rfl
theorem granarylaw01_texts_y : Try.f41.body = some granarylaw01_texts_c := by kernel_rfl
theorem granarylaw01_texts_n : (Try.f41.name == "runtime.NumGoroutine") = false := by kernel_rfl
theorem granarylaw01_texts_ok (N : Nat) : FnDoes Try.prog 41 (granarylaw01_texts_g N) := fn_ok tabOK (granarylaw01_texts_t N) mixedOK (J := granarylaw01_texts_J N) (body := granarylaw01_texts_c) Try.func41 granarylaw01_texts_y granarylaw01_texts_n Try.ntmps41 (jok_from granarylaw01_texts_i ⟨⟨.inr ⟨_, rfl, granarylaw01_texts_k0 N⟩, trivial⟩, trivial⟩) rfl rfl (le_of_ble rfl) (granarylaw01_texts_e N)
noncomputable def xdr_Option_uint32_v1_c : Code := codeOf Try.f42.body
noncomputable def xdr_Option_uint32_v1_J (N : Nat) : Nat → Hint := fun cx => hintOf cx []
noncomputable def xdr_Option_uint32_v1_C (N : Nat) : Nat → List GS := fun k => tabOf k [(16, [xdr_Reader_Bool_g N]), (40, [granarylaw01_getNum_g N]), (56, [xdr_Reader_bad_g N])]
def xdr_Option_uint32_v1_o : List (Shp × List Nat) := [(⟨[(0, (.av (.one (.const .nilp))))], [(.sh (.one (.const (.slw 4 1))), true), (.sh (.one (.int .i64)), true), (.sh (.one (.int .i64)), true), (.sh (.one (.int .i64)), false), (.sh (.arr (.int .u8) none), false)]⟩, []), (⟨[(0, (.av (.one (.const (.ptr ⟨5, 0, 0, 0⟩)))))], [(.sh (.one (.const (.slw 4 1))), true), (.sh (.one (.int .i64)), true), (.sh (.one (.int .i64)), true), (.sh (.one (.int .i64)), false), (.sh (.arr (.int .u8) none), false), (.sh (.one (.int .u32)), false)]⟩, [])]
noncomputable def xdr_Option_uint32_v1_g (N : Nat) : GS := { ins := ⟨[(0, (.av (.one (.const (.ptr ⟨0, 0, 0, 0⟩))))), (1, (.av (.one (.const (.fn 40 [])))))], [(some (.one (.const (.slw 4 1))), true), (some (.one (.int .i64)), true), (some (.one (.int .i64)), true), (some (.one (.int .i64)), false), (some (.arr (.int .u8) none), false)]⟩, lend := [.keep, .keep], outs := xdr_Option_uint32_v1_o.map fun s => ssOf s.1, its := [.int, .int, .int, .lst (.int .u8)], ots := [[.int, .int, .int, .lst (.int .u8)], [.int, .int, .int, .lst (.int .u8), .int]], F := xdr_Option_uint32_v1 N }
noncomputable def xdr_Option_uint32_v1_CA (N : Nat) (f0 : Int × Int × Int × (List Int) → Option (Bool × Int × Int × Int × (List Int))) (f1 : Int × Int × Int × (List Int) → Option (Int × Int × Int × Int × (List Int))) (f2 : Int × Int × Int × (List Int) → Option (Bool × Int × Int × Int × (List Int))) : Nat → List GS := fun k => tabOf k [(16, [{ xdr_Reader_Bool_g N with F := f0 }]), (40, [{ granarylaw01_getNum_g N with F := f1 }]), (56, [{ xdr_Reader_bad_g N with F := f2 }])]
theorem xdr_Option_uint32_v1_CE (N : Nat) : xdr_Option_uint32_v1_CA N (xdr_Reader_Bool N) (granarylaw01_getNum N) (xdr_Reader_bad) = xdr_Option_uint32_v1_C N := by kernel_rfl
theorem xdr_Option_uint32_v1_t (N : Nat) : TabC Try.prog (xdr_Option_uint32_v1_C N) := tab_ok ⟨⟨xdr_Reader_Bool_ok N, trivial⟩, ⟨granarylaw01_getNum_ok N, trivial⟩, ⟨xdr_Reader_bad_ok N, trivial⟩, trivial⟩
theorem xdr_Option_uint32_v1_i : loopsOf xdr_Option_uint32_v1_c = [] := by kernel_rfl
noncomputable def xdr_Option_uint32_v1_a (N : Nat) (f0 : Int × Int × Int × (List Int) → Option (Bool × Int × Int × Int × (List Int))) (f1 : Int × Int × Int × (List Int) → Option (Int × Int × Int × Int × (List Int))) (f2 : Int × Int × Int × (List Int) → Option (Bool × Int × Int × Int × (List Int))) (x : Int × Int × Int × (List Int)) : Option ((Int × Int × Int × (List Int)) ⊕ (Int × Int × Int × (List Int) × Int)) :=
  (Option.bind (f0 (x.1, x.2.1, x.2.2.1, x.2.2.2)) fun r1 =>
  (cond (!r1.1)
  (some (.inl (r1.2.1, r1.2.2.1, r1.2.2.2.1, r1.2.2.2.2)))
  (Option.bind (f1 (r1.2.1, r1.2.2.1, r1.2.2.2.1, r1.2.2.2.2)) fun r3 =>
  (Option.bind (f2 (r3.2.1, r3.2.2.1, r3.2.2.2.1, r3.2.2.2.2)) fun r4 =>
  (cond r4.1
  (some (.inl (r4.2.1, r4.2.2.1, r4.2.2.2.1, r4.2.2.2.2)))
  (some (.inr ((r4.2.1, r4.2.2.1, r4.2.2.2.1, r4.2.2.2.2, r3.1)))))))))
theorem xdr_Option_uint32_v1_f (N : Nat) (f0 : Int × Int × Int × (List Int) → Option (Bool × Int × Int × Int × (List Int))) (f1 : Int × Int × Int × (List Int) → Option (Int × Int × Int × Int × (List Int))) (f2 : Int × Int × Int × (List Int) → Option (Bool × Int × Int × Int × (List Int))) (x) : xdr_Option_uint32_v1_a N f0 f1 f2 x = fnStep Γ (xdr_Option_uint32_v1_CA N f0 f1 f2) (xdr_Option_uint32_v1_J N) 14 Try.f42.results.toList (xdr_Option_uint32_v1_g N) xdr_Option_uint32_v1_o xdr_Option_uint32_v1_c x := by kernel_rfl
theorem xdr_Option_uint32_v1_e (N : Nat) (x) : (xdr_Option_uint32_v1_g N).F x = fnStep Γ (xdr_Option_uint32_v1_C N) (xdr_Option_uint32_v1_J N) 14 Try.f42.results.toList (xdr_Option_uint32_v1_g N) xdr_Option_uint32_v1_o xdr_Option_uint32_v1_c x := by
  rw [← xdr_Option_uint32_v1_CE N]
  exact Eq.trans (by kernel_rfl) (xdr_Option_uint32_v1_f N (xdr_Reader_Bool N) (granarylaw01_getNum N) (xdr_Reader_bad) x)
theorem xdr_Option_uint32_v1_y : Try.f42.body = some xdr_Option_uint32_v1_c := by kernel_rfl
theorem xdr_Option_uint32_v1_n : (Try.f42.name == "runtime.NumGoroutine") = false := by kernel_rfl
theorem xdr_Option_uint32_v1_ok (N : Nat) : FnDoes Try.prog 42 (xdr_Option_uint32_v1_g N) := fn_ok tabOK (xdr_Option_uint32_v1_t N) mixedOK (J := xdr_Option_uint32_v1_J N) (body := xdr_Option_uint32_v1_c) Try.func42 xdr_Option_uint32_v1_y xdr_Option_uint32_v1_n Try.ntmps42 (jok_from xdr_Option_uint32_v1_i trivial) rfl rfl (le_of_ble rfl) (xdr_Option_uint32_v1_e N)
end Go.Rf.W
