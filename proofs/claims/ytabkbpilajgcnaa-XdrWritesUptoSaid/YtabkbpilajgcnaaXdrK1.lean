/-
  The printed functions are what the program does.
-/
import Derived.Test.YtabkbpilajgcnaaXdrK0
set_option linter.unusedVariables false
set_option maxRecDepth 100000
namespace Go.Rf.W
open Go Go.Rf Go.Proofs
noncomputable def xdr_PutChain_string_v2_c : Code := codeOf Try.f23.body
noncomputable def xdr_PutChain_string_v2_c0 : Code := codeOf (getLoop 0 xdr_PutChain_string_v2_c)
def xdr_PutChain_string_v2_d0 : LD := { ins := ⟨[(0, (.av (.one (.const (.ptr ⟨0, 0, 0, 0⟩))))), (2, (.av (.one (.const (.fn 22 []))))), (10, (.av (.one (.rsl .str)))), (11, (.av (.one (.int .i64)))), (12, (.av (.one (.int .i64))))], [(.sh (.one (.const (.slw 2 1))), true), (.sh (.one (.int .i64)), false), (.sh (.arr (.int .u8) none), false)]⟩, mov := [2], wr := [0, 1], outs := [(.exit 0, ⟨[], [(.sh (.one (.const (.slw 3 1))), true), (.sh (.one (.int .i64)), false), (.dead, false), (.sh (.arr (.int .u8) none), false)]⟩)], its := [.lst .str, .int, .int, .int, .lst (.int .u8)], ots := [[.int, .lst (.int .u8)]] }
noncomputable def xdr_PutChain_string_v2_J (N : Nat) : Nat → Hint := fun cx => hintOf cx [(0, { reg := fun k => assoc0 k [], cnd := fun k => assoc0 k [], loop := fun k => assoc0 k [(0, ⟨xdr_PutChain_string_v2_d0, loopF (xdr_PutChain_string_v2_b0 N) N⟩)], nil := fun k => assoc0 k [], unr := fun k => assocN k [], blk := fun k => assoc0 k [] })]
noncomputable def xdr_PutChain_string_v2_C (N : Nat) : Nat → List GS := fun k => tabOf k [(58, [xdr_Writer_bad_v1_g N]), (15, [xdr_Writer_Bool_v2_g N]), (22, [granarylaw01_putText_g N])]
def xdr_PutChain_string_v2_o : List (Shp × List Nat) := [(⟨[(0, (.tup []))], [(.sh (.one (.const (.slw 3 1))), true), (.sh (.one (.int .i64)), false), (.dead, false), (.sh (.arr (.int .u8) none), false)]⟩, [2])]
noncomputable def xdr_PutChain_string_v2_g (N : Nat) : GS := { ins := ⟨[(0, (.av (.one (.const (.ptr ⟨0, 0, 0, 0⟩))))), (1, (.av (.one (.rsl .str)))), (2, (.av (.one (.const (.fn 22 [])))))], [(some (.one (.const (.slw 2 1))), true), (some (.one (.int .i64)), false), (some (.arr (.int .u8) none), false)]⟩, lend := [.keep, .keep, .keep], outs := xdr_PutChain_string_v2_o.map fun s => ssOf s.1, its := [.lst .str, .int, .lst (.int .u8)], ots := [[.int, .lst (.int .u8)]], F := xdr_PutChain_string_v2 N }
noncomputable def xdr_PutChain_string_v2_CA (N : Nat) (f0 : Int × (List Int) → Option (Bool × Int × (List Int))) (f1 : Bool × Int × (List Int) → Option (Int × (List Int))) (f2 : (List UInt8) × Int × (List Int) → Option (Int × (List Int))) : Nat → List GS := fun k => tabOf k [(58, [{ xdr_Writer_bad_v1_g N with F := f0 }]), (15, [{ xdr_Writer_Bool_v2_g N with F := f1 }]), (22, [{ granarylaw01_putText_g N with F := f2 }])]
theorem xdr_PutChain_string_v2_CE (N : Nat) : xdr_PutChain_string_v2_CA N (xdr_Writer_bad_v1) (xdr_Writer_Bool_v2 N) (granarylaw01_putText N) = xdr_PutChain_string_v2_C N := by kernel_rfl
theorem xdr_PutChain_string_v2_t (N : Nat) : TabC Try.prog (xdr_PutChain_string_v2_C N) := tab_ok ⟨⟨xdr_Writer_bad_v1_ok N, trivial⟩, ⟨xdr_Writer_Bool_v2_ok N, trivial⟩, ⟨granarylaw01_putText_ok N, trivial⟩, trivial⟩
theorem xdr_PutChain_string_v2_i0 : loopsOf xdr_PutChain_string_v2_c0 = [] := by kernel_rfl
noncomputable def xdr_PutChain_string_v2_a0 (N : Nat) (f0 : Int × (List Int) → Option (Bool × Int × (List Int))) (f1 : Bool × Int × (List Int) → Option (Int × (List Int))) (f2 : (List UInt8) × Int × (List Int) → Option (Int × (List Int))) (next : (List (List UInt8)) × Int × Int × Int × (List Int) → Option ((Int × (List Int)))) (x : (List (List UInt8)) × Int × Int × Int × (List Int)) : Option ((Int × (List Int))) :=
  (cond (decide (x.2.2.1 < x.2.1))
  (cond ((decide ((0 : Int) ≤ x.2.2.1)) && (decide (x.2.2.1 < (((List.length x.1) : Nat) : Int))))
  ((Option.bind (f1 (true, x.2.2.2.1, x.2.2.2.2)) fun r3 =>
  (Option.bind (f2 ((List.getD x.1 (Int.toNat x.2.2.1) (EK.dflt .str)), r3.1, r3.2)) fun r4 =>
  (next (x.1, x.2.1, (wrapF .i64 (x.2.2.1 + (1 : Int))), r4.1, r4.2)))))
  none)
  (some (x.2.2.2.1, x.2.2.2.2)))
theorem xdr_PutChain_string_v2_f0 (N : Nat) (f0 : Int × (List Int) → Option (Bool × Int × (List Int))) (f1 : Bool × Int × (List Int) → Option (Int × (List Int))) (f2 : (List UInt8) × Int × (List Int) → Option (Int × (List Int))) (next) (x) : xdr_PutChain_string_v2_a0 N f0 f1 f2 next x = loopStep Γ (xdr_PutChain_string_v2_CA N f0 f1 f2) (xdr_PutChain_string_v2_J N) 0 25 xdr_PutChain_string_v2_d0 xdr_PutChain_string_v2_c0 next x := by kernel_rfl
theorem xdr_PutChain_string_v2_e0 (N : Nat) (next) (x) : xdr_PutChain_string_v2_b0 N next x = loopStep Γ (xdr_PutChain_string_v2_C N) (xdr_PutChain_string_v2_J N) 0 25 xdr_PutChain_string_v2_d0 xdr_PutChain_string_v2_c0 next x := by
  rw [← xdr_PutChain_string_v2_CE N]
  exact Eq.trans (by kernel_rfl) (xdr_PutChain_string_v2_f0 N (xdr_Writer_bad_v1) (xdr_Writer_Bool_v2 N) (granarylaw01_putText N) next x)
theorem xdr_PutChain_string_v2_k0 (N : Nat) : LoopOK Try.prog 25 xdr_PutChain_string_v2_c0 ⟨xdr_PutChain_string_v2_d0, loopF (xdr_PutChain_string_v2_b0 N) N⟩ := loop_ok tabOK (xdr_PutChain_string_v2_t N) mixedOK (J := xdr_PutChain_string_v2_J N) (cx := 0) (body := xdr_PutChain_string_v2_c0) (nt := 25) (l := xdr_PutChain_string_v2_d0) (b := xdr_PutChain_string_v2_b0 N) (jok_from xdr_PutChain_string_v2_i0 ⟨trivial, trivial⟩) (xdr_PutChain_string_v2_e0 N) N
theorem xdr_PutChain_string_v2_i : loopsOf xdr_PutChain_string_v2_c = [(0, xdr_PutChain_string_v2_c0)] := by kernel_rfl
noncomputable def xdr_PutChain_string_v2_a (N : Nat) (f0 : Int × (List Int) → Option (Bool × Int × (List Int))) (f1 : Bool × Int × (List Int) → Option (Int × (List Int))) (f2 : (List UInt8) × Int × (List Int) → Option (Int × (List Int))) (x : (List (List UInt8)) × Int × (List Int)) : Option (Int × (List Int)) :=
  (Option.bind (f0 (x.2.1, x.2.2)) fun r1 =>
  (cond r1.1
  (some (r1.2.1, r1.2.2))
  (Option.bind (xdr_PutChain_string_v2_l0 N (x.1, (((List.length x.1) : Nat) : Int), (0 : Int), r1.2.1, r1.2.2)) fun r3 =>
  (Option.bind (f1 (false, r3.1, r3.2)) fun r4 =>
  (some (r4.1, r4.2))))))
theorem xdr_PutChain_string_v2_f (N : Nat) (f0 : Int × (List Int) → Option (Bool × Int × (List Int))) (f1 : Bool × Int × (List Int) → Option (Int × (List Int))) (f2 : (List UInt8) × Int × (List Int) → Option (Int × (List Int))) (x) : xdr_PutChain_string_v2_a N f0 f1 f2 x = fnStep Γ (xdr_PutChain_string_v2_CA N f0 f1 f2) (xdr_PutChain_string_v2_J N) 25 Try.f23.results.toList (xdr_PutChain_string_v2_g N) xdr_PutChain_string_v2_o xdr_PutChain_string_v2_c x := by kernel_rfl
theorem xdr_PutChain_string_v2_e (N : Nat) (x) : (xdr_PutChain_string_v2_g N).F x = fnStep Γ (xdr_PutChain_string_v2_C N) (xdr_PutChain_string_v2_J N) 25 Try.f23.results.toList (xdr_PutChain_string_v2_g N) xdr_PutChain_string_v2_o xdr_PutChain_string_v2_c x := by
  rw [← xdr_PutChain_string_v2_CE N]
  exact Eq.trans (by kernel_rfl) (xdr_PutChain_string_v2_f N (xdr_Writer_bad_v1) (xdr_Writer_Bool_v2 N) (granarylaw01_putText N) x)
theorem xdr_PutChain_string_v2_y : Try.f23.body = some xdr_PutChain_string_v2_c := by kernel_rfl
theorem xdr_PutChain_string_v2_n : (Try.f23.name == "runtime.NumGoroutine") = false := by kernel_rfl
theorem xdr_PutChain_string_v2_ok (N : Nat) : FnDoes Try.prog 23 (xdr_PutChain_string_v2_g N) := fn_ok tabOK (xdr_PutChain_string_v2_t N) mixedOK (J := xdr_PutChain_string_v2_J N) (body := xdr_PutChain_string_v2_c) Try.func23 xdr_PutChain_string_v2_y xdr_PutChain_string_v2_n Try.ntmps23 (jok_from xdr_PutChain_string_v2_i ⟨⟨.inr ⟨_, rfl, xdr_PutChain_string_v2_k0 N⟩, trivial⟩, trivial⟩) rfl rfl (le_of_ble rfl) (xdr_PutChain_string_v2_e N)
noncomputable def xdr_PutOption_uint32_v1_c : Code := codeOf Try.f33.body
noncomputable def xdr_PutOption_uint32_v1_J (N : Nat) : Nat → Hint := fun cx => hintOf cx []
noncomputable def xdr_PutOption_uint32_v1_C (N : Nat) : Nat → List GS := fun k => tabOf k [(58, [xdr_Writer_bad_v1_g N]), (15, [xdr_Writer_Bool_v2_g N]), (32, [granarylaw01_putNum_g N])]
def xdr_PutOption_uint32_v1_o : List (Shp × List Nat) := [(⟨[(0, (.tup []))], [(.sh (.one (.const (.slw 4 1))), true), (.sh (.one (.int .i64)), false), (.sh (.one (.int .u32)), false), (.dead, false), (.sh (.arr (.int .u8) none), false)]⟩, [3])]
noncomputable def xdr_PutOption_uint32_v1_g (N : Nat) : GS := { ins := ⟨[(0, (.av (.one (.const (.ptr ⟨0, 0, 0, 0⟩))))), (1, (.av (.one (.const (.ptr ⟨2, 0, 0, 0⟩))))), (2, (.av (.one (.const (.fn 32 [])))))], [(some (.one (.const (.slw 3 1))), true), (some (.one (.int .i64)), false), (some (.one (.int .u32)), false), (some (.arr (.int .u8) none), false)]⟩, lend := [.keep, .keep, .keep], outs := xdr_PutOption_uint32_v1_o.map fun s => ssOf s.1, its := [.int, .int, .lst (.int .u8)], ots := [[.int, .int, .lst (.int .u8)]], F := xdr_PutOption_uint32_v1 N }
noncomputable def xdr_PutOption_uint32_v1_CA (N : Nat) (f0 : Int × (List Int) → Option (Bool × Int × (List Int))) (f1 : Bool × Int × (List Int) → Option (Int × (List Int))) (f2 : Int × Int × (List Int) → Option (Int × (List Int))) : Nat → List GS := fun k => tabOf k [(58, [{ xdr_Writer_bad_v1_g N with F := f0 }]), (15, [{ xdr_Writer_Bool_v2_g N with F := f1 }]), (32, [{ granarylaw01_putNum_g N with F := f2 }])]
theorem xdr_PutOption_uint32_v1_CE (N : Nat) : xdr_PutOption_uint32_v1_CA N (xdr_Writer_bad_v1) (xdr_Writer_Bool_v2 N) (granarylaw01_putNum N) = xdr_PutOption_uint32_v1_C N := by kernel_rfl
theorem xdr_PutOption_uint32_v1_t (N : Nat) : TabC Try.prog (xdr_PutOption_uint32_v1_C N) := tab_ok ⟨⟨xdr_Writer_bad_v1_ok N, trivial⟩, ⟨xdr_Writer_Bool_v2_ok N, trivial⟩, ⟨granarylaw01_putNum_ok N, trivial⟩, trivial⟩
theorem xdr_PutOption_uint32_v1_i : loopsOf xdr_PutOption_uint32_v1_c = [] := by kernel_rfl
noncomputable def xdr_PutOption_uint32_v1_a (N : Nat) (f0 : Int × (List Int) → Option (Bool × Int × (List Int))) (f1 : Bool × Int × (List Int) → Option (Int × (List Int))) (f2 : Int × Int × (List Int) → Option (Int × (List Int))) (x : Int × Int × (List Int)) : Option (Int × Int × (List Int)) :=
  (Option.bind (f0 (x.1, x.2.2)) fun r1 =>
  (cond r1.1
  (some (r1.2.1, x.2.1, r1.2.2))
  (Option.bind (f1 (true, r1.2.1, r1.2.2)) fun r2 =>
  (Option.bind (f2 (x.2.1, r2.1, r2.2)) fun r3 =>
  (some (r3.1, x.2.1, r3.2))))))
theorem xdr_PutOption_uint32_v1_f (N : Nat) (f0 : Int × (List Int) → Option (Bool × Int × (List Int))) (f1 : Bool × Int × (List Int) → Option (Int × (List Int))) (f2 : Int × Int × (List Int) → Option (Int × (List Int))) (x) : xdr_PutOption_uint32_v1_a N f0 f1 f2 x = fnStep Γ (xdr_PutOption_uint32_v1_CA N f0 f1 f2) (xdr_PutOption_uint32_v1_J N) 20 Try.f33.results.toList (xdr_PutOption_uint32_v1_g N) xdr_PutOption_uint32_v1_o xdr_PutOption_uint32_v1_c x := by kernel_rfl
theorem xdr_PutOption_uint32_v1_e (N : Nat) (x) : (xdr_PutOption_uint32_v1_g N).F x = fnStep Γ (xdr_PutOption_uint32_v1_C N) (xdr_PutOption_uint32_v1_J N) 20 Try.f33.results.toList (xdr_PutOption_uint32_v1_g N) xdr_PutOption_uint32_v1_o xdr_PutOption_uint32_v1_c x := by
  rw [← xdr_PutOption_uint32_v1_CE N]
  exact Eq.trans (by kernel_rfl) (xdr_PutOption_uint32_v1_f N (xdr_Writer_bad_v1) (xdr_Writer_Bool_v2 N) (granarylaw01_putNum N) x)
theorem xdr_PutOption_uint32_v1_y : Try.f33.body = some xdr_PutOption_uint32_v1_c := by kernel_rfl
theorem xdr_PutOption_uint32_v1_n : (Try.f33.name == "runtime.NumGoroutine") = false := by kernel_rfl
theorem xdr_PutOption_uint32_v1_ok (N : Nat) : FnDoes Try.prog 33 (xdr_PutOption_uint32_v1_g N) := fn_ok tabOK (xdr_PutOption_uint32_v1_t N) mixedOK (J := xdr_PutOption_uint32_v1_J N) (body := xdr_PutOption_uint32_v1_c) Try.func33 xdr_PutOption_uint32_v1_y xdr_PutOption_uint32_v1_n Try.ntmps33 (jok_from xdr_PutOption_uint32_v1_i trivial) rfl rfl (le_of_ble rfl) (xdr_PutOption_uint32_v1_e N)
noncomputable def granarylaw01_huge_c : Code := codeOf Try.f7.body
noncomputable def granarylaw01_huge_c0 : Code := codeOf (getLoop 0 granarylaw01_huge_c)
noncomputable def granarylaw01_huge_c2 : Code := codeOf (getLoop 2 granarylaw01_huge_c)
def granarylaw01_huge_d2 : LD := { ins := ⟨[(0, (.av (.one (.rsl (.pair (.int .i64) (.pair (.int .u64) (.pair (.sl (.int .u8)) (.pair (.int .i64) (.pair (.sl (.int .u32)) (.pair (.sl .str) .unit)))))))))), (3, (.av (.one (.int .i64)))), (4, (.av (.one (.int .i64)))), (5, (.av (.one (.int .i64))))], []⟩, mov := [], wr := [], outs := [(.exit 2, ⟨[(3, (.av (.one (.int .i64))))], []⟩)], its := [.lst (.pair (.int .i64) (.pair (.int .u64) (.pair (.sl (.int .u8)) (.pair (.int .i64) (.pair (.sl (.int .u32)) (.pair (.sl .str) .unit)))))), .int, .int, .int], ots := [[.int]] }
def granarylaw01_huge_d0 : LD := { ins := ⟨[(0, (.av (.one (.rsl (.pair (.int .i64) (.pair (.int .u64) (.pair (.sl (.int .u8)) (.pair (.int .i64) (.pair (.sl (.int .u32)) (.pair (.sl .str) .unit)))))))))), (3, (.av (.one (.int .i64)))), (4, (.av (.one (.int .i64))))], []⟩, mov := [], wr := [], outs := [(.exit 0, ⟨[(3, (.av (.one (.int .i64))))], []⟩)], its := [.lst (.pair (.int .i64) (.pair (.int .u64) (.pair (.sl (.int .u8)) (.pair (.int .i64) (.pair (.sl (.int .u32)) (.pair (.sl .str) .unit)))))), .int, .int], ots := [[.int]] }
noncomputable def granarylaw01_huge_J (N : Nat) : Nat → Hint := fun cx => hintOf cx [(0, { reg := fun k => assoc0 k [(3, ⟨⟨[(13, (.av (.one .bool)))], []⟩, [], [], [.bool]⟩), (7, ⟨⟨[(43, (.av (.one .bool)))], []⟩, [], [], [.bool]⟩), (10, ⟨⟨[(2, (.av (.one .bool)))], []⟩, [], [], [.bool]⟩)], cnd := fun k => assoc0 k [], loop := fun k => assoc0 k [(2, ⟨granarylaw01_huge_d2, loopF (granarylaw01_huge_b2 N) N⟩), (0, ⟨granarylaw01_huge_d0, loopF (granarylaw01_huge_b0 N) N⟩)], nil := fun k => assoc0 k [], unr := fun k => assocN k [], blk := fun k => assoc0 k [] })]
noncomputable def granarylaw01_huge_C (N : Nat) : Nat → List GS := fun k => tabOf k []
def granarylaw01_huge_o : List (Shp × List Nat) := [(⟨[(0, (.av (.one .bool)))], []⟩, [])]
noncomputable def granarylaw01_huge_g (N : Nat) : GS := { ins := ⟨[(0, (.av (.one (.rsl (.pair (.int .i64) (.pair (.int .u64) (.pair (.sl (.int .u8)) (.pair (.int .i64) (.pair (.sl (.int .u32)) (.pair (.sl .str) .unit))))))))))], []⟩, lend := [.keep], outs := granarylaw01_huge_o.map fun s => ssOf s.1, its := [.lst (.pair (.int .i64) (.pair (.int .u64) (.pair (.sl (.int .u8)) (.pair (.int .i64) (.pair (.sl (.int .u32)) (.pair (.sl .str) .unit))))))], ots := [[.bool]], F := granarylaw01_huge N }
theorem granarylaw01_huge_t (N : Nat) : TabC Try.prog (granarylaw01_huge_C N) := tab_ok trivial
theorem granarylaw01_huge_i2 : loopsOf granarylaw01_huge_c2 = [] := by kernel_rfl
theorem granarylaw01_huge_e2 (N : Nat) (next) (x) : granarylaw01_huge_b2 N next x = loopStep Γ (granarylaw01_huge_C N) (granarylaw01_huge_J N) 0 65 granarylaw01_huge_d2 granarylaw01_huge_c2 next x := by kernel_rfl
theorem granarylaw01_huge_k2 (N : Nat) : LoopOK Try.prog 65 granarylaw01_huge_c2 ⟨granarylaw01_huge_d2, loopF (granarylaw01_huge_b2 N) N⟩ := loop_ok tabOK (granarylaw01_huge_t N) mixedOK (J := granarylaw01_huge_J N) (cx := 0) (body := granarylaw01_huge_c2) (nt := 65) (l := granarylaw01_huge_d2) (b := granarylaw01_huge_b2 N) (jok_from granarylaw01_huge_i2 ⟨trivial, trivial⟩) (granarylaw01_huge_e2 N) N
theorem granarylaw01_huge_i0 : loopsOf granarylaw01_huge_c0 = [(2, granarylaw01_huge_c2)] := by kernel_rfl
theorem granarylaw01_huge_e0 (N : Nat) (next) (x) : granarylaw01_huge_b0 N next x = loopStep Γ (granarylaw01_huge_C N) (granarylaw01_huge_J N) 0 65 granarylaw01_huge_d0 granarylaw01_huge_c0 next x := by kernel_rfl
theorem granarylaw01_huge_k0 (N : Nat) : LoopOK Try.prog 65 granarylaw01_huge_c0 ⟨granarylaw01_huge_d0, loopF (granarylaw01_huge_b0 N) N⟩ := loop_ok tabOK (granarylaw01_huge_t N) mixedOK (J := granarylaw01_huge_J N) (cx := 0) (body := granarylaw01_huge_c0) (nt := 65) (l := granarylaw01_huge_d0) (b := granarylaw01_huge_b0 N) (jok_from granarylaw01_huge_i0 ⟨⟨.inr ⟨_, rfl, granarylaw01_huge_k2 N⟩, trivial⟩, trivial⟩) (granarylaw01_huge_e0 N) N
theorem granarylaw01_huge_i : loopsOf granarylaw01_huge_c = [(0, granarylaw01_huge_c0), (2, granarylaw01_huge_c2)] := by kernel_rfl
theorem granarylaw01_huge_e (N : Nat) (x) : (granarylaw01_huge_g N).F x = fnStep Γ (granarylaw01_huge_C N) (granarylaw01_huge_J N) 65 Try.f7.results.toList (granarylaw01_huge_g N) granarylaw01_huge_o granarylaw01_huge_c x := by kernel_rfl
theorem granarylaw01_huge_y : Try.f7.body = some granarylaw01_huge_c := by kernel_rfl
theorem granarylaw01_huge_n : (Try.f7.name == "runtime.NumGoroutine") = false := by kernel_rfl
theorem granarylaw01_huge_ok (N : Nat) : FnDoes Try.prog 7 (granarylaw01_huge_g N) := fn_ok tabOK (granarylaw01_huge_t N) mixedOK (J := granarylaw01_huge_J N) (body := granarylaw01_huge_c) Try.func7 granarylaw01_huge_y granarylaw01_huge_n Try.ntmps7 (jok_from granarylaw01_huge_i ⟨⟨.inr ⟨_, rfl, granarylaw01_huge_k0 N⟩, .inr ⟨_, rfl, granarylaw01_huge_k2 N⟩, trivial⟩, trivial⟩) rfl rfl (le_of_ble rfl) (granarylaw01_huge_e N)
noncomputable def granaryref01_Writer_Uint_c : Code := codeOf Try.f48.body
noncomputable def granaryref01_Writer_Uint_J (N : Nat) : Nat → Hint := fun cx => hintOf cx [(0, { reg := fun k => assoc0 k [], cnd := fun k => assoc0 k [(8, ⟨[], [0], [(.normal, ⟨[], [(.sh (.one (.const (.slw 2 1))), true), (.keep, false), (.sh (.arr (.int .u8) none), false)]⟩)], [[.lst (.int .u8)]]⟩)], loop := fun k => assoc0 k [], nil := fun k => assoc0 k [], unr := fun k => assocN k [], blk := fun k => assoc0 k [] })]
noncomputable def granaryref01_Writer_Uint_C (N : Nat) : Nat → List GS := fun k => tabOf k []
def granaryref01_Writer_Uint_o : List (Shp × List Nat) := [(⟨[(0, (.tup []))], [(.sh (.one (.const (.slw 2 1))), true), (.sh (.one (.int .i64)), false), (.sh (.arr (.int .u8) none), false)]⟩, [])]
noncomputable def granaryref01_Writer_Uint_g (N : Nat) : GS := { ins := ⟨[(0, (.av (.one (.const (.ptr ⟨0, 0, 0, 0⟩))))), (1, (.av (.one (.int .u32))))], [(some (.one (.const .nils)), true), (some (.one (.int .i64)), false)]⟩, lend := [.keep, .keep], outs := granaryref01_Writer_Uint_o.map fun s => ssOf s.1, its := [.int, .int], ots := [[.int, .lst (.int .u8)]], F := granaryref01_Writer_Uint }
theorem granaryref01_Writer_Uint_t (N : Nat) : TabC Try.prog (granaryref01_Writer_Uint_C N) := tab_ok trivial
theorem granaryref01_Writer_Uint_i : loopsOf granaryref01_Writer_Uint_c = [] := by kernel_rfl
theorem granaryref01_Writer_Uint_e (N : Nat) (x) : (granaryref01_Writer_Uint_g N).F x = fnStep Γ (granaryref01_Writer_Uint_C N) (granaryref01_Writer_Uint_J N) 29 Try.f48.results.toList (granaryref01_Writer_Uint_g N) granaryref01_Writer_Uint_o granaryref01_Writer_Uint_c x := by kernel_rfl
theorem granaryref01_Writer_Uint_y : Try.f48.body = some granaryref01_Writer_Uint_c := by kernel_rfl
theorem granaryref01_Writer_Uint_n : (Try.f48.name == "runtime.NumGoroutine") = false := by kernel_rfl
theorem granaryref01_Writer_Uint_ok (N : Nat) : FnDoes Try.prog 48 (granaryref01_Writer_Uint_g N) := fn_ok tabOK (granaryref01_Writer_Uint_t N) mixedOK (J := granaryref01_Writer_Uint_J N) (body := granaryref01_Writer_Uint_c) Try.func48 granaryref01_Writer_Uint_y granaryref01_Writer_Uint_n Try.ntmps48 (jok_from granaryref01_Writer_Uint_i ⟨trivial, trivial⟩) rfl rfl (le_of_ble rfl) (granaryref01_Writer_Uint_e N)
noncomputable def xdr_Writer_Int_v2_c : Code := codeOf Try.f28.body
noncomputable def xdr_Writer_Int_v2_J (N : Nat) : Nat → Hint := fun cx => hintOf cx []
noncomputable def xdr_Writer_Int_v2_C (N : Nat) : Nat → List GS := fun k => tabOf k [(27, [xdr_Writer_Uint_g N])]
def xdr_Writer_Int_v2_o : List (Shp × List Nat) := [(⟨[(0, (.tup []))], [(.sh (.one (.const (.slw 2 1))), true), (.sh (.one (.int .i64)), false), (.sh (.arr (.int .u8) none), false)]⟩, [])]
noncomputable def xdr_Writer_Int_v2_g (N : Nat) : GS := { ins := ⟨[(0, (.av (.one (.const (.ptr ⟨0, 0, 0, 0⟩))))), (1, (.av (.one (.int .i32))))], [(some (.one (.const .nils)), true), (some (.one (.int .i64)), false)]⟩, lend := [.keep, .keep], outs := xdr_Writer_Int_v2_o.map fun s => ssOf s.1, its := [.int, .int], ots := [[.int, .lst (.int .u8)]], F := xdr_Writer_Int_v2 N }
noncomputable def xdr_Writer_Int_v2_CA (N : Nat) (f0 : Int × Int → Option (Int × (List Int))) : Nat → List GS := fun k => tabOf k [(27, [{ xdr_Writer_Uint_g N with F := f0 }])]
theorem xdr_Writer_Int_v2_CE (N : Nat) : xdr_Writer_Int_v2_CA N (xdr_Writer_Uint N) = xdr_Writer_Int_v2_C N := by kernel_rfl
theorem xdr_Writer_Int_v2_t (N : Nat) : TabC Try.prog (xdr_Writer_Int_v2_C N) := tab_ok ⟨⟨xdr_Writer_Uint_ok N, trivial⟩, trivial⟩
theorem xdr_Writer_Int_v2_i : loopsOf xdr_Writer_Int_v2_c = [] := by kernel_rfl
noncomputable def xdr_Writer_Int_v2_a (N : Nat) (f0 : Int × Int → Option (Int × (List Int))) (x : Int × Int) : Option (Int × (List Int)) :=
  (Option.bind (f0 ((wrapF .u32 x.1), x.2)) fun r2 =>
  (some (r2.1, r2.2)))
theorem xdr_Writer_Int_v2_f (N : Nat) (f0 : Int × Int → Option (Int × (List Int))) (x) : xdr_Writer_Int_v2_a N f0 x = fnStep Γ (xdr_Writer_Int_v2_CA N f0) (xdr_Writer_Int_v2_J N) 8 Try.f28.results.toList (xdr_Writer_Int_v2_g N) xdr_Writer_Int_v2_o xdr_Writer_Int_v2_c x := by kernel_rfl
theorem xdr_Writer_Int_v2_e (N : Nat) (x) : (xdr_Writer_Int_v2_g N).F x = fnStep Γ (xdr_Writer_Int_v2_C N) (xdr_Writer_Int_v2_J N) 8 Try.f28.results.toList (xdr_Writer_Int_v2_g N) xdr_Writer_Int_v2_o xdr_Writer_Int_v2_c x := by
  rw [← xdr_Writer_Int_v2_CE N]
  exact Eq.trans (by kernel_rfl) (xdr_Writer_Int_v2_f N (xdr_Writer_Uint N) x)
theorem xdr_Writer_Int_v2_y : Try.f28.body = some xdr_Writer_Int_v2_c := by kernel_rfl
theorem xdr_Writer_Int_v2_n : (Try.f28.name == "runtime.NumGoroutine") = false := by kernel_rfl
theorem xdr_Writer_Int_v2_ok (N : Nat) : FnDoes Try.prog 28 (xdr_Writer_Int_v2_g N) := fn_ok tabOK (xdr_Writer_Int_v2_t N) mixedOK (J := xdr_Writer_Int_v2_J N) (body := xdr_Writer_Int_v2_c) Try.func28 xdr_Writer_Int_v2_y xdr_Writer_Int_v2_n Try.ntmps28 (jok_from xdr_Writer_Int_v2_i trivial) rfl rfl (le_of_ble rfl) (xdr_Writer_Int_v2_e N)
noncomputable def xdr_Writer_Hyper_v2_c : Code := codeOf Try.f29.body
noncomputable def xdr_Writer_Hyper_v2_J (N : Nat) : Nat → Hint := fun cx => hintOf cx [(0, { reg := fun k => assoc0 k [], cnd := fun k => assoc0 k [(6, ⟨[], [0], [(.normal, ⟨[], [(.sh (.one (.const (.slw 2 1))), true), (.keep, false), (.sh (.arr (.int .u8) none), false)]⟩)], [[.lst (.int .u8)]]⟩)], loop := fun k => assoc0 k [], nil := fun k => assoc0 k [], unr := fun k => assocN k [], blk := fun k => assoc0 k [] })]
noncomputable def xdr_Writer_Hyper_v2_C (N : Nat) : Nat → List GS := fun k => tabOf k [(58, [xdr_Writer_bad_g N]), (60, [octet_Put_g N])]
def xdr_Writer_Hyper_v2_o : List (Shp × List Nat) := [(⟨[(0, (.tup []))], [(.sh (.one (.const (.slw 2 1))), true), (.sh (.one (.int .i64)), false), (.sh (.arr (.int .u8) none), false)]⟩, [])]
noncomputable def xdr_Writer_Hyper_v2_g (N : Nat) : GS := { ins := ⟨[(0, (.av (.one (.const (.ptr ⟨0, 0, 0, 0⟩))))), (1, (.av (.one (.int .u64))))], [(some (.one (.const .nils)), true), (some (.one (.int .i64)), false)]⟩, lend := [.keep, .keep], outs := xdr_Writer_Hyper_v2_o.map fun s => ssOf s.1, its := [.int, .int], ots := [[.int, .lst (.int .u8)]], F := xdr_Writer_Hyper_v2 N }
noncomputable def xdr_Writer_Hyper_v2_CA (N : Nat) (f0 : Int → Option (Bool × Int)) (f1 : Int × Int → Option ((List Int))) : Nat → List GS := fun k => tabOf k [(58, [{ xdr_Writer_bad_g N with F := f0 }]), (60, [{ octet_Put_g N with F := f1 }])]
theorem xdr_Writer_Hyper_v2_CE (N : Nat) : xdr_Writer_Hyper_v2_CA N (xdr_Writer_bad) (octet_Put N) = xdr_Writer_Hyper_v2_C N := by kernel_rfl
theorem xdr_Writer_Hyper_v2_t (N : Nat) : TabC Try.prog (xdr_Writer_Hyper_v2_C N) := tab_ok ⟨⟨xdr_Writer_bad_ok N, trivial⟩, ⟨octet_Put_ok N, trivial⟩, trivial⟩
theorem xdr_Writer_Hyper_v2_i : loopsOf xdr_Writer_Hyper_v2_c = [] := by kernel_rfl
noncomputable def xdr_Writer_Hyper_v2_a (N : Nat) (f0 : Int → Option (Bool × Int)) (f1 : Int × Int → Option ((List Int))) (x : Int × Int) : Option (Int × (List Int)) :=
  (Option.bind (f0 x.2) fun r1 =>
  (Option.bind
  (cond (!r1.1)
  (Option.bind (f1 (x.1, (8 : Int))) fun r3 =>
  (some r3))
  (some ([] : List Int)))
  fun r4 =>
  (some (r1.2, r4))))
theorem xdr_Writer_Hyper_v2_f (N : Nat) (f0 : Int → Option (Bool × Int)) (f1 : Int × Int → Option ((List Int))) (x) : xdr_Writer_Hyper_v2_a N f0 f1 x = fnStep Γ (xdr_Writer_Hyper_v2_CA N f0 f1) (xdr_Writer_Hyper_v2_J N) 16 Try.f29.results.toList (xdr_Writer_Hyper_v2_g N) xdr_Writer_Hyper_v2_o xdr_Writer_Hyper_v2_c x := by kernel_rfl
theorem xdr_Writer_Hyper_v2_e (N : Nat) (x) : (xdr_Writer_Hyper_v2_g N).F x = fnStep Γ (xdr_Writer_Hyper_v2_C N) (xdr_Writer_Hyper_v2_J N) 16 Try.f29.results.toList (xdr_Writer_Hyper_v2_g N) xdr_Writer_Hyper_v2_o xdr_Writer_Hyper_v2_c x := by
  rw [← xdr_Writer_Hyper_v2_CE N]
  exact Eq.trans (by kernel_rfl) (xdr_Writer_Hyper_v2_f N (xdr_Writer_bad) (octet_Put N) x)
theorem xdr_Writer_Hyper_v2_y : Try.f29.body = some xdr_Writer_Hyper_v2_c := by kernel_rfl
theorem xdr_Writer_Hyper_v2_n : (Try.f29.name == "runtime.NumGoroutine") = false := by kernel_rfl
theorem xdr_Writer_Hyper_v2_ok (N : Nat) : FnDoes Try.prog 29 (xdr_Writer_Hyper_v2_g N) := fn_ok tabOK (xdr_Writer_Hyper_v2_t N) mixedOK (J := xdr_Writer_Hyper_v2_J N) (body := xdr_Writer_Hyper_v2_c) Try.func29 xdr_Writer_Hyper_v2_y xdr_Writer_Hyper_v2_n Try.ntmps29 (jok_from xdr_Writer_Hyper_v2_i ⟨trivial, trivial⟩) rfl rfl (le_of_ble rfl) (xdr_Writer_Hyper_v2_e N)
noncomputable def granaryref01_Writer_Uint_v1_c : Code := codeOf Try.f48.body
noncomputable def granaryref01_Writer_Uint_v1_J (N : Nat) : Nat → Hint := fun cx => hintOf cx [(0, { reg := fun k => assoc0 k [], cnd := fun k => assoc0 k [(8, ⟨[2], [0], [(.normal, ⟨[], [(.sh (.one (.const (.slw 3 1))), true), (.keep, false), (.dead, false), (.sh (.arr (.int .u8) none), false)]⟩)], [[.lst (.int .u8)]]⟩)], loop := fun k => assoc0 k [], nil := fun k => assoc0 k [], unr := fun k => assocN k [], blk := fun k => assoc0 k [] })]
noncomputable def granaryref01_Writer_Uint_v1_C (N : Nat) : Nat → List GS := fun k => tabOf k []
def granaryref01_Writer_Uint_v1_o : List (Shp × List Nat) := [(⟨[(0, (.tup []))], [(.sh (.one (.const (.slw 3 1))), true), (.sh (.one (.int .i64)), false), (.dead, false), (.sh (.arr (.int .u8) none), false)]⟩, [])]
noncomputable def granaryref01_Writer_Uint_v1_g (N : Nat) : GS := { ins := ⟨[(0, (.av (.one (.const (.ptr ⟨0, 0, 0, 0⟩))))), (1, (.av (.one (.int .u32))))], [(some (.one (.const (.slw 2 1))), true), (some (.one (.int .i64)), false), (some (.arr (.int .u8) none), false)]⟩, lend := [.keep, .keep], outs := granaryref01_Writer_Uint_v1_o.map fun s => ssOf s.1, its := [.int, .int, .lst (.int .u8)], ots := [[.int, .lst (.int .u8)]], F := granaryref01_Writer_Uint_v1 }
theorem granaryref01_Writer_Uint_v1_t (N : Nat) : TabC Try.prog (granaryref01_Writer_Uint_v1_C N) := tab_ok trivial
theorem granaryref01_Writer_Uint_v1_i : loopsOf granaryref01_Writer_Uint_v1_c = [] := by kernel_rfl
theorem granaryref01_Writer_Uint_v1_e (N : Nat) (x) : (granaryref01_Writer_Uint_v1_g N).F x = fnStep Γ (granaryref01_Writer_Uint_v1_C N) (granaryref01_Writer_Uint_v1_J N) 29 Try.f48.results.toList (granaryref01_Writer_Uint_v1_g N) granaryref01_Writer_Uint_v1_o granaryref01_Writer_Uint_v1_c x := by kernel_rfl
theorem granaryref01_Writer_Uint_v1_y : Try.f48.body = some granaryref01_Writer_Uint_v1_c := by kernel_rfl
theorem granaryref01_Writer_Uint_v1_n : (Try.f48.name == "runtime.NumGoroutine") = false := by kernel_rfl
theorem granaryref01_Writer_Uint_v1_ok (N : Nat) : FnDoes Try.prog 48 (granaryref01_Writer_Uint_v1_g N) := fn_ok tabOK (granaryref01_Writer_Uint_v1_t N) mixedOK (J := granaryref01_Writer_Uint_v1_J N) (body := granaryref01_Writer_Uint_v1_c) Try.func48 granaryref01_Writer_Uint_v1_y granaryref01_Writer_Uint_v1_n Try.ntmps48 (jok_from granaryref01_Writer_Uint_v1_i ⟨trivial, trivial⟩) rfl rfl (le_of_ble rfl) (granaryref01_Writer_Uint_v1_e N)
noncomputable def granaryref01_Writer_Hyper_c : Code := codeOf Try.f49.body
noncomputable def granaryref01_Writer_Hyper_J (N : Nat) : Nat → Hint := fun cx => hintOf cx []
noncomputable def granaryref01_Writer_Hyper_C (N : Nat) : Nat → List GS := fun k => tabOf k [(48, [granaryref01_Writer_Uint_g N, granaryref01_Writer_Uint_v1_g N])]
def granaryref01_Writer_Hyper_o : List (Shp × List Nat) := [(⟨[(0, (.tup []))], [(.sh (.one (.const (.slw 2 1))), true), (.sh (.one (.int .i64)), false), (.sh (.arr (.int .u8) none), false)]⟩, [])]
noncomputable def granaryref01_Writer_Hyper_g (N : Nat) : GS := { ins := ⟨[(0, (.av (.one (.const (.ptr ⟨0, 0, 0, 0⟩))))), (1, (.av (.one (.int .u64))))], [(some (.one (.const .nils)), true), (some (.one (.int .i64)), false)]⟩, lend := [.keep, .keep], outs := granaryref01_Writer_Hyper_o.map fun s => ssOf s.1, its := [.int, .int], ots := [[.int, .lst (.int .u8)]], F := granaryref01_Writer_Hyper }
noncomputable def granaryref01_Writer_Hyper_CA (N : Nat) (f0 : Int × Int → Option (Int × (List Int))) (f1 : Int × Int × (List Int) → Option (Int × (List Int))) : Nat → List GS := fun k => tabOf k [(48, [{ granaryref01_Writer_Uint_g N with F := f0 }, { granaryref01_Writer_Uint_v1_g N with F := f1 }])]
theorem granaryref01_Writer_Hyper_CE (N : Nat) : granaryref01_Writer_Hyper_CA N (granaryref01_Writer_Uint) (granaryref01_Writer_Uint_v1) = granaryref01_Writer_Hyper_C N := by kernel_rfl
theorem granaryref01_Writer_Hyper_t (N : Nat) : TabC Try.prog (granaryref01_Writer_Hyper_C N) := tab_ok ⟨⟨granaryref01_Writer_Uint_ok N, granaryref01_Writer_Uint_v1_ok N, trivial⟩, trivial⟩
theorem granaryref01_Writer_Hyper_i : loopsOf granaryref01_Writer_Hyper_c = [] := by kernel_rfl
noncomputable def granaryref01_Writer_Hyper_a (N : Nat) (f0 : Int × Int → Option (Int × (List Int))) (f1 : Int × Int × (List Int) → Option (Int × (List Int))) (x : Int × Int) : Option (Int × (List Int)) :=
  (Option.bind (f0 ((wrapF .u32 (shrF .u64 x.1 (32 : Int))), x.2)) fun r3 =>
  (Option.bind (f1 ((wrapF .u32 x.1), r3.1, r3.2)) fun r5 =>
  (some (r5.1, r5.2))))
theorem granaryref01_Writer_Hyper_f (N : Nat) (f0 : Int × Int → Option (Int × (List Int))) (f1 : Int × Int × (List Int) → Option (Int × (List Int))) (x) : granaryref01_Writer_Hyper_a N f0 f1 x = fnStep Γ (granaryref01_Writer_Hyper_CA N f0 f1) (granaryref01_Writer_Hyper_J N) 13 Try.f49.results.toList (granaryref01_Writer_Hyper_g N) granaryref01_Writer_Hyper_o granaryref01_Writer_Hyper_c x := by kernel_rfl
theorem granaryref01_Writer_Hyper_e (N : Nat) (x) : (granaryref01_Writer_Hyper_g N).F x = fnStep Γ (granaryref01_Writer_Hyper_C N) (granaryref01_Writer_Hyper_J N) 13 Try.f49.results.toList (granaryref01_Writer_Hyper_g N) granaryref01_Writer_Hyper_o granaryref01_Writer_Hyper_c x := by
  rw [← granaryref01_Writer_Hyper_CE N]
  exact Eq.trans (by kernel_rfl) (granaryref01_Writer_Hyper_f N (granaryref01_Writer_Uint) (granaryref01_Writer_Uint_v1) x)
theorem granaryref01_Writer_Hyper_y : Try.f49.body = some granaryref01_Writer_Hyper_c := by kernel_rfl
theorem granaryref01_Writer_Hyper_n : (Try.f49.name == "runtime.NumGoroutine") = false := by kernel_rfl
theorem granaryref01_Writer_Hyper_ok (N : Nat) : FnDoes Try.prog 49 (granaryref01_Writer_Hyper_g N) := fn_ok tabOK (granaryref01_Writer_Hyper_t N) mixedOK (J := granaryref01_Writer_Hyper_J N) (body := granaryref01_Writer_Hyper_c) Try.func49 granaryref01_Writer_Hyper_y granaryref01_Writer_Hyper_n Try.ntmps49 (jok_from granaryref01_Writer_Hyper_i trivial) rfl rfl (le_of_ble rfl) (granaryref01_Writer_Hyper_e N)
noncomputable def granaryref01_Writer_Bool_c : Code := codeOf Try.f50.body
noncomputable def granaryref01_Writer_Bool_J (N : Nat) : Nat → Hint := fun cx => hintOf cx [(0, { reg := fun k => assoc0 k [], cnd := fun k => assoc0 k [(4, ⟨[], [0, 1], [(.normal, ⟨[], [(.sh (.one (.const (.slw 2 1))), true), (.sh (.one (.int .i64)), false), (.sh (.arr (.int .u8) none), false)]⟩)], [[.int, .lst (.int .u8)]]⟩)], loop := fun k => assoc0 k [], nil := fun k => assoc0 k [], unr := fun k => assocN k [], blk := fun k => assoc0 k [] })]
noncomputable def granaryref01_Writer_Bool_C (N : Nat) : Nat → List GS := fun k => tabOf k [(48, [granaryref01_Writer_Uint_g N])]
def granaryref01_Writer_Bool_o : List (Shp × List Nat) := [(⟨[(0, (.tup []))], [(.sh (.one (.const (.slw 2 1))), true), (.sh (.one (.int .i64)), false), (.sh (.arr (.int .u8) none), false)]⟩, [])]
noncomputable def granaryref01_Writer_Bool_g (N : Nat) : GS := { ins := ⟨[(0, (.av (.one (.const (.ptr ⟨0, 0, 0, 0⟩))))), (1, (.av (.one .bool)))], [(some (.one (.const .nils)), true), (some (.one (.int .i64)), false)]⟩, lend := [.keep, .keep], outs := granaryref01_Writer_Bool_o.map fun s => ssOf s.1, its := [.bool, .int], ots := [[.int, .lst (.int .u8)]], F := granaryref01_Writer_Bool }
noncomputable def granaryref01_Writer_Bool_CA (N : Nat) (f0 : Int × Int → Option (Int × (List Int))) : Nat → List GS := fun k => tabOf k [(48, [{ granaryref01_Writer_Uint_g N with F := f0 }])]
theorem granaryref01_Writer_Bool_CE (N : Nat) : granaryref01_Writer_Bool_CA N (granaryref01_Writer_Uint) = granaryref01_Writer_Bool_C N := by kernel_rfl
theorem granaryref01_Writer_Bool_t (N : Nat) : TabC Try.prog (granaryref01_Writer_Bool_C N) := tab_ok ⟨⟨granaryref01_Writer_Uint_ok N, trivial⟩, trivial⟩
theorem granaryref01_Writer_Bool_i : loopsOf granaryref01_Writer_Bool_c = [] := by kernel_rfl
noncomputable def granaryref01_Writer_Bool_a (N : Nat) (f0 : Int × Int → Option (Int × (List Int))) (x : Bool × Int) : Option (Int × (List Int)) :=
  (Option.bind
  (cond x.1
  (Option.bind (f0 ((1 : Int), x.2)) fun r1 =>
  (some (r1.1, r1.2)))
  (Option.bind (f0 ((0 : Int), x.2)) fun r2 =>
  (some (r2.1, r2.2))))
  fun r3 =>
  (some (r3.1, r3.2)))
theorem granaryref01_Writer_Bool_f (N : Nat) (f0 : Int × Int → Option (Int × (List Int))) (x) : granaryref01_Writer_Bool_a N f0 x = fnStep Γ (granaryref01_Writer_Bool_CA N f0) (granaryref01_Writer_Bool_J N) 9 Try.f50.results.toList (granaryref01_Writer_Bool_g N) granaryref01_Writer_Bool_o granaryref01_Writer_Bool_c x := by kernel_rfl
theorem granaryref01_Writer_Bool_e (N : Nat) (x) : (granaryref01_Writer_Bool_g N).F x = fnStep Γ (granaryref01_Writer_Bool_C N) (granaryref01_Writer_Bool_J N) 9 Try.f50.results.toList (granaryref01_Writer_Bool_g N) granaryref01_Writer_Bool_o granaryref01_Writer_Bool_c x := by
  rw [← granaryref01_Writer_Bool_CE N]
  exact Eq.trans (by kernel_rfl) (granaryref01_Writer_Bool_f N (granaryref01_Writer_Uint) x)
theorem granaryref01_Writer_Bool_y : Try.f50.body = some granaryref01_Writer_Bool_c := by kernel_rfl
theorem granaryref01_Writer_Bool_n : (Try.f50.name == "runtime.NumGoroutine") = false := by kernel_rfl
theorem granaryref01_Writer_Bool_ok (N : Nat) : FnDoes Try.prog 50 (granaryref01_Writer_Bool_g N) := fn_ok tabOK (granaryref01_Writer_Bool_t N) mixedOK (J := granaryref01_Writer_Bool_J N) (body := granaryref01_Writer_Bool_c) Try.func50 granaryref01_Writer_Bool_y granaryref01_Writer_Bool_n Try.ntmps50 (jok_from granaryref01_Writer_Bool_i ⟨trivial, trivial⟩) rfl rfl (le_of_ble rfl) (granaryref01_Writer_Bool_e N)
noncomputable def xdr_Writer_Fixed_v3_c : Code := codeOf Try.f30.body
noncomputable def xdr_Writer_Fixed_v3_c0 : Code := codeOf (getLoop 0 xdr_Writer_Fixed_v3_c)
def xdr_Writer_Fixed_v3_d0 : LD := { ins := ⟨[(0, (.av (.one (.const (.ptr ⟨0, 0, 0, 0⟩))))), (17, (.av (.one (.int .i64)))), (18, (.av (.one (.int .i64))))], [(.sh (.one (.const (.slw 2 1))), true), (.keep, false), (.sh (.arr (.int .u8) none), false)]⟩, mov := [2], wr := [0], outs := [(.exit 0, ⟨[], [(.sh (.one (.const (.slw 3 1))), true), (.keep, false), (.dead, false), (.sh (.arr (.int .u8) none), false)]⟩)], its := [.int, .int, .lst (.int .u8)], ots := [[.lst (.int .u8)]] }
noncomputable def xdr_Writer_Fixed_v3_J (N : Nat) : Nat → Hint := fun cx => hintOf cx [(0, { reg := fun k => assoc0 k [], cnd := fun k => assoc0 k [], loop := fun k => assoc0 k [(0, ⟨xdr_Writer_Fixed_v3_d0, loopF (xdr_Writer_Fixed_v3_b0 N) N⟩)], nil := fun k => assoc0 k [], unr := fun k => assocN k [], blk := fun k => assoc0 k [] })]
noncomputable def xdr_Writer_Fixed_v3_C (N : Nat) : Nat → List GS := fun k => tabOf k [(58, [xdr_Writer_bad_g N]), (61, [xdr_padding_g N])]
def xdr_Writer_Fixed_v3_o : List (Shp × List Nat) := [(⟨[(0, (.tup []))], [(.sh (.one (.const (.slw 2 1))), true), (.sh (.one (.int .i64)), false), (.sh (.arr (.int .u8) none), false)]⟩, [])]
noncomputable def xdr_Writer_Fixed_v3_g (N : Nat) : GS := { ins := ⟨[(0, (.av (.one (.const (.ptr ⟨0, 0, 0, 0⟩))))), (1, (.av (.one (.rsl (.int .u8)))))], [(some (.one (.const .nils)), true), (some (.one (.int .i64)), false)]⟩, lend := [.keep, .keep], outs := xdr_Writer_Fixed_v3_o.map fun s => ssOf s.1, its := [.lst (.int .u8), .int], ots := [[.int, .lst (.int .u8)]], F := xdr_Writer_Fixed_v3 N }
noncomputable def xdr_Writer_Fixed_v3_CA (N : Nat) (f0 : Int → Option (Bool × Int)) (f1 : Int → Option (Int)) : Nat → List GS := fun k => tabOf k [(58, [{ xdr_Writer_bad_g N with F := f0 }]), (61, [{ xdr_padding_g N with F := f1 }])]
theorem xdr_Writer_Fixed_v3_CE (N : Nat) : xdr_Writer_Fixed_v3_CA N (xdr_Writer_bad) (xdr_padding) = xdr_Writer_Fixed_v3_C N := by kernel_rfl
theorem xdr_Writer_Fixed_v3_t (N : Nat) : TabC Try.prog (xdr_Writer_Fixed_v3_C N) := tab_ok ⟨⟨xdr_Writer_bad_ok N, trivial⟩, ⟨xdr_padding_ok N, trivial⟩, trivial⟩
theorem xdr_Writer_Fixed_v3_i0 : loopsOf xdr_Writer_Fixed_v3_c0 = [] := by kernel_rfl
noncomputable def xdr_Writer_Fixed_v3_a0 (N : Nat) (f0 : Int → Option (Bool × Int)) (f1 : Int → Option (Int)) (next : Int × Int × (List Int) → Option (((List Int)))) (x : Int × Int × (List Int)) : Option (((List Int))) :=
  (cond (decide (x.2.1 < x.1))
  (let v2 : List Int := ([(0 : Int)] : List Int)
  (cond ((decide (1 ≤ (List.length v2))) && (fits 1 ((List.length x.2.2) + (List.length (List.take 1 (List.drop 0 v2))))))
  ((next (x.1, (wrapF .i64 (x.2.1 + (1 : Int))), (x.2.2 ++ (List.take 1 (List.drop 0 v2))))))
  none))
  (some x.2.2))
theorem xdr_Writer_Fixed_v3_f0 (N : Nat) (f0 : Int → Option (Bool × Int)) (f1 : Int → Option (Int)) (next) (x) : xdr_Writer_Fixed_v3_a0 N f0 f1 next x = loopStep Γ (xdr_Writer_Fixed_v3_CA N f0 f1) (xdr_Writer_Fixed_v3_J N) 0 30 xdr_Writer_Fixed_v3_d0 xdr_Writer_Fixed_v3_c0 next x := by kernel_rfl
theorem xdr_Writer_Fixed_v3_e0 (N : Nat) (next) (x) : xdr_Writer_Fixed_v3_b0 N next x = loopStep Γ (xdr_Writer_Fixed_v3_C N) (xdr_Writer_Fixed_v3_J N) 0 30 xdr_Writer_Fixed_v3_d0 xdr_Writer_Fixed_v3_c0 next x := by
  rw [← xdr_Writer_Fixed_v3_CE N]
  exact Eq.trans (by kernel_rfl) (xdr_Writer_Fixed_v3_f0 N (xdr_Writer_bad) (xdr_padding) next x)
theorem xdr_Writer_Fixed_v3_k0 (N : Nat) : LoopOK Try.prog 30 xdr_Writer_Fixed_v3_c0 ⟨xdr_Writer_Fixed_v3_d0, loopF (xdr_Writer_Fixed_v3_b0 N) N⟩ := loop_ok tabOK (xdr_Writer_Fixed_v3_t N) mixedOK (J := xdr_Writer_Fixed_v3_J N) (cx := 0) (body := xdr_Writer_Fixed_v3_c0) (nt := 30) (l := xdr_Writer_Fixed_v3_d0) (b := xdr_Writer_Fixed_v3_b0 N) (jok_from xdr_Writer_Fixed_v3_i0 ⟨trivial, trivial⟩) (xdr_Writer_Fixed_v3_e0 N) N
theorem xdr_Writer_Fixed_v3_i : loopsOf xdr_Writer_Fixed_v3_c = [(0, xdr_Writer_Fixed_v3_c0)] := by kernel_rfl
noncomputable def xdr_Writer_Fixed_v3_a (N : Nat) (f0 : Int → Option (Bool × Int)) (f1 : Int → Option (Int)) (x : (List Int) × Int) : Option (Int × (List Int)) :=
  (Option.bind (f0 x.2) fun r1 =>
  (cond r1.1
  (some (r1.2, ([] : List Int)))
  (cond (fits 1 (List.length x.1))
  ((Option.bind (f1 (((List.length x.1) : Nat) : Int)) fun r3 =>
  (Option.bind (xdr_Writer_Fixed_v3_l0 N (r3, (0 : Int), x.1)) fun r4 =>
  (some (r1.2, r4)))))
  none)))
theorem xdr_Writer_Fixed_v3_f (N : Nat) (f0 : Int → Option (Bool × Int)) (f1 : Int → Option (Int)) (x) : xdr_Writer_Fixed_v3_a N f0 f1 x = fnStep Γ (xdr_Writer_Fixed_v3_CA N f0 f1) (xdr_Writer_Fixed_v3_J N) 30 Try.f30.results.toList (xdr_Writer_Fixed_v3_g N) xdr_Writer_Fixed_v3_o xdr_Writer_Fixed_v3_c x := by kernel_rfl
theorem xdr_Writer_Fixed_v3_e (N : Nat) (x) : (xdr_Writer_Fixed_v3_g N).F x = fnStep Γ (xdr_Writer_Fixed_v3_C N) (xdr_Writer_Fixed_v3_J N) 30 Try.f30.results.toList (xdr_Writer_Fixed_v3_g N) xdr_Writer_Fixed_v3_o xdr_Writer_Fixed_v3_c x := by
  rw [← xdr_Writer_Fixed_v3_CE N]
  exact Eq.trans (by kernel_rfl) (xdr_Writer_Fixed_v3_f N (xdr_Writer_bad) (xdr_padding) x)
theorem xdr_Writer_Fixed_v3_y : Try.f30.body = some xdr_Writer_Fixed_v3_c := by kernel_rfl
theorem xdr_Writer_Fixed_v3_n : (Try.f30.name == "runtime.NumGoroutine") = false := by kernel_rfl
theorem xdr_Writer_Fixed_v3_ok (N : Nat) : FnDoes Try.prog 30 (xdr_Writer_Fixed_v3_g N) := fn_ok tabOK (xdr_Writer_Fixed_v3_t N) mixedOK (J := xdr_Writer_Fixed_v3_J N) (body := xdr_Writer_Fixed_v3_c) Try.func30 xdr_Writer_Fixed_v3_y xdr_Writer_Fixed_v3_n Try.ntmps30 (jok_from xdr_Writer_Fixed_v3_i ⟨⟨.inr ⟨_, rfl, xdr_Writer_Fixed_v3_k0 N⟩, trivial⟩, trivial⟩) rfl rfl (le_of_ble rfl) (xdr_Writer_Fixed_v3_e N)
noncomputable def granaryref01_Writer_Fixed_c : Code := codeOf Try.f51.body
noncomputable def granaryref01_Writer_Fixed_c0 : Code := codeOf (getLoop 0 granaryref01_Writer_Fixed_c)
def granaryref01_Writer_Fixed_d0 : LD := { ins := ⟨[(0, (.av (.one (.const (.ptr ⟨0, 0, 0, 0⟩))))), (4, (.av (.one (.int .i64))))], [(.sh (.one (.const (.slw 2 1))), true), (.keep, false), (.sh (.arr (.int .u8) none), false)]⟩, mov := [2], wr := [0], outs := [(.exit 0, ⟨[], [(.sh (.one (.const (.slw 3 1))), true), (.keep, false), (.dead, false), (.sh (.arr (.int .u8) none), false)]⟩)], its := [.int, .lst (.int .u8)], ots := [[.lst (.int .u8)]] }
noncomputable def granaryref01_Writer_Fixed_J (N : Nat) : Nat → Hint := fun cx => hintOf cx [(0, { reg := fun k => assoc0 k [], cnd := fun k => assoc0 k [], loop := fun k => assoc0 k [(0, ⟨granaryref01_Writer_Fixed_d0, loopF (granaryref01_Writer_Fixed_b0 N) N⟩)], nil := fun k => assoc0 k [], unr := fun k => assocN k [], blk := fun k => assoc0 k [] })]
noncomputable def granaryref01_Writer_Fixed_C (N : Nat) : Nat → List GS := fun k => tabOf k []
def granaryref01_Writer_Fixed_o : List (Shp × List Nat) := [(⟨[(0, (.tup []))], [(.sh (.one (.const (.slw 2 1))), true), (.sh (.one (.int .i64)), false), (.sh (.arr (.int .u8) none), false)]⟩, [])]
noncomputable def granaryref01_Writer_Fixed_g (N : Nat) : GS := { ins := ⟨[(0, (.av (.one (.const (.ptr ⟨0, 0, 0, 0⟩))))), (1, (.av (.one (.rsl (.int .u8)))))], [(some (.one (.const .nils)), true), (some (.one (.int .i64)), false)]⟩, lend := [.keep, .keep], outs := granaryref01_Writer_Fixed_o.map fun s => ssOf s.1, its := [.lst (.int .u8), .int], ots := [[.int, .lst (.int .u8)]], F := granaryref01_Writer_Fixed N }
theorem granaryref01_Writer_Fixed_t (N : Nat) : TabC Try.prog (granaryref01_Writer_Fixed_C N) := tab_ok trivial
theorem granaryref01_Writer_Fixed_i0 : loopsOf granaryref01_Writer_Fixed_c0 = [] := by kernel_rfl
theorem granaryref01_Writer_Fixed_e0 (N : Nat) (next) (x) : granaryref01_Writer_Fixed_b0 N next x = loopStep Γ (granaryref01_Writer_Fixed_C N) (granaryref01_Writer_Fixed_J N) 0 35 granaryref01_Writer_Fixed_d0 granaryref01_Writer_Fixed_c0 next x := by kernel_rfl
theorem granaryref01_Writer_Fixed_k0 (N : Nat) : LoopOK Try.prog 35 granaryref01_Writer_Fixed_c0 ⟨granaryref01_Writer_Fixed_d0, loopF (granaryref01_Writer_Fixed_b0 N) N⟩ := loop_ok tabOK (granaryref01_Writer_Fixed_t N) mixedOK (J := granaryref01_Writer_Fixed_J N) (cx := 0) (body := granaryref01_Writer_Fixed_c0) (nt := 35) (l := granaryref01_Writer_Fixed_d0) (b := granaryref01_Writer_Fixed_b0 N) (jok_from granaryref01_Writer_Fixed_i0 ⟨trivial, trivial⟩) (granaryref01_Writer_Fixed_e0 N) N
theorem granaryref01_Writer_Fixed_i : loopsOf granaryref01_Writer_Fixed_c = [(0, granaryref01_Writer_Fixed_c0)] := by kernel_rfl
theorem granaryref01_Writer_Fixed_e (N : Nat) (x) : (granaryref01_Writer_Fixed_g N).F x = fnStep Γ (granaryref01_Writer_Fixed_C N) (granaryref01_Writer_Fixed_J N) 35 Try.f51.results.toList (granaryref01_Writer_Fixed_g N) granaryref01_Writer_Fixed_o granaryref01_Writer_Fixed_c x := by kernel_rfl
theorem granaryref01_Writer_Fixed_y : Try.f51.body = some granaryref01_Writer_Fixed_c := by kernel_rfl
theorem granaryref01_Writer_Fixed_n : (Try.f51.name == "runtime.NumGoroutine") = false := by kernel_rfl
theorem granaryref01_Writer_Fixed_ok (N : Nat) : FnDoes Try.prog 51 (granaryref01_Writer_Fixed_g N) := fn_ok tabOK (granaryref01_Writer_Fixed_t N) mixedOK (J := granaryref01_Writer_Fixed_J N) (body := granaryref01_Writer_Fixed_c) Try.func51 granaryref01_Writer_Fixed_y granaryref01_Writer_Fixed_n Try.ntmps51 (jok_from granaryref01_Writer_Fixed_i ⟨⟨.inr ⟨_, rfl, granaryref01_Writer_Fixed_k0 N⟩, trivial⟩, trivial⟩) rfl rfl (le_of_ble rfl) (granaryref01_Writer_Fixed_e N)
noncomputable def xdr_Writer_Opaque_v4_c : Code := codeOf Try.f44.body
noncomputable def xdr_Writer_Opaque_v4_J (N : Nat) : Nat → Hint := fun cx => hintOf cx [(0, { reg := fun k => assoc0 k [], cnd := fun k => assoc0 k [(10, ⟨[], [0, 1], [(.normal, ⟨[], [(.sh (.one (.const (.slw 2 1))), true), (.sh (.one (.int .i64)), false), (.sh (.arr (.int .u8) none), false)]⟩)], [[.int, .lst (.int .u8)]]⟩)], loop := fun k => assoc0 k [], nil := fun k => assoc0 k [], unr := fun k => assocN k [], blk := fun k => assoc0 k [] })]
noncomputable def xdr_Writer_Opaque_v4_C (N : Nat) : Nat → List GS := fun k => tabOf k [(57, [xdr_Writer_fits_v2_g N]), (27, [xdr_Writer_Uint_g N]), (30, [xdr_Writer_Fixed_g N])]
def xdr_Writer_Opaque_v4_o : List (Shp × List Nat) := [(⟨[(0, (.tup []))], [(.sh (.one (.const (.slw 2 1))), true), (.sh (.one (.int .i64)), false), (.sh (.arr (.int .u8) none), false)]⟩, [])]
noncomputable def xdr_Writer_Opaque_v4_g (N : Nat) : GS := { ins := ⟨[(0, (.av (.one (.const (.ptr ⟨0, 0, 0, 0⟩))))), (1, (.av (.one (.rsl (.int .u8))))), (2, (.av (.one (.int .i64))))], [(some (.one (.const .nils)), true), (some (.one (.int .i64)), false)]⟩, lend := [.keep, .keep, .keep], outs := xdr_Writer_Opaque_v4_o.map fun s => ssOf s.1, its := [.lst (.int .u8), .int, .int], ots := [[.int, .lst (.int .u8)]], F := xdr_Writer_Opaque_v4 N }
noncomputable def xdr_Writer_Opaque_v4_CA (N : Nat) (f0 : Int × Int × Int → Option (Bool × Int)) (f1 : Int × Int → Option (Int × (List Int))) (f2 : (List Int) × Int × (List Int) → Option (Int × (List Int))) : Nat → List GS := fun k => tabOf k [(57, [{ xdr_Writer_fits_v2_g N with F := f0 }]), (27, [{ xdr_Writer_Uint_g N with F := f1 }]), (30, [{ xdr_Writer_Fixed_g N with F := f2 }])]
theorem xdr_Writer_Opaque_v4_CE (N : Nat) : xdr_Writer_Opaque_v4_CA N (xdr_Writer_fits_v2) (xdr_Writer_Uint N) (xdr_Writer_Fixed N) = xdr_Writer_Opaque_v4_C N := by kernel_rfl
theorem xdr_Writer_Opaque_v4_t (N : Nat) : TabC Try.prog (xdr_Writer_Opaque_v4_C N) := tab_ok ⟨⟨xdr_Writer_fits_v2_ok N, trivial⟩, ⟨xdr_Writer_Uint_ok N, trivial⟩, ⟨xdr_Writer_Fixed_ok N, trivial⟩, trivial⟩
theorem xdr_Writer_Opaque_v4_i : loopsOf xdr_Writer_Opaque_v4_c = [] := by kernel_rfl
noncomputable def xdr_Writer_Opaque_v4_a (N : Nat) (f0 : Int × Int × Int → Option (Bool × Int)) (f1 : Int × Int → Option (Int × (List Int))) (f2 : (List Int) × Int × (List Int) → Option (Int × (List Int))) (x : (List Int) × Int × Int) : Option (Int × (List Int)) :=
  (Option.bind (f0 ((((List.length x.1) : Nat) : Int), x.2.1, x.2.2)) fun r2 =>
  (Option.bind
  (cond r2.1
  (Option.bind (f1 ((wrapF .u32 (((List.length x.1) : Nat) : Int)), r2.2)) fun r5 =>
  (Option.bind (f2 (x.1, r5.1, r5.2)) fun r6 =>
  (some (r6.1, r6.2))))
  (some (r2.2, ([] : List Int))))
  fun r7 =>
  (some (r7.1, r7.2))))
theorem xdr_Writer_Opaque_v4_f (N : Nat) (f0 : Int × Int × Int → Option (Bool × Int)) (f1 : Int × Int → Option (Int × (List Int))) (f2 : (List Int) × Int × (List Int) → Option (Int × (List Int))) (x) : xdr_Writer_Opaque_v4_a N f0 f1 f2 x = fnStep Γ (xdr_Writer_Opaque_v4_CA N f0 f1 f2) (xdr_Writer_Opaque_v4_J N) 19 Try.f44.results.toList (xdr_Writer_Opaque_v4_g N) xdr_Writer_Opaque_v4_o xdr_Writer_Opaque_v4_c x := by kernel_rfl
theorem xdr_Writer_Opaque_v4_e (N : Nat) (x) : (xdr_Writer_Opaque_v4_g N).F x = fnStep Γ (xdr_Writer_Opaque_v4_C N) (xdr_Writer_Opaque_v4_J N) 19 Try.f44.results.toList (xdr_Writer_Opaque_v4_g N) xdr_Writer_Opaque_v4_o xdr_Writer_Opaque_v4_c x := by
  rw [← xdr_Writer_Opaque_v4_CE N]
  exact Eq.trans (by kernel_rfl) (xdr_Writer_Opaque_v4_f N (xdr_Writer_fits_v2) (xdr_Writer_Uint N) (xdr_Writer_Fixed N) x)
theorem xdr_Writer_Opaque_v4_y : Try.f44.body = some xdr_Writer_Opaque_v4_c := by kernel_rfl
theorem xdr_Writer_Opaque_v4_n : (Try.f44.name == "runtime.NumGoroutine") = false := by kernel_rfl
theorem xdr_Writer_Opaque_v4_ok (N : Nat) : FnDoes Try.prog 44 (xdr_Writer_Opaque_v4_g N) := fn_ok tabOK (xdr_Writer_Opaque_v4_t N) mixedOK (J := xdr_Writer_Opaque_v4_J N) (body := xdr_Writer_Opaque_v4_c) Try.func44 xdr_Writer_Opaque_v4_y xdr_Writer_Opaque_v4_n Try.ntmps44 (jok_from xdr_Writer_Opaque_v4_i ⟨trivial, trivial⟩) rfl rfl (le_of_ble rfl) (xdr_Writer_Opaque_v4_e N)
noncomputable def granaryref01_Writer_Fixed_v1_c : Code := codeOf Try.f51.body
noncomputable def granaryref01_Writer_Fixed_v1_c0 : Code := codeOf (getLoop 0 granaryref01_Writer_Fixed_v1_c)
def granaryref01_Writer_Fixed_v1_d0 : LD := { ins := ⟨[(0, (.av (.one (.const (.ptr ⟨0, 0, 0, 0⟩))))), (4, (.av (.one (.int .i64))))], [(.sh (.one (.const (.slw 3 1))), true), (.keep, false), (.keep, false), (.sh (.arr (.int .u8) none), false)]⟩, mov := [3], wr := [0], outs := [(.exit 0, ⟨[], [(.sh (.one (.const (.slw 4 1))), true), (.keep, false), (.keep, false), (.dead, false), (.sh (.arr (.int .u8) none), false)]⟩)], its := [.int, .lst (.int .u8)], ots := [[.lst (.int .u8)]] }
noncomputable def granaryref01_Writer_Fixed_v1_J (N : Nat) : Nat → Hint := fun cx => hintOf cx [(0, { reg := fun k => assoc0 k [], cnd := fun k => assoc0 k [], loop := fun k => assoc0 k [(0, ⟨granaryref01_Writer_Fixed_v1_d0, loopF (granaryref01_Writer_Fixed_v1_b0 N) N⟩)], nil := fun k => assoc0 k [], unr := fun k => assocN k [], blk := fun k => assoc0 k [] })]
noncomputable def granaryref01_Writer_Fixed_v1_C (N : Nat) : Nat → List GS := fun k => tabOf k []
def granaryref01_Writer_Fixed_v1_o : List (Shp × List Nat) := [(⟨[(0, (.tup []))], [(.sh (.one (.const (.slw 3 1))), true), (.sh (.one (.int .i64)), false), (.dead, false), (.sh (.arr (.int .u8) none), false)]⟩, [2])]
noncomputable def granaryref01_Writer_Fixed_v1_g (N : Nat) : GS := { ins := ⟨[(0, (.av (.one (.const (.ptr ⟨0, 0, 0, 0⟩))))), (1, (.av (.one (.rsl (.int .u8)))))], [(some (.one (.const (.slw 2 1))), true), (some (.one (.int .i64)), false), (some (.arr (.int .u8) none), false)]⟩, lend := [.keep, .keep], outs := granaryref01_Writer_Fixed_v1_o.map fun s => ssOf s.1, its := [.lst (.int .u8), .int, .lst (.int .u8)], ots := [[.int, .lst (.int .u8)]], F := granaryref01_Writer_Fixed_v1 N }
theorem granaryref01_Writer_Fixed_v1_t (N : Nat) : TabC Try.prog (granaryref01_Writer_Fixed_v1_C N) := tab_ok trivial
theorem granaryref01_Writer_Fixed_v1_i0 : loopsOf granaryref01_Writer_Fixed_v1_c0 = [] := by kernel_rfl
theorem granaryref01_Writer_Fixed_v1_e0 (N : Nat) (next) (x) : granaryref01_Writer_Fixed_v1_b0 N next x = loopStep Γ (granaryref01_Writer_Fixed_v1_C N) (granaryref01_Writer_Fixed_v1_J N) 0 35 granaryref01_Writer_Fixed_v1_d0 granaryref01_Writer_Fixed_v1_c0 next x := by kernel_rfl
theorem granaryref01_Writer_Fixed_v1_k0 (N : Nat) : LoopOK Try.prog 35 granaryref01_Writer_Fixed_v1_c0 ⟨granaryref01_Writer_Fixed_v1_d0, loopF (granaryref01_Writer_Fixed_v1_b0 N) N⟩ := loop_ok tabOK (granaryref01_Writer_Fixed_v1_t N) mixedOK (J := granaryref01_Writer_Fixed_v1_J N) (cx := 0) (body := granaryref01_Writer_Fixed_v1_c0) (nt := 35) (l := granaryref01_Writer_Fixed_v1_d0) (b := granaryref01_Writer_Fixed_v1_b0 N) (jok_from granaryref01_Writer_Fixed_v1_i0 ⟨trivial, trivial⟩) (granaryref01_Writer_Fixed_v1_e0 N) N
theorem granaryref01_Writer_Fixed_v1_i : loopsOf granaryref01_Writer_Fixed_v1_c = [(0, granaryref01_Writer_Fixed_v1_c0)] := by kernel_rfl
theorem granaryref01_Writer_Fixed_v1_e (N : Nat) (x) : (granaryref01_Writer_Fixed_v1_g N).F x = fnStep Γ (granaryref01_Writer_Fixed_v1_C N) (granaryref01_Writer_Fixed_v1_J N) 35 Try.f51.results.toList (granaryref01_Writer_Fixed_v1_g N) granaryref01_Writer_Fixed_v1_o granaryref01_Writer_Fixed_v1_c x := by kernel_rfl
theorem granaryref01_Writer_Fixed_v1_y : Try.f51.body = some granaryref01_Writer_Fixed_v1_c := by kernel_rfl
theorem granaryref01_Writer_Fixed_v1_n : (Try.f51.name == "runtime.NumGoroutine") = false := by kernel_rfl
theorem granaryref01_Writer_Fixed_v1_ok (N : Nat) : FnDoes Try.prog 51 (granaryref01_Writer_Fixed_v1_g N) := fn_ok tabOK (granaryref01_Writer_Fixed_v1_t N) mixedOK (J := granaryref01_Writer_Fixed_v1_J N) (body := granaryref01_Writer_Fixed_v1_c) Try.func51 granaryref01_Writer_Fixed_v1_y granaryref01_Writer_Fixed_v1_n Try.ntmps51 (jok_from granaryref01_Writer_Fixed_v1_i ⟨⟨.inr ⟨_, rfl, granaryref01_Writer_Fixed_v1_k0 N⟩, trivial⟩, trivial⟩) rfl rfl (le_of_ble rfl) (granaryref01_Writer_Fixed_v1_e N)
noncomputable def granaryref01_Writer_Opaque_c : Code := codeOf Try.f52.body
noncomputable def granaryref01_Writer_Opaque_J (N : Nat) : Nat → Hint := fun cx => hintOf cx []
noncomputable def granaryref01_Writer_Opaque_C (N : Nat) : Nat → List GS := fun k => tabOf k [(48, [granaryref01_Writer_Uint_g N]), (51, [granaryref01_Writer_Fixed_v1_g N])]
def granaryref01_Writer_Opaque_o : List (Shp × List Nat) := [(⟨[(0, (.tup []))], [(.sh (.one (.const (.slw 2 1))), true), (.sh (.one (.int .i64)), false), (.sh (.arr (.int .u8) none), false)]⟩, [])]
noncomputable def granaryref01_Writer_Opaque_g (N : Nat) : GS := { ins := ⟨[(0, (.av (.one (.const (.ptr ⟨0, 0, 0, 0⟩))))), (1, (.av (.one (.rsl (.int .u8))))), (2, (.av (.one (.int .i64))))], [(some (.one (.const .nils)), true), (some (.one (.int .i64)), false)]⟩, lend := [.keep, .keep, .keep], outs := granaryref01_Writer_Opaque_o.map fun s => ssOf s.1, its := [.lst (.int .u8), .int, .int], ots := [[.int, .lst (.int .u8)]], F := granaryref01_Writer_Opaque N }
noncomputable def granaryref01_Writer_Opaque_CA (N : Nat) (f0 : Int × Int → Option (Int × (List Int))) (f1 : (List Int) × Int × (List Int) → Option (Int × (List Int))) : Nat → List GS := fun k => tabOf k [(48, [{ granaryref01_Writer_Uint_g N with F := f0 }]), (51, [{ granaryref01_Writer_Fixed_v1_g N with F := f1 }])]
theorem granaryref01_Writer_Opaque_CE (N : Nat) : granaryref01_Writer_Opaque_CA N (granaryref01_Writer_Uint) (granaryref01_Writer_Fixed_v1 N) = granaryref01_Writer_Opaque_C N := by kernel_rfl
theorem granaryref01_Writer_Opaque_t (N : Nat) : TabC Try.prog (granaryref01_Writer_Opaque_C N) := tab_ok ⟨⟨granaryref01_Writer_Uint_ok N, trivial⟩, ⟨granaryref01_Writer_Fixed_v1_ok N, trivial⟩, trivial⟩
theorem granaryref01_Writer_Opaque_i : loopsOf granaryref01_Writer_Opaque_c = [] := by kernel_rfl
noncomputable def granaryref01_Writer_Opaque_a (N : Nat) (f0 : Int × Int → Option (Int × (List Int))) (f1 : (List Int) × Int × (List Int) → Option (Int × (List Int))) (x : (List Int) × Int × Int) : Option (Int × (List Int)) :=
  (cond (!(decide (x.2.2 = (0 : Int))))
  (some (x.2.2, ([] : List Int)))
  (cond (decide (x.2.1 < (((List.length x.1) : Nat) : Int)))
  (some ((1 : Int), ([] : List Int)))
  (Option.bind (f0 ((wrapF .u32 (((List.length x.1) : Nat) : Int)), x.2.2)) fun r6 =>
  (Option.bind (f1 (x.1, r6.1, r6.2)) fun r7 =>
  (some (r7.1, r7.2))))))
theorem granaryref01_Writer_Opaque_f (N : Nat) (f0 : Int × Int → Option (Int × (List Int))) (f1 : (List Int) × Int × (List Int) → Option (Int × (List Int))) (x) : granaryref01_Writer_Opaque_a N f0 f1 x = fnStep Γ (granaryref01_Writer_Opaque_CA N f0 f1) (granaryref01_Writer_Opaque_J N) 26 Try.f52.results.toList (granaryref01_Writer_Opaque_g N) granaryref01_Writer_Opaque_o granaryref01_Writer_Opaque_c x := by kernel_rfl
theorem granaryref01_Writer_Opaque_e (N : Nat) (x) : (granaryref01_Writer_Opaque_g N).F x = fnStep Γ (granaryref01_Writer_Opaque_C N) (granaryref01_Writer_Opaque_J N) 26 Try.f52.results.toList (granaryref01_Writer_Opaque_g N) granaryref01_Writer_Opaque_o granaryref01_Writer_Opaque_c x := by
  rw [← granaryref01_Writer_Opaque_CE N]
  exact Eq.trans (by kernel_rfl) (granaryref01_Writer_Opaque_f N (granaryref01_Writer_Uint) (granaryref01_Writer_Fixed_v1 N) x)
theorem granaryref01_Writer_Opaque_y : Try.f52.body = some granaryref01_Writer_Opaque_c := by kernel_rfl
theorem granaryref01_Writer_Opaque_n : (Try.f52.name == "runtime.NumGoroutine") = false := by kernel_rfl
theorem granaryref01_Writer_Opaque_ok (N : Nat) : FnDoes Try.prog 52 (granaryref01_Writer_Opaque_g N) := fn_ok tabOK (granaryref01_Writer_Opaque_t N) mixedOK (J := granaryref01_Writer_Opaque_J N) (body := granaryref01_Writer_Opaque_c) Try.func52 granaryref01_Writer_Opaque_y granaryref01_Writer_Opaque_n Try.ntmps52 (jok_from granaryref01_Writer_Opaque_i trivial) rfl rfl (le_of_ble rfl) (granaryref01_Writer_Opaque_e N)
noncomputable def xdr_PutList_uint32_v2_c : Code := codeOf Try.f31.body
noncomputable def xdr_PutList_uint32_v2_c0 : Code := codeOf (getLoop 0 xdr_PutList_uint32_v2_c)
def xdr_PutList_uint32_v2_d0 : LD := { ins := ⟨[(0, (.av (.one (.const (.ptr ⟨0, 0, 0, 0⟩))))), (3, (.av (.one (.const (.fn 32 []))))), (21, (.av (.one (.rsl (.int .u32))))), (22, (.av (.one (.int .i64)))), (23, (.av (.one (.int .i64))))], [(.sh (.one (.const (.slw 2 1))), true), (.sh (.one (.int .i64)), false), (.sh (.arr (.int .u8) none), false)]⟩, mov := [2], wr := [0, 1], outs := [(.exit 0, ⟨[], [(.sh (.one (.const (.slw 3 1))), true), (.sh (.one (.int .i64)), false), (.dead, false), (.sh (.arr (.int .u8) none), false)]⟩)], its := [.lst (.int .u32), .int, .int, .int, .lst (.int .u8)], ots := [[.int, .lst (.int .u8)]] }
noncomputable def xdr_PutList_uint32_v2_J (N : Nat) : Nat → Hint := fun cx => hintOf cx [(0, { reg := fun k => assoc0 k [], cnd := fun k => assoc0 k [], loop := fun k => assoc0 k [(0, ⟨xdr_PutList_uint32_v2_d0, loopF (xdr_PutList_uint32_v2_b0 N) N⟩)], nil := fun k => assoc0 k [], unr := fun k => assocN k [], blk := fun k => assoc0 k [] })]
noncomputable def xdr_PutList_uint32_v2_C (N : Nat) : Nat → List GS := fun k => tabOf k [(57, [xdr_Writer_fits_v2_g N]), (27, [xdr_Writer_Uint_g N]), (32, [granarylaw01_putNum_g N])]
def xdr_PutList_uint32_v2_o : List (Shp × List Nat) := [(⟨[(0, (.tup []))], [(.sh (.one (.const (.slw 2 1))), true), (.sh (.one (.int .i64)), false), (.sh (.arr (.int .u8) none), false)]⟩, [])]
noncomputable def xdr_PutList_uint32_v2_g (N : Nat) : GS := { ins := ⟨[(0, (.av (.one (.const (.ptr ⟨0, 0, 0, 0⟩))))), (1, (.av (.one (.rsl (.int .u32))))), (2, (.av (.one (.int .i64)))), (3, (.av (.one (.const (.fn 32 [])))))], [(some (.one (.const .nils)), true), (some (.one (.int .i64)), false)]⟩, lend := [.keep, .keep, .keep, .keep], outs := xdr_PutList_uint32_v2_o.map fun s => ssOf s.1, its := [.lst (.int .u32), .int, .int], ots := [[.int, .lst (.int .u8)]], F := xdr_PutList_uint32_v2 N }
noncomputable def xdr_PutList_uint32_v2_CA (N : Nat) (f0 : Int × Int × Int → Option (Bool × Int)) (f1 : Int × Int → Option (Int × (List Int))) (f2 : Int × Int × (List Int) → Option (Int × (List Int))) : Nat → List GS := fun k => tabOf k [(57, [{ xdr_Writer_fits_v2_g N with F := f0 }]), (27, [{ xdr_Writer_Uint_g N with F := f1 }]), (32, [{ granarylaw01_putNum_g N with F := f2 }])]
theorem xdr_PutList_uint32_v2_CE (N : Nat) : xdr_PutList_uint32_v2_CA N (xdr_Writer_fits_v2) (xdr_Writer_Uint N) (granarylaw01_putNum N) = xdr_PutList_uint32_v2_C N := by kernel_rfl
theorem xdr_PutList_uint32_v2_t (N : Nat) : TabC Try.prog (xdr_PutList_uint32_v2_C N) := tab_ok ⟨⟨xdr_Writer_fits_v2_ok N, trivial⟩, ⟨xdr_Writer_Uint_ok N, trivial⟩, ⟨granarylaw01_putNum_ok N, trivial⟩, trivial⟩
theorem xdr_PutList_uint32_v2_i0 : loopsOf xdr_PutList_uint32_v2_c0 = [] := by kernel_rfl
noncomputable def xdr_PutList_uint32_v2_a0 (N : Nat) (f0 : Int × Int × Int → Option (Bool × Int)) (f1 : Int × Int → Option (Int × (List Int))) (f2 : Int × Int × (List Int) → Option (Int × (List Int))) (next : (List Int) × Int × Int × Int × (List Int) → Option ((Int × (List Int)))) (x : (List Int) × Int × Int × Int × (List Int)) : Option ((Int × (List Int))) :=
  (cond (decide (x.2.2.1 < x.2.1))
  (cond ((decide ((0 : Int) ≤ x.2.2.1)) && (decide (x.2.2.1 < (((List.length x.1) : Nat) : Int))))
  ((Option.bind (f2 ((List.getD x.1 (Int.toNat x.2.2.1) (EK.dflt (.int .u32))), x.2.2.2.1, x.2.2.2.2)) fun r3 =>
  (next (x.1, x.2.1, (wrapF .i64 (x.2.2.1 + (1 : Int))), r3.1, r3.2))))
  none)
  (some (x.2.2.2.1, x.2.2.2.2)))
theorem xdr_PutList_uint32_v2_f0 (N : Nat) (f0 : Int × Int × Int → Option (Bool × Int)) (f1 : Int × Int → Option (Int × (List Int))) (f2 : Int × Int × (List Int) → Option (Int × (List Int))) (next) (x) : xdr_PutList_uint32_v2_a0 N f0 f1 f2 next x = loopStep Γ (xdr_PutList_uint32_v2_CA N f0 f1 f2) (xdr_PutList_uint32_v2_J N) 0 32 xdr_PutList_uint32_v2_d0 xdr_PutList_uint32_v2_c0 next x := by kernel_rfl
theorem xdr_PutList_uint32_v2_e0 (N : Nat) (next) (x) : xdr_PutList_uint32_v2_b0 N next x = loopStep Γ (xdr_PutList_uint32_v2_C N) (xdr_PutList_uint32_v2_J N) 0 32 xdr_PutList_uint32_v2_d0 xdr_PutList_uint32_v2_c0 next x := by
  rw [← xdr_PutList_uint32_v2_CE N]
  exact Eq.trans (by kernel_rfl) (xdr_PutList_uint32_v2_f0 N (xdr_Writer_fits_v2) (xdr_Writer_Uint N) (granarylaw01_putNum N) next x)
theorem xdr_PutList_uint32_v2_k0 (N : Nat) : LoopOK Try.prog 32 xdr_PutList_uint32_v2_c0 ⟨xdr_PutList_uint32_v2_d0, loopF (xdr_PutList_uint32_v2_b0 N) N⟩ := loop_ok tabOK (xdr_PutList_uint32_v2_t N) mixedOK (J := xdr_PutList_uint32_v2_J N) (cx := 0) (body := xdr_PutList_uint32_v2_c0) (nt := 32) (l := xdr_PutList_uint32_v2_d0) (b := xdr_PutList_uint32_v2_b0 N) (jok_from xdr_PutList_uint32_v2_i0 ⟨trivial, trivial⟩) (xdr_PutList_uint32_v2_e0 N) N
theorem xdr_PutList_uint32_v2_i : loopsOf xdr_PutList_uint32_v2_c = [(0, xdr_PutList_uint32_v2_c0)] := by kernel_rfl
noncomputable def xdr_PutList_uint32_v2_a (N : Nat) (f0 : Int × Int × Int → Option (Bool × Int)) (f1 : Int × Int → Option (Int × (List Int))) (f2 : Int × Int × (List Int) → Option (Int × (List Int))) (x : (List Int) × Int × Int) : Option (Int × (List Int)) :=
  (Option.bind (f0 ((((List.length x.1) : Nat) : Int), x.2.1, x.2.2)) fun r2 =>
  (cond (!r2.1)
  (some (r2.2, ([] : List Int)))
  (Option.bind (f1 ((wrapF .u32 (((List.length x.1) : Nat) : Int)), r2.2)) fun r6 =>
  (Option.bind (xdr_PutList_uint32_v2_l0 N (x.1, (((List.length x.1) : Nat) : Int), (0 : Int), r6.1, r6.2)) fun r8 =>
  (some (r8.1, r8.2))))))
theorem xdr_PutList_uint32_v2_f (N : Nat) (f0 : Int × Int × Int → Option (Bool × Int)) (f1 : Int × Int → Option (Int × (List Int))) (f2 : Int × Int × (List Int) → Option (Int × (List Int))) (x) : xdr_PutList_uint32_v2_a N f0 f1 f2 x = fnStep Γ (xdr_PutList_uint32_v2_CA N f0 f1 f2) (xdr_PutList_uint32_v2_J N) 32 Try.f31.results.toList (xdr_PutList_uint32_v2_g N) xdr_PutList_uint32_v2_o xdr_PutList_uint32_v2_c x := by kernel_rfl
theorem xdr_PutList_uint32_v2_e (N : Nat) (x) : (xdr_PutList_uint32_v2_g N).F x = fnStep Γ (xdr_PutList_uint32_v2_C N) (xdr_PutList_uint32_v2_J N) 32 Try.f31.results.toList (xdr_PutList_uint32_v2_g N) xdr_PutList_uint32_v2_o xdr_PutList_uint32_v2_c x := by
  rw [← xdr_PutList_uint32_v2_CE N]
  exact Eq.trans (by kernel_rfl) (xdr_PutList_uint32_v2_f N (xdr_Writer_fits_v2) (xdr_Writer_Uint N) (granarylaw01_putNum N) x)
theorem xdr_PutList_uint32_v2_y : Try.f31.body = some xdr_PutList_uint32_v2_c := by kernel_rfl
theorem xdr_PutList_uint32_v2_n : (Try.f31.name == "runtime.NumGoroutine") = false := by kernel_rfl
theorem xdr_PutList_uint32_v2_ok (N : Nat) : FnDoes Try.prog 31 (xdr_PutList_uint32_v2_g N) := fn_ok tabOK (xdr_PutList_uint32_v2_t N) mixedOK (J := xdr_PutList_uint32_v2_J N) (body := xdr_PutList_uint32_v2_c) Try.func31 xdr_PutList_uint32_v2_y xdr_PutList_uint32_v2_n Try.ntmps31 (jok_from xdr_PutList_uint32_v2_i ⟨⟨.inr ⟨_, rfl, xdr_PutList_uint32_v2_k0 N⟩, trivial⟩, trivial⟩) rfl rfl (le_of_ble rfl) (xdr_PutList_uint32_v2_e N)
noncomputable def xdr_PutList_string_v1_c : Code := codeOf Try.f21.body
noncomputable def xdr_PutList_string_v1_c0 : Code := codeOf (getLoop 0 xdr_PutList_string_v1_c)
def xdr_PutList_string_v1_d0 : LD := { ins := ⟨[(0, (.av (.one (.const (.ptr ⟨0, 0, 0, 0⟩))))), (3, (.av (.one (.const (.fn 22 []))))), (21, (.av (.one (.rsl .str)))), (22, (.av (.one (.int .i64)))), (23, (.av (.one (.int .i64))))], [(.sh (.one (.const (.slw 2 1))), true), (.sh (.one (.int .i64)), false), (.sh (.arr (.int .u8) none), false)]⟩, mov := [2], wr := [0, 1], outs := [(.exit 0, ⟨[], [(.sh (.one (.const (.slw 3 1))), true), (.sh (.one (.int .i64)), false), (.dead, false), (.sh (.arr (.int .u8) none), false)]⟩)], its := [.lst .str, .int, .int, .int, .lst (.int .u8)], ots := [[.int, .lst (.int .u8)]] }
noncomputable def xdr_PutList_string_v1_J (N : Nat) : Nat → Hint := fun cx => hintOf cx [(0, { reg := fun k => assoc0 k [], cnd := fun k => assoc0 k [], loop := fun k => assoc0 k [(0, ⟨xdr_PutList_string_v1_d0, loopF (xdr_PutList_string_v1_b0 N) N⟩)], nil := fun k => assoc0 k [], unr := fun k => assocN k [], blk := fun k => assoc0 k [] })]
noncomputable def xdr_PutList_string_v1_C (N : Nat) : Nat → List GS := fun k => tabOf k [(57, [xdr_Writer_fits_v2_g N]), (27, [xdr_Writer_Uint_g N]), (22, [granarylaw01_putText_g N])]
def xdr_PutList_string_v1_o : List (Shp × List Nat) := [(⟨[(0, (.tup []))], [(.sh (.one (.const (.slw 2 1))), true), (.sh (.one (.int .i64)), false), (.sh (.arr (.int .u8) none), false)]⟩, [])]
noncomputable def xdr_PutList_string_v1_g (N : Nat) : GS := { ins := ⟨[(0, (.av (.one (.const (.ptr ⟨0, 0, 0, 0⟩))))), (1, (.av (.one (.rsl .str)))), (2, (.av (.one (.int .i64)))), (3, (.av (.one (.const (.fn 22 [])))))], [(some (.one (.const .nils)), true), (some (.one (.int .i64)), false)]⟩, lend := [.keep, .keep, .keep, .keep], outs := xdr_PutList_string_v1_o.map fun s => ssOf s.1, its := [.lst .str, .int, .int], ots := [[.int, .lst (.int .u8)]], F := xdr_PutList_string_v1 N }
noncomputable def xdr_PutList_string_v1_CA (N : Nat) (f0 : Int × Int × Int → Option (Bool × Int)) (f1 : Int × Int → Option (Int × (List Int))) (f2 : (List UInt8) × Int × (List Int) → Option (Int × (List Int))) : Nat → List GS := fun k => tabOf k [(57, [{ xdr_Writer_fits_v2_g N with F := f0 }]), (27, [{ xdr_Writer_Uint_g N with F := f1 }]), (22, [{ granarylaw01_putText_g N with F := f2 }])]
theorem xdr_PutList_string_v1_CE (N : Nat) : xdr_PutList_string_v1_CA N (xdr_Writer_fits_v2) (xdr_Writer_Uint N) (granarylaw01_putText N) = xdr_PutList_string_v1_C N := by kernel_rfl
theorem xdr_PutList_string_v1_t (N : Nat) : TabC Try.prog (xdr_PutList_string_v1_C N) := tab_ok ⟨⟨xdr_Writer_fits_v2_ok N, trivial⟩, ⟨xdr_Writer_Uint_ok N, trivial⟩, ⟨granarylaw01_putText_ok N, trivial⟩, trivial⟩
theorem xdr_PutList_string_v1_i0 : loopsOf xdr_PutList_string_v1_c0 = [] := by kernel_rfl
noncomputable def xdr_PutList_string_v1_a0 (N : Nat) (f0 : Int × Int × Int → Option (Bool × Int)) (f1 : Int × Int → Option (Int × (List Int))) (f2 : (List UInt8) × Int × (List Int) → Option (Int × (List Int))) (next : (List (List UInt8)) × Int × Int × Int × (List Int) → Option ((Int × (List Int)))) (x : (List (List UInt8)) × Int × Int × Int × (List Int)) : Option ((Int × (List Int))) :=
  (cond (decide (x.2.2.1 < x.2.1))
  (cond ((decide ((0 : Int) ≤ x.2.2.1)) && (decide (x.2.2.1 < (((List.length x.1) : Nat) : Int))))
  ((Option.bind (f2 ((List.getD x.1 (Int.toNat x.2.2.1) (EK.dflt .str)), x.2.2.2.1, x.2.2.2.2)) fun r3 =>
  (next (x.1, x.2.1, (wrapF .i64 (x.2.2.1 + (1 : Int))), r3.1, r3.2))))
  none)
  (some (x.2.2.2.1, x.2.2.2.2)))
theorem xdr_PutList_string_v1_f0 (N : Nat) (f0 : Int × Int × Int → Option (Bool × Int)) (f1 : Int × Int → Option (Int × (List Int))) (f2 : (List UInt8) × Int × (List Int) → Option (Int × (List Int))) (next) (x) : xdr_PutList_string_v1_a0 N f0 f1 f2 next x = loopStep Γ (xdr_PutList_string_v1_CA N f0 f1 f2) (xdr_PutList_string_v1_J N) 0 32 xdr_PutList_string_v1_d0 xdr_PutList_string_v1_c0 next x := by kernel_rfl
theorem xdr_PutList_string_v1_e0 (N : Nat) (next) (x) : xdr_PutList_string_v1_b0 N next x = loopStep Γ (xdr_PutList_string_v1_C N) (xdr_PutList_string_v1_J N) 0 32 xdr_PutList_string_v1_d0 xdr_PutList_string_v1_c0 next x := by
  rw [← xdr_PutList_string_v1_CE N]
  exact Eq.trans (by kernel_rfl) (xdr_PutList_string_v1_f0 N (xdr_Writer_fits_v2) (xdr_Writer_Uint N) (granarylaw01_putText N) next x)
theorem xdr_PutList_string_v1_k0 (N : Nat) : LoopOK Try.prog 32 xdr_PutList_string_v1_c0 ⟨xdr_PutList_string_v1_d0, loopF (xdr_PutList_string_v1_b0 N) N⟩ := loop_ok tabOK (xdr_PutList_string_v1_t N) mixedOK (J := xdr_PutList_string_v1_J N) (cx := 0) (body := xdr_PutList_string_v1_c0) (nt := 32) (l := xdr_PutList_string_v1_d0) (b := xdr_PutList_string_v1_b0 N) (jok_from xdr_PutList_string_v1_i0 ⟨trivial, trivial⟩) (xdr_PutList_string_v1_e0 N) N
theorem xdr_PutList_string_v1_i : loopsOf xdr_PutList_string_v1_c = [(0, xdr_PutList_string_v1_c0)] := by kernel_rfl
noncomputable def xdr_PutList_string_v1_a (N : Nat) (f0 : Int × Int × Int → Option (Bool × Int)) (f1 : Int × Int → Option (Int × (List Int))) (f2 : (List UInt8) × Int × (List Int) → Option (Int × (List Int))) (x : (List (List UInt8)) × Int × Int) : Option (Int × (List Int)) :=
  (Option.bind (f0 ((((List.length x.1) : Nat) : Int), x.2.1, x.2.2)) fun r2 =>
  (cond (!r2.1)
  (some (r2.2, ([] : List Int)))
  (Option.bind (f1 ((wrapF .u32 (((List.length x.1) : Nat) : Int)), r2.2)) fun r6 =>
  (Option.bind (xdr_PutList_string_v1_l0 N (x.1, (((List.length x.1) : Nat) : Int), (0 : Int), r6.1, r6.2)) fun r8 =>
  (some (r8.1, r8.2))))))
theorem xdr_PutList_string_v1_f (N : Nat) (f0 : Int × Int × Int → Option (Bool × Int)) (f1 : Int × Int → Option (Int × (List Int))) (f2 : (List UInt8) × Int × (List Int) → Option (Int × (List Int))) (x) : xdr_PutList_string_v1_a N f0 f1 f2 x = fnStep Γ (xdr_PutList_string_v1_CA N f0 f1 f2) (xdr_PutList_string_v1_J N) 32 Try.f21.results.toList (xdr_PutList_string_v1_g N) xdr_PutList_string_v1_o xdr_PutList_string_v1_c x := by kernel_rfl
theorem xdr_PutList_string_v1_e (N : Nat) (x) : (xdr_PutList_string_v1_g N).F x = fnStep Γ (xdr_PutList_string_v1_C N) (xdr_PutList_string_v1_J N) 32 Try.f21.results.toList (xdr_PutList_string_v1_g N) xdr_PutList_string_v1_o xdr_PutList_string_v1_c x := by
  rw [← xdr_PutList_string_v1_CE N]
  exact Eq.trans (by kernel_rfl) (xdr_PutList_string_v1_f N (xdr_Writer_fits_v2) (xdr_Writer_Uint N) (granarylaw01_putText N) x)
theorem xdr_PutList_string_v1_y : Try.f21.body = some xdr_PutList_string_v1_c := by kernel_rfl
theorem xdr_PutList_string_v1_n : (Try.f21.name == "runtime.NumGoroutine") = false := by kernel_rfl
theorem xdr_PutList_string_v1_ok (N : Nat) : FnDoes Try.prog 21 (xdr_PutList_string_v1_g N) := fn_ok tabOK (xdr_PutList_string_v1_t N) mixedOK (J := xdr_PutList_string_v1_J N) (body := xdr_PutList_string_v1_c) Try.func21 xdr_PutList_string_v1_y xdr_PutList_string_v1_n Try.ntmps21 (jok_from xdr_PutList_string_v1_i ⟨⟨.inr ⟨_, rfl, xdr_PutList_string_v1_k0 N⟩, trivial⟩, trivial⟩) rfl rfl (le_of_ble rfl) (xdr_PutList_string_v1_e N)
noncomputable def granaryref01_Writer_Opaque_v1_c : Code := codeOf Try.f52.body
noncomputable def granaryref01_Writer_Opaque_v1_J (N : Nat) : Nat → Hint := fun cx => hintOf cx []
noncomputable def granaryref01_Writer_Opaque_v1_C (N : Nat) : Nat → List GS := fun k => tabOf k [(48, [granaryref01_Writer_Uint_v1_g N]), (51, [granaryref01_Writer_Fixed_v1_g N])]
def granaryref01_Writer_Opaque_v1_o : List (Shp × List Nat) := [(⟨[(0, (.tup []))], [(.sh (.one (.const (.slw 3 1))), true), (.sh (.one (.int .i64)), false), (.dead, false), (.sh (.arr (.int .u8) none), false)]⟩, [2])]
noncomputable def granaryref01_Writer_Opaque_v1_g (N : Nat) : GS := { ins := ⟨[(0, (.av (.one (.const (.ptr ⟨0, 0, 0, 0⟩))))), (1, (.av (.one (.rsl (.int .u8))))), (2, (.av (.one (.int .i64))))], [(some (.one (.const (.slw 2 1))), true), (some (.one (.int .i64)), false), (some (.arr (.int .u8) none), false)]⟩, lend := [.keep, .lend (.int .u8), .keep], outs := granaryref01_Writer_Opaque_v1_o.map fun s => ssOf s.1, its := [.lst (.int .u8), .int, .int, .lst (.int .u8)], ots := [[.int, .lst (.int .u8)]], F := granaryref01_Writer_Opaque_v1 N }
noncomputable def granaryref01_Writer_Opaque_v1_CA (N : Nat) (f0 : Int × Int × (List Int) → Option (Int × (List Int))) (f1 : (List Int) × Int × (List Int) → Option (Int × (List Int))) : Nat → List GS := fun k => tabOf k [(48, [{ granaryref01_Writer_Uint_v1_g N with F := f0 }]), (51, [{ granaryref01_Writer_Fixed_v1_g N with F := f1 }])]
theorem granaryref01_Writer_Opaque_v1_CE (N : Nat) : granaryref01_Writer_Opaque_v1_CA N (granaryref01_Writer_Uint_v1) (granaryref01_Writer_Fixed_v1 N) = granaryref01_Writer_Opaque_v1_C N := by kernel_rfl
theorem granaryref01_Writer_Opaque_v1_t (N : Nat) : TabC Try.prog (granaryref01_Writer_Opaque_v1_C N) := tab_ok ⟨⟨granaryref01_Writer_Uint_v1_ok N, trivial⟩, ⟨granaryref01_Writer_Fixed_v1_ok N, trivial⟩, trivial⟩
theorem granaryref01_Writer_Opaque_v1_i : loopsOf granaryref01_Writer_Opaque_v1_c = [] := by kernel_rfl
noncomputable def granaryref01_Writer_Opaque_v1_a (N : Nat) (f0 : Int × Int × (List Int) → Option (Int × (List Int))) (f1 : (List Int) × Int × (List Int) → Option (Int × (List Int))) (x : (List Int) × Int × Int × (List Int)) : Option (Int × (List Int)) :=
  (cond (!(decide (x.2.2.1 = (0 : Int))))
  (some (x.2.2.1, x.2.2.2))
  (cond (decide (x.2.1 < (((List.length x.1) : Nat) : Int)))
  (some ((1 : Int), x.2.2.2))
  (Option.bind (f0 ((wrapF .u32 (((List.length x.1) : Nat) : Int)), x.2.2.1, x.2.2.2)) fun r6 =>
  (Option.bind (f1 (x.1, r6.1, r6.2)) fun r7 =>
  (some (r7.1, r7.2))))))
theorem granaryref01_Writer_Opaque_v1_f (N : Nat) (f0 : Int × Int × (List Int) → Option (Int × (List Int))) (f1 : (List Int) × Int × (List Int) → Option (Int × (List Int))) (x) : granaryref01_Writer_Opaque_v1_a N f0 f1 x = fnStep Γ (granaryref01_Writer_Opaque_v1_CA N f0 f1) (granaryref01_Writer_Opaque_v1_J N) 26 Try.f52.results.toList (granaryref01_Writer_Opaque_v1_g N) granaryref01_Writer_Opaque_v1_o granaryref01_Writer_Opaque_v1_c x := by kernel_rfl
theorem granaryref01_Writer_Opaque_v1_e (N : Nat) (x) : (granaryref01_Writer_Opaque_v1_g N).F x = fnStep Γ (granaryref01_Writer_Opaque_v1_C N) (granaryref01_Writer_Opaque_v1_J N) 26 Try.f52.results.toList (granaryref01_Writer_Opaque_v1_g N) granaryref01_Writer_Opaque_v1_o granaryref01_Writer_Opaque_v1_c x := by
  rw [← granaryref01_Writer_Opaque_v1_CE N]
  exact Eq.trans (by kernel_rfl) (granaryref01_Writer_Opaque_v1_f N (granaryref01_Writer_Uint_v1) (granaryref01_Writer_Fixed_v1 N) x)
theorem granaryref01_Writer_Opaque_v1_y : Try.f52.body = some granaryref01_Writer_Opaque_v1_c := by kernel_rfl
theorem granaryref01_Writer_Opaque_v1_n : (Try.f52.name == "runtime.NumGoroutine") = false := by kernel_rfl
theorem granaryref01_Writer_Opaque_v1_ok (N : Nat) : FnDoes Try.prog 52 (granaryref01_Writer_Opaque_v1_g N) := fn_ok tabOK (granaryref01_Writer_Opaque_v1_t N) mixedOK (J := granaryref01_Writer_Opaque_v1_J N) (body := granaryref01_Writer_Opaque_v1_c) Try.func52 granaryref01_Writer_Opaque_v1_y granaryref01_Writer_Opaque_v1_n Try.ntmps52 (jok_from granaryref01_Writer_Opaque_v1_i trivial) rfl rfl (le_of_ble rfl) (granaryref01_Writer_Opaque_v1_e N)
noncomputable def xdr_PutChain_string_v3_c : Code := codeOf Try.f23.body
noncomputable def xdr_PutChain_string_v3_c0 : Code := codeOf (getLoop 0 xdr_PutChain_string_v3_c)
def xdr_PutChain_string_v3_d0 : LD := { ins := ⟨[(0, (.av (.one (.const (.ptr ⟨0, 0, 0, 0⟩))))), (2, (.av (.one (.const (.fn 22 []))))), (10, (.av (.one (.rsl .str)))), (11, (.av (.one (.int .i64)))), (12, (.av (.one (.int .i64))))], [(.sh (.one (.const (.slw 2 1))), true), (.sh (.one (.int .i64)), false), (.sh (.arr (.int .u8) none), false)]⟩, mov := [2], wr := [0, 1], outs := [(.exit 0, ⟨[], [(.sh (.one (.const (.slw 3 1))), true), (.sh (.one (.int .i64)), false), (.dead, false), (.sh (.arr (.int .u8) none), false)]⟩)], its := [.lst .str, .int, .int, .int, .lst (.int .u8)], ots := [[.int, .lst (.int .u8)]] }
noncomputable def xdr_PutChain_string_v3_J (N : Nat) : Nat → Hint := fun cx => hintOf cx [(0, { reg := fun k => assoc0 k [], cnd := fun k => assoc0 k [], loop := fun k => assoc0 k [(0, ⟨xdr_PutChain_string_v3_d0, loopF (xdr_PutChain_string_v3_b0 N) N⟩)], nil := fun k => assoc0 k [], unr := fun k => assocN k [], blk := fun k => assoc0 k [] })]
noncomputable def xdr_PutChain_string_v3_C (N : Nat) : Nat → List GS := fun k => tabOf k [(58, [xdr_Writer_bad_g N]), (15, [xdr_Writer_Bool_v1_g N, xdr_Writer_Bool_v2_g N]), (22, [granarylaw01_putText_g N])]
def xdr_PutChain_string_v3_o : List (Shp × List Nat) := [(⟨[(0, (.tup []))], [(.sh (.one (.const (.slw 2 1))), true), (.sh (.one (.int .i64)), false), (.sh (.arr (.int .u8) none), false)]⟩, [])]
noncomputable def xdr_PutChain_string_v3_g (N : Nat) : GS := { ins := ⟨[(0, (.av (.one (.const (.ptr ⟨0, 0, 0, 0⟩))))), (1, (.av (.one (.rsl .str)))), (2, (.av (.one (.const (.fn 22 [])))))], [(some (.one (.const .nils)), true), (some (.one (.int .i64)), false)]⟩, lend := [.keep, .keep, .keep], outs := xdr_PutChain_string_v3_o.map fun s => ssOf s.1, its := [.lst .str, .int], ots := [[.int, .lst (.int .u8)]], F := xdr_PutChain_string_v3 N }
noncomputable def xdr_PutChain_string_v3_CA (N : Nat) (f0 : Int → Option (Bool × Int)) (f1 : Bool × Int → Option (Int × (List Int))) (f2 : Bool × Int × (List Int) → Option (Int × (List Int))) (f3 : (List UInt8) × Int × (List Int) → Option (Int × (List Int))) : Nat → List GS := fun k => tabOf k [(58, [{ xdr_Writer_bad_g N with F := f0 }]), (15, [{ xdr_Writer_Bool_v1_g N with F := f1 }, { xdr_Writer_Bool_v2_g N with F := f2 }]), (22, [{ granarylaw01_putText_g N with F := f3 }])]
theorem xdr_PutChain_string_v3_CE (N : Nat) : xdr_PutChain_string_v3_CA N (xdr_Writer_bad) (xdr_Writer_Bool_v1 N) (xdr_Writer_Bool_v2 N) (granarylaw01_putText N) = xdr_PutChain_string_v3_C N := by kernel_rfl
theorem xdr_PutChain_string_v3_t (N : Nat) : TabC Try.prog (xdr_PutChain_string_v3_C N) := tab_ok ⟨⟨xdr_Writer_bad_ok N, trivial⟩, ⟨xdr_Writer_Bool_v1_ok N, xdr_Writer_Bool_v2_ok N, trivial⟩, ⟨granarylaw01_putText_ok N, trivial⟩, trivial⟩
theorem xdr_PutChain_string_v3_i0 : loopsOf xdr_PutChain_string_v3_c0 = [] := by kernel_rfl
noncomputable def xdr_PutChain_string_v3_a0 (N : Nat) (f0 : Int → Option (Bool × Int)) (f1 : Bool × Int → Option (Int × (List Int))) (f2 : Bool × Int × (List Int) → Option (Int × (List Int))) (f3 : (List UInt8) × Int × (List Int) → Option (Int × (List Int))) (next : (List (List UInt8)) × Int × Int × Int × (List Int) → Option ((Int × (List Int)))) (x : (List (List UInt8)) × Int × Int × Int × (List Int)) : Option ((Int × (List Int))) :=
  (cond (decide (x.2.2.1 < x.2.1))
  (cond ((decide ((0 : Int) ≤ x.2.2.1)) && (decide (x.2.2.1 < (((List.length x.1) : Nat) : Int))))
  ((Option.bind (f2 (true, x.2.2.2.1, x.2.2.2.2)) fun r3 =>
  (Option.bind (f3 ((List.getD x.1 (Int.toNat x.2.2.1) (EK.dflt .str)), r3.1, r3.2)) fun r4 =>
  (next (x.1, x.2.1, (wrapF .i64 (x.2.2.1 + (1 : Int))), r4.1, r4.2)))))
  none)
  (some (x.2.2.2.1, x.2.2.2.2)))
theorem xdr_PutChain_string_v3_f0 (N : Nat) (f0 : Int → Option (Bool × Int)) (f1 : Bool × Int → Option (Int × (List Int))) (f2 : Bool × Int × (List Int) → Option (Int × (List Int))) (f3 : (List UInt8) × Int × (List Int) → Option (Int × (List Int))) (next) (x) : xdr_PutChain_string_v3_a0 N f0 f1 f2 f3 next x = loopStep Γ (xdr_PutChain_string_v3_CA N f0 f1 f2 f3) (xdr_PutChain_string_v3_J N) 0 25 xdr_PutChain_string_v3_d0 xdr_PutChain_string_v3_c0 next x := by kernel_rfl
theorem xdr_PutChain_string_v3_e0 (N : Nat) (next) (x) : xdr_PutChain_string_v3_b0 N next x = loopStep Γ (xdr_PutChain_string_v3_C N) (xdr_PutChain_string_v3_J N) 0 25 xdr_PutChain_string_v3_d0 xdr_PutChain_string_v3_c0 next x := by
  rw [← xdr_PutChain_string_v3_CE N]
  exact Eq.trans (by kernel_rfl) (xdr_PutChain_string_v3_f0 N (xdr_Writer_bad) (xdr_Writer_Bool_v1 N) (xdr_Writer_Bool_v2 N) (granarylaw01_putText N) next x)
theorem xdr_PutChain_string_v3_k0 (N : Nat) : LoopOK Try.prog 25 xdr_PutChain_string_v3_c0 ⟨xdr_PutChain_string_v3_d0, loopF (xdr_PutChain_string_v3_b0 N) N⟩ := loop_ok tabOK (xdr_PutChain_string_v3_t N) mixedOK (J := xdr_PutChain_string_v3_J N) (cx := 0) (body := xdr_PutChain_string_v3_c0) (nt := 25) (l := xdr_PutChain_string_v3_d0) (b := xdr_PutChain_string_v3_b0 N) (jok_from xdr_PutChain_string_v3_i0 ⟨trivial, trivial⟩) (xdr_PutChain_string_v3_e0 N) N
theorem xdr_PutChain_string_v3_i : loopsOf xdr_PutChain_string_v3_c = [(0, xdr_PutChain_string_v3_c0)] := by kernel_rfl
noncomputable def xdr_PutChain_string_v3_a (N : Nat) (f0 : Int → Option (Bool × Int)) (f1 : Bool × Int → Option (Int × (List Int))) (f2 : Bool × Int × (List Int) → Option (Int × (List Int))) (f3 : (List UInt8) × Int × (List Int) → Option (Int × (List Int))) (x : (List (List UInt8)) × Int) : Option (Int × (List Int)) :=
  (Option.bind (f0 x.2) fun r1 =>
  (cond r1.1
  (some (r1.2, ([] : List Int)))
  (Option.bind (xdr_PutChain_string_v3_l0 N (x.1, (((List.length x.1) : Nat) : Int), (0 : Int), r1.2, ([] : List Int))) fun r3 =>
  (Option.bind (f2 (false, r3.1, r3.2)) fun r4 =>
  (some (r4.1, r4.2))))))
theorem xdr_PutChain_string_v3_f (N : Nat) (f0 : Int → Option (Bool × Int)) (f1 : Bool × Int → Option (Int × (List Int))) (f2 : Bool × Int × (List Int) → Option (Int × (List Int))) (f3 : (List UInt8) × Int × (List Int) → Option (Int × (List Int))) (x) : xdr_PutChain_string_v3_a N f0 f1 f2 f3 x = fnStep Γ (xdr_PutChain_string_v3_CA N f0 f1 f2 f3) (xdr_PutChain_string_v3_J N) 25 Try.f23.results.toList (xdr_PutChain_string_v3_g N) xdr_PutChain_string_v3_o xdr_PutChain_string_v3_c x := by kernel_rfl
theorem xdr_PutChain_string_v3_e (N : Nat) (x) : (xdr_PutChain_string_v3_g N).F x = fnStep Γ (xdr_PutChain_string_v3_C N) (xdr_PutChain_string_v3_J N) 25 Try.f23.results.toList (xdr_PutChain_string_v3_g N) xdr_PutChain_string_v3_o xdr_PutChain_string_v3_c x := by
  rw [← xdr_PutChain_string_v3_CE N]
  exact Eq.trans (by kernel_rfl) (xdr_PutChain_string_v3_f N (xdr_Writer_bad) (xdr_Writer_Bool_v1 N) (xdr_Writer_Bool_v2 N) (granarylaw01_putText N) x)
theorem xdr_PutChain_string_v3_y : Try.f23.body = some xdr_PutChain_string_v3_c := by kernel_rfl
theorem xdr_PutChain_string_v3_n : (Try.f23.name == "runtime.NumGoroutine") = false := by kernel_rfl
theorem xdr_PutChain_string_v3_ok (N : Nat) : FnDoes Try.prog 23 (xdr_PutChain_string_v3_g N) := fn_ok tabOK (xdr_PutChain_string_v3_t N) mixedOK (J := xdr_PutChain_string_v3_J N) (body := xdr_PutChain_string_v3_c) Try.func23 xdr_PutChain_string_v3_y xdr_PutChain_string_v3_n Try.ntmps23 (jok_from xdr_PutChain_string_v3_i ⟨⟨.inr ⟨_, rfl, xdr_PutChain_string_v3_k0 N⟩, trivial⟩, trivial⟩) rfl rfl (le_of_ble rfl) (xdr_PutChain_string_v3_e N)
noncomputable def granaryref01_Writer_Bool_v1_c : Code := codeOf Try.f50.body
noncomputable def granaryref01_Writer_Bool_v1_J (N : Nat) : Nat → Hint := fun cx => hintOf cx [(0, { reg := fun k => assoc0 k [], cnd := fun k => assoc0 k [(4, ⟨[], [0, 1, 2], [(.normal, ⟨[], [(.sh (.one (.const (.slw 3 1))), true), (.sh (.one (.int .i64)), false), (.dead, false), (.sh (.arr (.int .u8) none), false)]⟩)], [[.int, .lst (.int .u8)]]⟩)], loop := fun k => assoc0 k [], nil := fun k => assoc0 k [], unr := fun k => assocN k [], blk := fun k => assoc0 k [] })]
noncomputable def granaryref01_Writer_Bool_v1_C (N : Nat) : Nat → List GS := fun k => tabOf k [(48, [granaryref01_Writer_Uint_v1_g N])]
def granaryref01_Writer_Bool_v1_o : List (Shp × List Nat) := [(⟨[(0, (.tup []))], [(.sh (.one (.const (.slw 3 1))), true), (.sh (.one (.int .i64)), false), (.dead, false), (.sh (.arr (.int .u8) none), false)]⟩, [])]
noncomputable def granaryref01_Writer_Bool_v1_g (N : Nat) : GS := { ins := ⟨[(0, (.av (.one (.const (.ptr ⟨0, 0, 0, 0⟩))))), (1, (.av (.one .bool)))], [(some (.one (.const (.slw 2 1))), true), (some (.one (.int .i64)), false), (some (.arr (.int .u8) none), false)]⟩, lend := [.keep, .keep], outs := granaryref01_Writer_Bool_v1_o.map fun s => ssOf s.1, its := [.bool, .int, .lst (.int .u8)], ots := [[.int, .lst (.int .u8)]], F := granaryref01_Writer_Bool_v1 }
noncomputable def granaryref01_Writer_Bool_v1_CA (N : Nat) (f0 : Int × Int × (List Int) → Option (Int × (List Int))) : Nat → List GS := fun k => tabOf k [(48, [{ granaryref01_Writer_Uint_v1_g N with F := f0 }])]
theorem granaryref01_Writer_Bool_v1_CE (N : Nat) : granaryref01_Writer_Bool_v1_CA N (granaryref01_Writer_Uint_v1) = granaryref01_Writer_Bool_v1_C N := by kernel_rfl
theorem granaryref01_Writer_Bool_v1_t (N : Nat) : TabC Try.prog (granaryref01_Writer_Bool_v1_C N) := tab_ok ⟨⟨granaryref01_Writer_Uint_v1_ok N, trivial⟩, trivial⟩
theorem granaryref01_Writer_Bool_v1_i : loopsOf granaryref01_Writer_Bool_v1_c = [] := by kernel_rfl
noncomputable def granaryref01_Writer_Bool_v1_a (N : Nat) (f0 : Int × Int × (List Int) → Option (Int × (List Int))) (x : Bool × Int × (List Int)) : Option (Int × (List Int)) :=
  (Option.bind
  (cond x.1
  (Option.bind (f0 ((1 : Int), x.2.1, x.2.2)) fun r1 =>
  (some (r1.1, r1.2)))
  (Option.bind (f0 ((0 : Int), x.2.1, x.2.2)) fun r2 =>
  (some (r2.1, r2.2))))
  fun r3 =>
  (some (r3.1, r3.2)))
theorem granaryref01_Writer_Bool_v1_f (N : Nat) (f0 : Int × Int × (List Int) → Option (Int × (List Int))) (x) : granaryref01_Writer_Bool_v1_a N f0 x = fnStep Γ (granaryref01_Writer_Bool_v1_CA N f0) (granaryref01_Writer_Bool_v1_J N) 9 Try.f50.results.toList (granaryref01_Writer_Bool_v1_g N) granaryref01_Writer_Bool_v1_o granaryref01_Writer_Bool_v1_c x := by kernel_rfl
theorem granaryref01_Writer_Bool_v1_e (N : Nat) (x) : (granaryref01_Writer_Bool_v1_g N).F x = fnStep Γ (granaryref01_Writer_Bool_v1_C N) (granaryref01_Writer_Bool_v1_J N) 9 Try.f50.results.toList (granaryref01_Writer_Bool_v1_g N) granaryref01_Writer_Bool_v1_o granaryref01_Writer_Bool_v1_c x := by
  rw [← granaryref01_Writer_Bool_v1_CE N]
  exact Eq.trans (by kernel_rfl) (granaryref01_Writer_Bool_v1_f N (granaryref01_Writer_Uint_v1) x)
theorem granaryref01_Writer_Bool_v1_y : Try.f50.body = some granaryref01_Writer_Bool_v1_c := by kernel_rfl
theorem granaryref01_Writer_Bool_v1_n : (Try.f50.name == "runtime.NumGoroutine") = false := by kernel_rfl
theorem granaryref01_Writer_Bool_v1_ok (N : Nat) : FnDoes Try.prog 50 (granaryref01_Writer_Bool_v1_g N) := fn_ok tabOK (granaryref01_Writer_Bool_v1_t N) mixedOK (J := granaryref01_Writer_Bool_v1_J N) (body := granaryref01_Writer_Bool_v1_c) Try.func50 granaryref01_Writer_Bool_v1_y granaryref01_Writer_Bool_v1_n Try.ntmps50 (jok_from granaryref01_Writer_Bool_v1_i ⟨trivial, trivial⟩) rfl rfl (le_of_ble rfl) (granaryref01_Writer_Bool_v1_e N)
noncomputable def xdr_PutOption_uint32_v2_c : Code := codeOf Try.f33.body
noncomputable def xdr_PutOption_uint32_v2_J (N : Nat) : Nat → Hint := fun cx => hintOf cx []
noncomputable def xdr_PutOption_uint32_v2_C (N : Nat) : Nat → List GS := fun k => tabOf k [(58, [xdr_Writer_bad_g N]), (15, [xdr_Writer_Bool_v1_g N])]
def xdr_PutOption_uint32_v2_o : List (Shp × List Nat) := [(⟨[(0, (.tup []))], [(.sh (.one (.const (.slw 2 1))), true), (.sh (.one (.int .i64)), false), (.sh (.arr (.int .u8) none), false)]⟩, [])]
noncomputable def xdr_PutOption_uint32_v2_g (N : Nat) : GS := { ins := ⟨[(0, (.av (.one (.const (.ptr ⟨0, 0, 0, 0⟩))))), (1, (.av (.one (.const .nilp)))), (2, (.av (.one (.const (.fn 32 [])))))], [(some (.one (.const .nils)), true), (some (.one (.int .i64)), false)]⟩, lend := [.keep, .keep, .keep], outs := xdr_PutOption_uint32_v2_o.map fun s => ssOf s.1, its := [.int], ots := [[.int, .lst (.int .u8)]], F := xdr_PutOption_uint32_v2 N }
noncomputable def xdr_PutOption_uint32_v2_CA (N : Nat) (f0 : Int → Option (Bool × Int)) (f1 : Bool × Int → Option (Int × (List Int))) : Nat → List GS := fun k => tabOf k [(58, [{ xdr_Writer_bad_g N with F := f0 }]), (15, [{ xdr_Writer_Bool_v1_g N with F := f1 }])]
theorem xdr_PutOption_uint32_v2_CE (N : Nat) : xdr_PutOption_uint32_v2_CA N (xdr_Writer_bad) (xdr_Writer_Bool_v1 N) = xdr_PutOption_uint32_v2_C N := by kernel_rfl
theorem xdr_PutOption_uint32_v2_t (N : Nat) : TabC Try.prog (xdr_PutOption_uint32_v2_C N) := tab_ok ⟨⟨xdr_Writer_bad_ok N, trivial⟩, ⟨xdr_Writer_Bool_v1_ok N, trivial⟩, trivial⟩
theorem xdr_PutOption_uint32_v2_i : loopsOf xdr_PutOption_uint32_v2_c = [] := by kernel_rfl
noncomputable def xdr_PutOption_uint32_v2_a (N : Nat) (f0 : Int → Option (Bool × Int)) (f1 : Bool × Int → Option (Int × (List Int))) (x : Int) : Option (Int × (List Int)) :=
  (Option.bind (f0 x) fun r1 =>
  (cond r1.1
  (some (r1.2, ([] : List Int)))
  (Option.bind (f1 (false, r1.2)) fun r2 =>
  (some (r2.1, r2.2)))))
theorem xdr_PutOption_uint32_v2_f (N : Nat) (f0 : Int → Option (Bool × Int)) (f1 : Bool × Int → Option (Int × (List Int))) (x) : xdr_PutOption_uint32_v2_a N f0 f1 x = fnStep Γ (xdr_PutOption_uint32_v2_CA N f0 f1) (xdr_PutOption_uint32_v2_J N) 20 Try.f33.results.toList (xdr_PutOption_uint32_v2_g N) xdr_PutOption_uint32_v2_o xdr_PutOption_uint32_v2_c x := by kernel_rfl
theorem xdr_PutOption_uint32_v2_e (N : Nat) (x) : (xdr_PutOption_uint32_v2_g N).F x = fnStep Γ (xdr_PutOption_uint32_v2_C N) (xdr_PutOption_uint32_v2_J N) 20 Try.f33.results.toList (xdr_PutOption_uint32_v2_g N) xdr_PutOption_uint32_v2_o xdr_PutOption_uint32_v2_c x := by
  rw [← xdr_PutOption_uint32_v2_CE N]
  exact Eq.trans (by kernel_rfl) (xdr_PutOption_uint32_v2_f N (xdr_Writer_bad) (xdr_Writer_Bool_v1 N) x)
theorem xdr_PutOption_uint32_v2_y : Try.f33.body = some xdr_PutOption_uint32_v2_c := by kernel_rfl
theorem xdr_PutOption_uint32_v2_n : (Try.f33.name == "runtime.NumGoroutine") = false := by kernel_rfl
theorem xdr_PutOption_uint32_v2_ok (N : Nat) : FnDoes Try.prog 33 (xdr_PutOption_uint32_v2_g N) := fn_ok tabOK (xdr_PutOption_uint32_v2_t N) mixedOK (J := xdr_PutOption_uint32_v2_J N) (body := xdr_PutOption_uint32_v2_c) Try.func33 xdr_PutOption_uint32_v2_y xdr_PutOption_uint32_v2_n Try.ntmps33 (jok_from xdr_PutOption_uint32_v2_i trivial) rfl rfl (le_of_ble rfl) (xdr_PutOption_uint32_v2_e N)
noncomputable def xdr_PutOption_uint32_v3_c : Code := codeOf Try.f33.body
noncomputable def xdr_PutOption_uint32_v3_J (N : Nat) : Nat → Hint := fun cx => hintOf cx []
noncomputable def xdr_PutOption_uint32_v3_C (N : Nat) : Nat → List GS := fun k => tabOf k [(58, [xdr_Writer_bad_g N]), (15, [xdr_Writer_Bool_v1_g N]), (32, [granarylaw01_putNum_g N])]
def xdr_PutOption_uint32_v3_o : List (Shp × List Nat) := [(⟨[(0, (.tup []))], [(.sh (.one (.const (.slw 3 1))), true), (.sh (.one (.int .i64)), false), (.sh (.one (.int .u32)), false), (.sh (.arr (.int .u8) none), false)]⟩, [])]
noncomputable def xdr_PutOption_uint32_v3_g (N : Nat) : GS := { ins := ⟨[(0, (.av (.one (.const (.ptr ⟨0, 0, 0, 0⟩))))), (1, (.av (.one (.const (.ptr ⟨2, 0, 0, 0⟩))))), (2, (.av (.one (.const (.fn 32 [])))))], [(some (.one (.const .nils)), true), (some (.one (.int .i64)), false), (some (.one (.int .u32)), false)]⟩, lend := [.keep, .keep, .keep], outs := xdr_PutOption_uint32_v3_o.map fun s => ssOf s.1, its := [.int, .int], ots := [[.int, .int, .lst (.int .u8)]], F := xdr_PutOption_uint32_v3 N }
noncomputable def xdr_PutOption_uint32_v3_CA (N : Nat) (f0 : Int → Option (Bool × Int)) (f1 : Bool × Int → Option (Int × (List Int))) (f2 : Int × Int × (List Int) → Option (Int × (List Int))) : Nat → List GS := fun k => tabOf k [(58, [{ xdr_Writer_bad_g N with F := f0 }]), (15, [{ xdr_Writer_Bool_v1_g N with F := f1 }]), (32, [{ granarylaw01_putNum_g N with F := f2 }])]
theorem xdr_PutOption_uint32_v3_CE (N : Nat) : xdr_PutOption_uint32_v3_CA N (xdr_Writer_bad) (xdr_Writer_Bool_v1 N) (granarylaw01_putNum N) = xdr_PutOption_uint32_v3_C N := by kernel_rfl
theorem xdr_PutOption_uint32_v3_t (N : Nat) : TabC Try.prog (xdr_PutOption_uint32_v3_C N) := tab_ok ⟨⟨xdr_Writer_bad_ok N, trivial⟩, ⟨xdr_Writer_Bool_v1_ok N, trivial⟩, ⟨granarylaw01_putNum_ok N, trivial⟩, trivial⟩
theorem xdr_PutOption_uint32_v3_i : loopsOf xdr_PutOption_uint32_v3_c = [] := by kernel_rfl
noncomputable def xdr_PutOption_uint32_v3_a (N : Nat) (f0 : Int → Option (Bool × Int)) (f1 : Bool × Int → Option (Int × (List Int))) (f2 : Int × Int × (List Int) → Option (Int × (List Int))) (x : Int × Int) : Option (Int × Int × (List Int)) :=
  (Option.bind (f0 x.1) fun r1 =>
  (cond r1.1
  (some (r1.2, x.2, ([] : List Int)))
  (Option.bind (f1 (true, r1.2)) fun r2 =>
  (Option.bind (f2 (x.2, r2.1, r2.2)) fun r3 =>
  (some (r3.1, x.2, r3.2))))))
theorem xdr_PutOption_uint32_v3_f (N : Nat) (f0 : Int → Option (Bool × Int)) (f1 : Bool × Int → Option (Int × (List Int))) (f2 : Int × Int × (List Int) → Option (Int × (List Int))) (x) : xdr_PutOption_uint32_v3_a N f0 f1 f2 x = fnStep Γ (xdr_PutOption_uint32_v3_CA N f0 f1 f2) (xdr_PutOption_uint32_v3_J N) 20 Try.f33.results.toList (xdr_PutOption_uint32_v3_g N) xdr_PutOption_uint32_v3_o xdr_PutOption_uint32_v3_c x := by kernel_rfl
theorem xdr_PutOption_uint32_v3_e (N : Nat) (x) : (xdr_PutOption_uint32_v3_g N).F x = fnStep Γ (xdr_PutOption_uint32_v3_C N) (xdr_PutOption_uint32_v3_J N) 20 Try.f33.results.toList (xdr_PutOption_uint32_v3_g N) xdr_PutOption_uint32_v3_o xdr_PutOption_uint32_v3_c x := by
  rw [← xdr_PutOption_uint32_v3_CE N]
  exact Eq.trans (by kernel_rfl) (xdr_PutOption_uint32_v3_f N (xdr_Writer_bad) (xdr_Writer_Bool_v1 N) (granarylaw01_putNum N) x)
theorem xdr_PutOption_uint32_v3_y : Try.f33.body = some xdr_PutOption_uint32_v3_c := by kernel_rfl
theorem xdr_PutOption_uint32_v3_n : (Try.f33.name == "runtime.NumGoroutine") = false := by kernel_rfl
theorem xdr_PutOption_uint32_v3_ok (N : Nat) : FnDoes Try.prog 33 (xdr_PutOption_uint32_v3_g N) := fn_ok tabOK (xdr_PutOption_uint32_v3_t N) mixedOK (J := xdr_PutOption_uint32_v3_J N) (body := xdr_PutOption_uint32_v3_c) Try.func33 xdr_PutOption_uint32_v3_y xdr_PutOption_uint32_v3_n Try.ntmps33 (jok_from xdr_PutOption_uint32_v3_i trivial) rfl rfl (le_of_ble rfl) (xdr_PutOption_uint32_v3_e N)
noncomputable def granarylaw01_writes_c : Code := codeOf Try.f10.body
noncomputable def granarylaw01_writes_c1 : Code := codeOf (getLoop 1 granarylaw01_writes_c)
noncomputable def granarylaw01_writes_c3 : Code := codeOf (getLoop 3 granarylaw01_writes_c)
noncomputable def granarylaw01_writes_c5 : Code := codeOf (getLoop 5 granarylaw01_writes_c)
def granarylaw01_writes_d1 : LD := { ins := ⟨[(1, (.av (.one (.const (.ptr ⟨2, 0, 0, 0⟩))))), (5, (.av (.one (.const (.ptr ⟨4, 0, 0, 0⟩))))), (6, (.av (.one (.int .i64))))], [(.keep, false), (.keep, false), (.sh (.one (.const (.slw 11 1))), true), (.sh (.one (.int .i64)), false), (.sh (.one (.int .i64)), true), (.sh (.one (.int .u64)), true), (.sh (.one (.rsl (.int .u8))), true), (.sh (.one (.int .i64)), true), (.sh (.one (.rsl (.int .u32))), true), (.keep, false), (.keep, false), (.sh (.arr (.int .u8) none), false)]⟩, mov := [11], wr := [2, 3, 4, 5, 6, 7, 8], outs := [(.exit 1, ⟨[], [(.keep, false), (.keep, false), (.sh (.one (.const (.slw 12 1))), true), (.sh (.one (.int .i64)), false), (.sh (.one (.int .i64)), true), (.sh (.one (.int .u64)), true), (.sh (.one (.rsl (.int .u8))), true), (.sh (.one (.int .i64)), true), (.sh (.one (.rsl (.int .u32))), true), (.keep, false), (.keep, false), (.dead, false), (.sh (.arr (.int .u8) none), false)]⟩)], its := [.int, .int, .int, .int, .lst (.int .u8), .int, .lst (.int .u32), .lst (.int .u8)], ots := [[.int, .int, .int, .lst (.int .u8), .int, .lst (.int .u32), .lst (.int .u8)]] }
def granarylaw01_writes_d3 : LD := { ins := ⟨[(1, (.av (.one (.const (.ptr ⟨2, 0, 0, 0⟩))))), (5, (.av (.one (.const (.ptr ⟨4, 0, 0, 0⟩))))), (7, (.av (.one (.int .i64))))], [(.keep, false), (.keep, false), (.sh (.one (.const (.slw 11 1))), true), (.sh (.one (.int .i64)), false), (.sh (.one (.int .i64)), true), (.sh (.one (.int .u64)), true), (.sh (.one (.rsl (.int .u8))), true), (.sh (.one (.int .i64)), true), (.sh (.one (.rsl (.int .u32))), true), (.sh (.one (.rsl .str)), false), (.keep, false), (.sh (.arr (.int .u8) none), false)]⟩, mov := [11], wr := [2, 3, 4, 5, 6, 7, 8, 9], outs := [(.exit 3, ⟨[], [(.keep, false), (.keep, false), (.sh (.one (.const (.slw 12 1))), true), (.sh (.one (.int .i64)), false), (.sh (.one (.int .i64)), true), (.sh (.one (.int .u64)), true), (.sh (.one (.rsl (.int .u8))), true), (.sh (.one (.int .i64)), true), (.sh (.one (.rsl (.int .u32))), true), (.sh (.one (.rsl .str)), false), (.keep, false), (.dead, false), (.sh (.arr (.int .u8) none), false)]⟩)], its := [.int, .int, .int, .int, .lst (.int .u8), .int, .lst (.int .u32), .lst .str, .lst (.int .u8)], ots := [[.int, .int, .int, .lst (.int .u8), .int, .lst (.int .u32), .lst .str, .lst (.int .u8)]] }
def granarylaw01_writes_d5 : LD := { ins := ⟨[(1, (.av (.one (.const (.ptr ⟨2, 0, 0, 0⟩))))), (5, (.av (.one (.const (.ptr ⟨4, 0, 0, 0⟩))))), (8, (.av (.one (.int .i64))))], [(.keep, false), (.keep, false), (.sh (.one (.const (.slw 11 1))), true), (.sh (.one (.int .i64)), false), (.sh (.one (.int .i64)), true), (.sh (.one (.int .u64)), true), (.sh (.one (.rsl (.int .u8))), true), (.sh (.one (.int .i64)), true), (.sh (.one (.rsl (.int .u32))), true), (.sh (.one (.rsl .str)), false), (.keep, false), (.sh (.arr (.int .u8) none), false)]⟩, mov := [11], wr := [2, 3, 4, 5, 6, 7, 8, 9], outs := [(.exit 5, ⟨[], [(.keep, false), (.keep, false), (.sh (.one (.const (.slw 12 1))), true), (.sh (.one (.int .i64)), false), (.sh (.one (.int .i64)), true), (.sh (.one (.int .u64)), true), (.sh (.one (.rsl (.int .u8))), true), (.sh (.one (.int .i64)), true), (.sh (.one (.rsl (.int .u32))), true), (.sh (.one (.rsl .str)), false), (.keep, false), (.dead, false), (.sh (.arr (.int .u8) none), false)]⟩)], its := [.int, .int, .int, .int, .lst (.int .u8), .int, .lst (.int .u32), .lst .str, .lst (.int .u8)], ots := [[.int, .int, .int, .lst (.int .u8), .int, .lst (.int .u32), .lst .str, .lst (.int .u8)]] }
noncomputable def granarylaw01_writes_J (N : Nat) : Nat → Hint := fun cx => hintOf cx [(0, { reg := fun k => assoc0 k [(26, ⟨⟨[(119, (.av (.one .bool)))], [(.keep, true), (.keep, false), (.keep, true), (.keep, false), (.keep, true), (.keep, true), (.keep, true), (.keep, true), (.keep, true), (.keep, false), (.keep, false)]⟩, [], [], [.bool]⟩), (35, ⟨⟨[(163, (.av (.one .bool)))], [(.keep, true), (.keep, false), (.keep, true), (.keep, false), (.keep, true), (.keep, true), (.keep, true), (.keep, true), (.keep, true), (.keep, false), (.keep, false)]⟩, [], [], [.bool]⟩)], cnd := fun k => assoc0 k [(119, ⟨[], [3], [(.normal, ⟨[], [(.keep, true), (.keep, false), (.keep, true), (.sh (.one (.int .i64)), false), (.keep, true), (.keep, true), (.keep, true), (.keep, true), (.keep, true), (.keep, false), (.keep, false)]⟩)], [[.int]]⟩), (163, ⟨[], [3], [(.normal, ⟨[], [(.keep, true), (.keep, false), (.keep, true), (.sh (.one (.int .i64)), false), (.keep, true), (.keep, true), (.keep, true), (.keep, true), (.keep, true), (.keep, false), (.keep, false)]⟩)], [[.int]]⟩), (213, ⟨[], [0, 1, 2, 3], [(.normal, ⟨[], [(.sh (.one (.const (.slw 10 1))), true), (.sh (.one (.int .i64)), false), (.sh (.one (.const (.slw 11 1))), true), (.sh (.one (.int .i64)), false), (.keep, true), (.keep, true), (.keep, true), (.keep, true), (.keep, true), (.keep, false), (.sh (.arr (.int .u8) none), false), (.sh (.arr (.int .u8) none), false)]⟩), (.ret, ⟨[], [(.sh (.one (.const (.slw 10 1))), true), (.sh (.one (.int .i64)), false), (.sh (.one (.const (.slw 11 1))), true), (.sh (.one (.int .i64)), false), (.keep, true), (.keep, true), (.keep, true), (.keep, true), (.keep, true), (.keep, false), (.sh (.arr (.int .u8) none), false), (.sh (.arr (.int .u8) none), false)]⟩)], [[.int, .int, .lst (.int .u8), .lst (.int .u8)], [.int, .int, .lst (.int .u8), .lst (.int .u8)]]⟩), (188, ⟨[], [0, 1, 2, 3, 4, 5, 6, 7, 8, 9], [(.normal, ⟨[], [(.sh (.one (.const (.slw 10 1))), true), (.sh (.one (.int .i64)), false), (.sh (.one (.const (.slw 11 1))), true), (.sh (.one (.int .i64)), false), (.sh (.one (.int .i64)), true), (.sh (.one (.int .u64)), true), (.sh (.one (.rsl (.int .u8))), true), (.sh (.one (.int .i64)), true), (.sh (.one (.rsl (.int .u32))), true), (.sh (.one (.rsl .str)), false), (.sh (.arr (.int .u8) none), false), (.sh (.arr (.int .u8) none), false)]⟩), (.ret, ⟨[], [(.sh (.one (.const (.slw 10 1))), true), (.sh (.one (.int .i64)), false), (.sh (.one (.const (.slw 11 1))), true), (.sh (.one (.int .i64)), false), (.sh (.one (.int .i64)), true), (.sh (.one (.int .u64)), true), (.sh (.one (.rsl (.int .u8))), true), (.sh (.one (.int .i64)), true), (.sh (.one (.rsl (.int .u32))), true), (.sh (.one (.rsl .str)), false), (.sh (.arr (.int .u8) none), false), (.sh (.arr (.int .u8) none), false)]⟩)], [[.int, .int, .int, .int, .lst (.int .u8), .int, .lst (.int .u32), .lst .str, .lst (.int .u8), .lst (.int .u8)], [.int, .int, .int, .int, .lst (.int .u8), .int, .lst (.int .u32), .lst .str, .lst (.int .u8), .lst (.int .u8)]]⟩), (143, ⟨[], [0, 1, 2, 3, 4, 5, 6, 7, 8, 9], [(.normal, ⟨[], [(.sh (.one (.const (.slw 10 1))), true), (.sh (.one (.int .i64)), false), (.sh (.one (.const (.slw 11 1))), true), (.sh (.one (.int .i64)), false), (.sh (.one (.int .i64)), true), (.sh (.one (.int .u64)), true), (.sh (.one (.rsl (.int .u8))), true), (.sh (.one (.int .i64)), true), (.sh (.one (.rsl (.int .u32))), true), (.sh (.one (.rsl .str)), false), (.sh (.arr (.int .u8) none), false), (.sh (.arr (.int .u8) none), false)]⟩), (.ret, ⟨[], [(.sh (.one (.const (.slw 10 1))), true), (.sh (.one (.int .i64)), false), (.sh (.one (.const (.slw 11 1))), true), (.sh (.one (.int .i64)), false), (.sh (.one (.int .i64)), true), (.sh (.one (.int .u64)), true), (.sh (.one (.rsl (.int .u8))), true), (.sh (.one (.int .i64)), true), (.sh (.one (.rsl (.int .u32))), true), (.sh (.one (.rsl .str)), false), (.sh (.arr (.int .u8) none), false), (.sh (.arr (.int .u8) none), false)]⟩)], [[.int, .int, .int, .int, .lst (.int .u8), .int, .lst (.int .u32), .lst .str, .lst (.int .u8), .lst (.int .u8)], [.int, .int, .int, .int, .lst (.int .u8), .int, .lst (.int .u32), .lst .str, .lst (.int .u8), .lst (.int .u8)]]⟩), (99, ⟨[], [0, 1, 2, 3, 4, 5, 6, 7, 8, 9], [(.normal, ⟨[], [(.sh (.one (.const (.slw 10 1))), true), (.sh (.one (.int .i64)), false), (.sh (.one (.const (.slw 11 1))), true), (.sh (.one (.int .i64)), false), (.sh (.one (.int .i64)), true), (.sh (.one (.int .u64)), true), (.sh (.one (.rsl (.int .u8))), true), (.sh (.one (.int .i64)), true), (.sh (.one (.rsl (.int .u32))), true), (.sh (.one (.rsl .str)), false), (.sh (.arr (.int .u8) none), false), (.sh (.arr (.int .u8) none), false)]⟩), (.ret, ⟨[], [(.sh (.one (.const (.slw 10 1))), true), (.sh (.one (.int .i64)), false), (.sh (.one (.const (.slw 11 1))), true), (.sh (.one (.int .i64)), false), (.sh (.one (.int .i64)), true), (.sh (.one (.int .u64)), true), (.sh (.one (.rsl (.int .u8))), true), (.sh (.one (.int .i64)), true), (.sh (.one (.rsl (.int .u32))), true), (.sh (.one (.rsl .str)), false), (.sh (.arr (.int .u8) none), false), (.sh (.arr (.int .u8) none), false)]⟩)], [[.int, .int, .int, .int, .lst (.int .u8), .int, .lst (.int .u32), .lst .str, .lst (.int .u8), .lst (.int .u8)], [.int, .int, .int, .int, .lst (.int .u8), .int, .lst (.int .u32), .lst .str, .lst (.int .u8), .lst (.int .u8)]]⟩), (84, ⟨[], [0, 1, 2, 3, 4, 5, 6, 7, 8, 9], [(.normal, ⟨[], [(.sh (.one (.const (.slw 10 1))), true), (.sh (.one (.int .i64)), false), (.sh (.one (.const (.slw 11 1))), true), (.sh (.one (.int .i64)), false), (.sh (.one (.int .i64)), true), (.sh (.one (.int .u64)), true), (.sh (.one (.rsl (.int .u8))), true), (.sh (.one (.int .i64)), true), (.sh (.one (.rsl (.int .u32))), true), (.sh (.one (.rsl .str)), false), (.sh (.arr (.int .u8) none), false), (.sh (.arr (.int .u8) none), false)]⟩), (.ret, ⟨[], [(.sh (.one (.const (.slw 10 1))), true), (.sh (.one (.int .i64)), false), (.sh (.one (.const (.slw 11 1))), true), (.sh (.one (.int .i64)), false), (.sh (.one (.int .i64)), true), (.sh (.one (.int .u64)), true), (.sh (.one (.rsl (.int .u8))), true), (.sh (.one (.int .i64)), true), (.sh (.one (.rsl (.int .u32))), true), (.sh (.one (.rsl .str)), false), (.sh (.arr (.int .u8) none), false), (.sh (.arr (.int .u8) none), false)]⟩)], [[.int, .int, .int, .int, .lst (.int .u8), .int, .lst (.int .u32), .lst .str, .lst (.int .u8), .lst (.int .u8)], [.int, .int, .int, .int, .lst (.int .u8), .int, .lst (.int .u32), .lst .str, .lst (.int .u8), .lst (.int .u8)]]⟩), (70, ⟨[], [0, 1, 2, 3, 4, 5, 6, 7, 8, 9], [(.normal, ⟨[], [(.sh (.one (.const (.slw 10 1))), true), (.sh (.one (.int .i64)), false), (.sh (.one (.const (.slw 11 1))), true), (.sh (.one (.int .i64)), false), (.sh (.one (.int .i64)), true), (.sh (.one (.int .u64)), true), (.sh (.one (.rsl (.int .u8))), true), (.sh (.one (.int .i64)), true), (.sh (.one (.rsl (.int .u32))), true), (.sh (.one (.rsl .str)), false), (.sh (.arr (.int .u8) none), false), (.sh (.arr (.int .u8) none), false)]⟩), (.ret, ⟨[], [(.sh (.one (.const (.slw 10 1))), true), (.sh (.one (.int .i64)), false), (.sh (.one (.const (.slw 11 1))), true), (.sh (.one (.int .i64)), false), (.sh (.one (.int .i64)), true), (.sh (.one (.int .u64)), true), (.sh (.one (.rsl (.int .u8))), true), (.sh (.one (.int .i64)), true), (.sh (.one (.rsl (.int .u32))), true), (.sh (.one (.rsl .str)), false), (.sh (.arr (.int .u8) none), false), (.sh (.arr (.int .u8) none), false)]⟩)], [[.int, .int, .int, .int, .lst (.int .u8), .int, .lst (.int .u32), .lst .str, .lst (.int .u8), .lst (.int .u8)], [.int, .int, .int, .int, .lst (.int .u8), .int, .lst (.int .u32), .lst .str, .lst (.int .u8), .lst (.int .u8)]]⟩), (60, ⟨[], [0, 1, 2, 3, 4, 5, 6, 7, 8, 9], [(.normal, ⟨[], [(.sh (.one (.const (.slw 10 1))), true), (.sh (.one (.int .i64)), false), (.sh (.one (.const (.slw 11 1))), true), (.sh (.one (.int .i64)), false), (.sh (.one (.int .i64)), true), (.sh (.one (.int .u64)), true), (.sh (.one (.rsl (.int .u8))), true), (.sh (.one (.int .i64)), true), (.sh (.one (.rsl (.int .u32))), true), (.sh (.one (.rsl .str)), false), (.sh (.arr (.int .u8) none), false), (.sh (.arr (.int .u8) none), false)]⟩), (.ret, ⟨[], [(.sh (.one (.const (.slw 10 1))), true), (.sh (.one (.int .i64)), false), (.sh (.one (.const (.slw 11 1))), true), (.sh (.one (.int .i64)), false), (.sh (.one (.int .i64)), true), (.sh (.one (.int .u64)), true), (.sh (.one (.rsl (.int .u8))), true), (.sh (.one (.int .i64)), true), (.sh (.one (.rsl (.int .u32))), true), (.sh (.one (.rsl .str)), false), (.sh (.arr (.int .u8) none), false), (.sh (.arr (.int .u8) none), false)]⟩)], [[.int, .int, .int, .int, .lst (.int .u8), .int, .lst (.int .u32), .lst .str, .lst (.int .u8), .lst (.int .u8)], [.int, .int, .int, .int, .lst (.int .u8), .int, .lst (.int .u32), .lst .str, .lst (.int .u8), .lst (.int .u8)]]⟩), (48, ⟨[], [0, 1, 2, 3, 4, 5, 6, 7, 8, 9], [(.normal, ⟨[], [(.sh (.one (.const (.slw 10 1))), true), (.sh (.one (.int .i64)), false), (.sh (.one (.const (.slw 11 1))), true), (.sh (.one (.int .i64)), false), (.sh (.one (.int .i64)), true), (.sh (.one (.int .u64)), true), (.sh (.one (.rsl (.int .u8))), true), (.sh (.one (.int .i64)), true), (.sh (.one (.rsl (.int .u32))), true), (.sh (.one (.rsl .str)), false), (.sh (.arr (.int .u8) none), false), (.sh (.arr (.int .u8) none), false)]⟩), (.ret, ⟨[], [(.sh (.one (.const (.slw 10 1))), true), (.sh (.one (.int .i64)), false), (.sh (.one (.const (.slw 11 1))), true), (.sh (.one (.int .i64)), false), (.sh (.one (.int .i64)), true), (.sh (.one (.int .u64)), true), (.sh (.one (.rsl (.int .u8))), true), (.sh (.one (.int .i64)), true), (.sh (.one (.rsl (.int .u32))), true), (.sh (.one (.rsl .str)), false), (.sh (.arr (.int .u8) none), false), (.sh (.arr (.int .u8) none), false)]⟩)], [[.int, .int, .int, .int, .lst (.int .u8), .int, .lst (.int .u32), .lst .str, .lst (.int .u8), .lst (.int .u8)], [.int, .int, .int, .int, .lst (.int .u8), .int, .lst (.int .u32), .lst .str, .lst (.int .u8), .lst (.int .u8)]]⟩), (38, ⟨[], [0, 1, 2, 3, 4, 5, 6, 7, 8, 9], [(.normal, ⟨[], [(.sh (.one (.const (.slw 10 1))), true), (.sh (.one (.int .i64)), false), (.sh (.one (.const (.slw 11 1))), true), (.sh (.one (.int .i64)), false), (.sh (.one (.int .i64)), true), (.sh (.one (.int .u64)), true), (.sh (.one (.rsl (.int .u8))), true), (.sh (.one (.int .i64)), true), (.sh (.one (.rsl (.int .u32))), true), (.sh (.one (.rsl .str)), false), (.sh (.arr (.int .u8) none), false), (.sh (.arr (.int .u8) none), false)]⟩), (.ret, ⟨[], [(.sh (.one (.const (.slw 10 1))), true), (.sh (.one (.int .i64)), false), (.sh (.one (.const (.slw 11 1))), true), (.sh (.one (.int .i64)), false), (.sh (.one (.int .i64)), true), (.sh (.one (.int .u64)), true), (.sh (.one (.rsl (.int .u8))), true), (.sh (.one (.int .i64)), true), (.sh (.one (.rsl (.int .u32))), true), (.sh (.one (.rsl .str)), false), (.sh (.arr (.int .u8) none), false), (.sh (.arr (.int .u8) none), false)]⟩)], [[.int, .int, .int, .int, .lst (.int .u8), .int, .lst (.int .u32), .lst .str, .lst (.int .u8), .lst (.int .u8)], [.int, .int, .int, .int, .lst (.int .u8), .int, .lst (.int .u32), .lst .str, .lst (.int .u8), .lst (.int .u8)]]⟩), (25, ⟨[], [0, 1, 2, 3, 4, 5, 6, 7, 8, 9], [(.normal, ⟨[], [(.sh (.one (.const (.slw 10 1))), true), (.sh (.one (.int .i64)), false), (.sh (.one (.const (.slw 11 1))), true), (.sh (.one (.int .i64)), false), (.sh (.one (.int .i64)), true), (.sh (.one (.int .u64)), true), (.sh (.one (.rsl (.int .u8))), true), (.sh (.one (.int .i64)), true), (.sh (.one (.rsl (.int .u32))), true), (.sh (.one (.rsl .str)), false), (.sh (.arr (.int .u8) none), false), (.sh (.arr (.int .u8) none), false)]⟩), (.ret, ⟨[], [(.sh (.one (.const (.slw 10 1))), true), (.sh (.one (.int .i64)), false), (.sh (.one (.const (.slw 11 1))), true), (.sh (.one (.int .i64)), false), (.sh (.one (.int .i64)), true), (.sh (.one (.int .u64)), true), (.sh (.one (.rsl (.int .u8))), true), (.sh (.one (.int .i64)), true), (.sh (.one (.rsl (.int .u32))), true), (.sh (.one (.rsl .str)), false), (.sh (.arr (.int .u8) none), false), (.sh (.arr (.int .u8) none), false)]⟩)], [[.int, .int, .int, .int, .lst (.int .u8), .int, .lst (.int .u32), .lst .str, .lst (.int .u8), .lst (.int .u8)], [.int, .int, .int, .int, .lst (.int .u8), .int, .lst (.int .u32), .lst .str, .lst (.int .u8), .lst (.int .u8)]]⟩)], loop := fun k => assoc0 k [(1, ⟨granarylaw01_writes_d1, loopF (granarylaw01_writes_b1 N) N⟩), (3, ⟨granarylaw01_writes_d3, loopF (granarylaw01_writes_b3 N) N⟩), (5, ⟨granarylaw01_writes_d5, loopF (granarylaw01_writes_b5 N) N⟩)], nil := fun k => assoc0 k [], unr := fun k => assocN k [], blk := fun k => assoc0 k [(0, ⟨[], [0, 1, 2, 3, 4, 5, 6, 7, 8, 9], [(.normal, ⟨[], [(.sh (.one (.const (.slw 10 1))), true), (.sh (.one (.int .i64)), false), (.sh (.one (.const (.slw 11 1))), true), (.sh (.one (.int .i64)), false), (.sh (.one (.int .i64)), true), (.sh (.one (.int .u64)), true), (.sh (.one (.rsl (.int .u8))), true), (.sh (.one (.int .i64)), true), (.sh (.one (.rsl (.int .u32))), true), (.sh (.one (.rsl .str)), false), (.sh (.arr (.int .u8) none), false), (.sh (.arr (.int .u8) none), false)]⟩), (.ret, ⟨[], [(.sh (.one (.const (.slw 10 1))), true), (.sh (.one (.int .i64)), false), (.sh (.one (.const (.slw 11 1))), true), (.sh (.one (.int .i64)), false), (.sh (.one (.int .i64)), true), (.sh (.one (.int .u64)), true), (.sh (.one (.rsl (.int .u8))), true), (.sh (.one (.int .i64)), true), (.sh (.one (.rsl (.int .u32))), true), (.sh (.one (.rsl .str)), false), (.sh (.arr (.int .u8) none), false), (.sh (.arr (.int .u8) none), false)]⟩)], [[.int, .int, .int, .int, .lst (.int .u8), .int, .lst (.int .u32), .lst .str, .lst (.int .u8), .lst (.int .u8)], [.int, .int, .int, .int, .lst (.int .u8), .int, .lst (.int .u32), .lst .str, .lst (.int .u8), .lst (.int .u8)]]⟩)] })]
noncomputable def granarylaw01_writes_C (N : Nat) : Nat → List GS := fun k => tabOf k [(27, [xdr_Writer_Uint_g N]), (48, [granaryref01_Writer_Uint_g N, granaryref01_Writer_Uint_v1_g N]), (28, [xdr_Writer_Int_v2_g N]), (29, [xdr_Writer_Hyper_v2_g N]), (49, [granaryref01_Writer_Hyper_g N]), (15, [xdr_Writer_Bool_v1_g N]), (50, [granaryref01_Writer_Bool_g N, granaryref01_Writer_Bool_v1_g N]), (30, [xdr_Writer_Fixed_v3_g N]), (51, [granaryref01_Writer_Fixed_g N]), (44, [xdr_Writer_Opaque_v4_g N]), (52, [granaryref01_Writer_Opaque_g N, granaryref01_Writer_Opaque_v1_g N]), (18, [xdr_Writer_Text_v2_g N]), (31, [xdr_PutList_uint32_v2_g N]), (21, [xdr_PutList_string_v1_g N]), (23, [xdr_PutChain_string_v3_g N]), (33, [xdr_PutOption_uint32_v2_g N, xdr_PutOption_uint32_v3_g N])]
def granarylaw01_writes_o : List (Shp × List Nat) := [(⟨[(0, (.tup []))], [(.sh (.one (.const (.slw 4 1))), true), (.sh (.one (.int .i64)), false), (.sh (.one (.const (.slw 5 1))), true), (.sh (.one (.int .i64)), false), (.sh (.arr (.int .u8) none), false), (.sh (.arr (.int .u8) none), false)]⟩, [])]
noncomputable def granarylaw01_writes_g (N : Nat) : GS := { ins := ⟨[(0, (.av (.one (.const (.ptr ⟨0, 0, 0, 0⟩))))), (1, (.av (.one (.const (.ptr ⟨2, 0, 0, 0⟩))))), (2, (.av (.agg [(.one (.int .i64)), (.one (.int .u64)), (.one (.rsl (.int .u8))), (.one (.int .i64)), (.one (.rsl (.int .u32))), (.one (.rsl .str))])))], [(some (.one (.const .nils)), true), (some (.one (.int .i64)), false), (some (.one (.const .nils)), true), (some (.one (.int .i64)), false)]⟩, lend := [.keep, .keep, .agg [none, none, some (.int .u8), none, none, none]], outs := granarylaw01_writes_o.map fun s => ssOf s.1, its := [.int, .int, .lst (.int .u8), .int, .lst (.int .u32), .lst .str, .int, .int], ots := [[.int, .int, .lst (.int .u8), .lst (.int .u8)]], F := granarylaw01_writes N }
noncomputable def granarylaw01_writes_CA (N : Nat) (f0 : Int × Int → Option (Int × (List Int))) (f1 : Int × Int → Option (Int × (List Int))) (f2 : Int × Int × (List Int) → Option (Int × (List Int))) (f3 : Int × Int → Option (Int × (List Int))) (f4 : Int × Int → Option (Int × (List Int))) (f5 : Int × Int → Option (Int × (List Int))) (f6 : Bool × Int → Option (Int × (List Int))) (f7 : Bool × Int → Option (Int × (List Int))) (f8 : Bool × Int × (List Int) → Option (Int × (List Int))) (f9 : (List Int) × Int → Option (Int × (List Int))) (f10 : (List Int) × Int → Option (Int × (List Int))) (f11 : (List Int) × Int × Int → Option (Int × (List Int))) (f12 : (List Int) × Int × Int → Option (Int × (List Int))) (f13 : (List Int) × Int × Int × (List Int) → Option (Int × (List Int))) (f14 : (List UInt8) × Int × Int → Option (Int × (List Int))) (f15 : (List Int) × Int × Int → Option (Int × (List Int))) (f16 : (List (List UInt8)) × Int × Int → Option (Int × (List Int))) (f17 : (List (List UInt8)) × Int → Option (Int × (List Int))) (f18 : Int → Option (Int × (List Int))) (f19 : Int × Int → Option (Int × Int × (List Int))) : Nat → List GS := fun k => tabOf k [(27, [{ xdr_Writer_Uint_g N with F := f0 }]), (48, [{ granaryref01_Writer_Uint_g N with F := f1 }, { granaryref01_Writer_Uint_v1_g N with F := f2 }]), (28, [{ xdr_Writer_Int_v2_g N with F := f3 }]), (29, [{ xdr_Writer_Hyper_v2_g N with F := f4 }]), (49, [{ granaryref01_Writer_Hyper_g N with F := f5 }]), (15, [{ xdr_Writer_Bool_v1_g N with F := f6 }]), (50, [{ granaryref01_Writer_Bool_g N with F := f7 }, { granaryref01_Writer_Bool_v1_g N with F := f8 }]), (30, [{ xdr_Writer_Fixed_v3_g N with F := f9 }]), (51, [{ granaryref01_Writer_Fixed_g N with F := f10 }]), (44, [{ xdr_Writer_Opaque_v4_g N with F := f11 }]), (52, [{ granaryref01_Writer_Opaque_g N with F := f12 }, { granaryref01_Writer_Opaque_v1_g N with F := f13 }]), (18, [{ xdr_Writer_Text_v2_g N with F := f14 }]), (31, [{ xdr_PutList_uint32_v2_g N with F := f15 }]), (21, [{ xdr_PutList_string_v1_g N with F := f16 }]), (23, [{ xdr_PutChain_string_v3_g N with F := f17 }]), (33, [{ xdr_PutOption_uint32_v2_g N with F := f18 }, { xdr_PutOption_uint32_v3_g N with F := f19 }])]
theorem granarylaw01_writes_CE (N : Nat) : granarylaw01_writes_CA N (xdr_Writer_Uint N) (granaryref01_Writer_Uint) (granaryref01_Writer_Uint_v1) (xdr_Writer_Int_v2 N) (xdr_Writer_Hyper_v2 N) (granaryref01_Writer_Hyper) (xdr_Writer_Bool_v1 N) (granaryref01_Writer_Bool) (granaryref01_Writer_Bool_v1) (xdr_Writer_Fixed_v3 N) (granaryref01_Writer_Fixed N) (xdr_Writer_Opaque_v4 N) (granaryref01_Writer_Opaque N) (granaryref01_Writer_Opaque_v1 N) (xdr_Writer_Text_v2 N) (xdr_PutList_uint32_v2 N) (xdr_PutList_string_v1 N) (xdr_PutChain_string_v3 N) (xdr_PutOption_uint32_v2 N) (xdr_PutOption_uint32_v3 N) = granarylaw01_writes_C N := by kernel_rfl
theorem granarylaw01_writes_t (N : Nat) : TabC Try.prog (granarylaw01_writes_C N) := tab_ok ⟨⟨xdr_Writer_Uint_ok N, trivial⟩, ⟨granaryref01_Writer_Uint_ok N, granaryref01_Writer_Uint_v1_ok N, trivial⟩, ⟨xdr_Writer_Int_v2_ok N, trivial⟩, ⟨xdr_Writer_Hyper_v2_ok N, trivial⟩, ⟨granaryref01_Writer_Hyper_ok N, trivial⟩, ⟨xdr_Writer_Bool_v1_ok N, trivial⟩, ⟨granaryref01_Writer_Bool_ok N, granaryref01_Writer_Bool_v1_ok N, trivial⟩, ⟨xdr_Writer_Fixed_v3_ok N, trivial⟩, ⟨granaryref01_Writer_Fixed_ok N, trivial⟩, ⟨xdr_Writer_Opaque_v4_ok N, trivial⟩, ⟨granaryref01_Writer_Opaque_ok N, granaryref01_Writer_Opaque_v1_ok N, trivial⟩, ⟨xdr_Writer_Text_v2_ok N, trivial⟩, ⟨xdr_PutList_uint32_v2_ok N, trivial⟩, ⟨xdr_PutList_string_v1_ok N, trivial⟩, ⟨xdr_PutChain_string_v3_ok N, trivial⟩, ⟨xdr_PutOption_uint32_v2_ok N, xdr_PutOption_uint32_v3_ok N, trivial⟩, trivial⟩
theorem granarylaw01_writes_i1 : loopsOf granarylaw01_writes_c1 = [] := by kernel_rfl
noncomputable def granarylaw01_writes_a1 (N : Nat) (f0 : Int × Int → Option (Int × (List Int))) (f1 : Int × Int → Option (Int × (List Int))) (f2 : Int × Int × (List Int) → Option (Int × (List Int))) (f3 : Int × Int → Option (Int × (List Int))) (f4 : Int × Int → Option (Int × (List Int))) (f5 : Int × Int → Option (Int × (List Int))) (f6 : Bool × Int → Option (Int × (List Int))) (f7 : Bool × Int → Option (Int × (List Int))) (f8 : Bool × Int × (List Int) → Option (Int × (List Int))) (f9 : (List Int) × Int → Option (Int × (List Int))) (f10 : (List Int) × Int → Option (Int × (List Int))) (f11 : (List Int) × Int × Int → Option (Int × (List Int))) (f12 : (List Int) × Int × Int → Option (Int × (List Int))) (f13 : (List Int) × Int × Int × (List Int) → Option (Int × (List Int))) (f14 : (List UInt8) × Int × Int → Option (Int × (List Int))) (f15 : (List Int) × Int × Int → Option (Int × (List Int))) (f16 : (List (List UInt8)) × Int × Int → Option (Int × (List Int))) (f17 : (List (List UInt8)) × Int → Option (Int × (List Int))) (f18 : Int → Option (Int × (List Int))) (f19 : Int × Int → Option (Int × Int × (List Int))) (next : Int × Int × Int × Int × (List Int) × Int × (List Int) × (List Int) → Option ((Int × Int × Int × (List Int) × Int × (List Int) × (List Int)))) (x : Int × Int × Int × Int × (List Int) × Int × (List Int) × (List Int)) : Option ((Int × Int × Int × (List Int) × Int × (List Int) × (List Int))) :=
  (cond (decide (x.1 < (((List.length x.2.2.2.2.2.2.1) : Nat) : Int)))
  (cond ((decide ((0 : Int) ≤ x.1)) && (decide (x.1 < (((List.length x.2.2.2.2.2.2.1) : Nat) : Int))))
  ((Option.bind (f2 ((List.getD x.2.2.2.2.2.2.1 (Int.toNat x.1) (EK.dflt (.int .u32))), x.2.1, x.2.2.2.2.2.2.2)) fun r4 =>
  (next ((wrapF .i64 (x.1 + (1 : Int))), r4.1, x.2.2.1, x.2.2.2.1, x.2.2.2.2.1, x.2.2.2.2.2.1, x.2.2.2.2.2.2.1, r4.2))))
  none)
  (some (x.2.1, x.2.2.1, x.2.2.2.1, x.2.2.2.2.1, x.2.2.2.2.2.1, x.2.2.2.2.2.2.1, x.2.2.2.2.2.2.2)))
theorem granarylaw01_writes_f1 (N : Nat) (f0 : Int × Int → Option (Int × (List Int))) (f1 : Int × Int → Option (Int × (List Int))) (f2 : Int × Int × (List Int) → Option (Int × (List Int))) (f3 : Int × Int → Option (Int × (List Int))) (f4 : Int × Int → Option (Int × (List Int))) (f5 : Int × Int → Option (Int × (List Int))) (f6 : Bool × Int → Option (Int × (List Int))) (f7 : Bool × Int → Option (Int × (List Int))) (f8 : Bool × Int × (List Int) → Option (Int × (List Int))) (f9 : (List Int) × Int → Option (Int × (List Int))) (f10 : (List Int) × Int → Option (Int × (List Int))) (f11 : (List Int) × Int × Int → Option (Int × (List Int))) (f12 : (List Int) × Int × Int → Option (Int × (List Int))) (f13 : (List Int) × Int × Int × (List Int) → Option (Int × (List Int))) (f14 : (List UInt8) × Int × Int → Option (Int × (List Int))) (f15 : (List Int) × Int × Int → Option (Int × (List Int))) (f16 : (List (List UInt8)) × Int × Int → Option (Int × (List Int))) (f17 : (List (List UInt8)) × Int → Option (Int × (List Int))) (f18 : Int → Option (Int × (List Int))) (f19 : Int × Int → Option (Int × Int × (List Int))) (next) (x) : granarylaw01_writes_a1 N f0 f1 f2 f3 f4 f5 f6 f7 f8 f9 f10 f11 f12 f13 f14 f15 f16 f17 f18 f19 next x = loopStep Γ (granarylaw01_writes_CA N f0 f1 f2 f3 f4 f5 f6 f7 f8 f9 f10 f11 f12 f13 f14 f15 f16 f17 f18 f19) (granarylaw01_writes_J N) 0 232 granarylaw01_writes_d1 granarylaw01_writes_c1 next x := by kernel_rfl
theorem granarylaw01_writes_e1 (N : Nat) (next) (x) : granarylaw01_writes_b1 N next x = loopStep Γ (granarylaw01_writes_C N) (granarylaw01_writes_J N) 0 232 granarylaw01_writes_d1 granarylaw01_writes_c1 next x := by
  rw [← granarylaw01_writes_CE N]
  exact Eq.trans (by kernel_rfl) (granarylaw01_writes_f1 N (xdr_Writer_Uint N) (granaryref01_Writer_Uint) (granaryref01_Writer_Uint_v1) (xdr_Writer_Int_v2 N) (xdr_Writer_Hyper_v2 N) (granaryref01_Writer_Hyper) (xdr_Writer_Bool_v1 N) (granaryref01_Writer_Bool) (granaryref01_Writer_Bool_v1) (xdr_Writer_Fixed_v3 N) (granaryref01_Writer_Fixed N) (xdr_Writer_Opaque_v4 N) (granaryref01_Writer_Opaque N) (granaryref01_Writer_Opaque_v1 N) (xdr_Writer_Text_v2 N) (xdr_PutList_uint32_v2 N) (xdr_PutList_string_v1 N) (xdr_PutChain_string_v3 N) (xdr_PutOption_uint32_v2 N) (xdr_PutOption_uint32_v3 N) next x)
theorem granarylaw01_writes_k1 (N : Nat) : LoopOK Try.prog 232 granarylaw01_writes_c1 ⟨granarylaw01_writes_d1, loopF (granarylaw01_writes_b1 N) N⟩ := loop_ok tabOK (granarylaw01_writes_t N) mixedOK (J := granarylaw01_writes_J N) (cx := 0) (body := granarylaw01_writes_c1) (nt := 232) (l := granarylaw01_writes_d1) (b := granarylaw01_writes_b1 N) (jok_from granarylaw01_writes_i1 ⟨trivial, trivial⟩) (granarylaw01_writes_e1 N) N
theorem granarylaw01_writes_i3 : loopsOf granarylaw01_writes_c3 = [] := by kernel_rfl
noncomputable def granarylaw01_writes_a3 (N : Nat) (f0 : Int × Int → Option (Int × (List Int))) (f1 : Int × Int → Option (Int × (List Int))) (f2 : Int × Int × (List Int) → Option (Int × (List Int))) (f3 : Int × Int → Option (Int × (List Int))) (f4 : Int × Int → Option (Int × (List Int))) (f5 : Int × Int → Option (Int × (List Int))) (f6 : Bool × Int → Option (Int × (List Int))) (f7 : Bool × Int → Option (Int × (List Int))) (f8 : Bool × Int × (List Int) → Option (Int × (List Int))) (f9 : (List Int) × Int → Option (Int × (List Int))) (f10 : (List Int) × Int → Option (Int × (List Int))) (f11 : (List Int) × Int × Int → Option (Int × (List Int))) (f12 : (List Int) × Int × Int → Option (Int × (List Int))) (f13 : (List Int) × Int × Int × (List Int) → Option (Int × (List Int))) (f14 : (List UInt8) × Int × Int → Option (Int × (List Int))) (f15 : (List Int) × Int × Int → Option (Int × (List Int))) (f16 : (List (List UInt8)) × Int × Int → Option (Int × (List Int))) (f17 : (List (List UInt8)) × Int → Option (Int × (List Int))) (f18 : Int → Option (Int × (List Int))) (f19 : Int × Int → Option (Int × Int × (List Int))) (next : Int × Int × Int × Int × (List Int) × Int × (List Int) × (List (List UInt8)) × (List Int) → Option ((Int × Int × Int × (List Int) × Int × (List Int) × (List (List UInt8)) × (List Int)))) (x : Int × Int × Int × Int × (List Int) × Int × (List Int) × (List (List UInt8)) × (List Int)) : Option ((Int × Int × Int × (List Int) × Int × (List Int) × (List (List UInt8)) × (List Int))) :=
  (cond (decide (x.1 < (((List.length x.2.2.2.2.2.2.2.1) : Nat) : Int)))
  (cond ((decide ((0 : Int) ≤ x.1)) && (decide (x.1 < (((List.length x.2.2.2.2.2.2.2.1) : Nat) : Int))))
  ((Option.bind (f13 ((List.map (fun b => (b.toNat : Int)) (List.getD x.2.2.2.2.2.2.2.1 (Int.toNat x.1) (EK.dflt .str))), (7 : Int), x.2.1, x.2.2.2.2.2.2.2.2)) fun r5 =>
  (next ((wrapF .i64 (x.1 + (1 : Int))), r5.1, x.2.2.1, x.2.2.2.1, x.2.2.2.2.1, x.2.2.2.2.2.1, x.2.2.2.2.2.2.1, x.2.2.2.2.2.2.2.1, r5.2))))
  none)
  (some (x.2.1, x.2.2.1, x.2.2.2.1, x.2.2.2.2.1, x.2.2.2.2.2.1, x.2.2.2.2.2.2.1, x.2.2.2.2.2.2.2.1, x.2.2.2.2.2.2.2.2)))
theorem granarylaw01_writes_f3 (N : Nat) (f0 : Int × Int → Option (Int × (List Int))) (f1 : Int × Int → Option (Int × (List Int))) (f2 : Int × Int × (List Int) → Option (Int × (List Int))) (f3 : Int × Int → Option (Int × (List Int))) (f4 : Int × Int → Option (Int × (List Int))) (f5 : Int × Int → Option (Int × (List Int))) (f6 : Bool × Int → Option (Int × (List Int))) (f7 : Bool × Int → Option (Int × (List Int))) (f8 : Bool × Int × (List Int) → Option (Int × (List Int))) (f9 : (List Int) × Int → Option (Int × (List Int))) (f10 : (List Int) × Int → Option (Int × (List Int))) (f11 : (List Int) × Int × Int → Option (Int × (List Int))) (f12 : (List Int) × Int × Int → Option (Int × (List Int))) (f13 : (List Int) × Int × Int × (List Int) → Option (Int × (List Int))) (f14 : (List UInt8) × Int × Int → Option (Int × (List Int))) (f15 : (List Int) × Int × Int → Option (Int × (List Int))) (f16 : (List (List UInt8)) × Int × Int → Option (Int × (List Int))) (f17 : (List (List UInt8)) × Int → Option (Int × (List Int))) (f18 : Int → Option (Int × (List Int))) (f19 : Int × Int → Option (Int × Int × (List Int))) (next) (x) : granarylaw01_writes_a3 N f0 f1 f2 f3 f4 f5 f6 f7 f8 f9 f10 f11 f12 f13 f14 f15 f16 f17 f18 f19 next x = loopStep Γ (granarylaw01_writes_CA N f0 f1 f2 f3 f4 f5 f6 f7 f8 f9 f10 f11 f12 f13 f14 f15 f16 f17 f18 f19) (granarylaw01_writes_J N) 0 232 granarylaw01_writes_d3 granarylaw01_writes_c3 next x := by kernel_rfl
theorem granarylaw01_writes_e3 (N : Nat) (next) (x) : granarylaw01_writes_b3 N next x = loopStep Γ (granarylaw01_writes_C N) (granarylaw01_writes_J N) 0 232 granarylaw01_writes_d3 granarylaw01_writes_c3 next x := by
  rw [← granarylaw01_writes_CE N]
  exact Eq.trans (by kernel_rfl) (granarylaw01_writes_f3 N (xdr_Writer_Uint N) (granaryref01_Writer_Uint) (granaryref01_Writer_Uint_v1) (xdr_Writer_Int_v2 N) (xdr_Writer_Hyper_v2 N) (granaryref01_Writer_Hyper) (xdr_Writer_Bool_v1 N) (granaryref01_Writer_Bool) (granaryref01_Writer_Bool_v1) (xdr_Writer_Fixed_v3 N) (granaryref01_Writer_Fixed N) (xdr_Writer_Opaque_v4 N) (granaryref01_Writer_Opaque N) (granaryref01_Writer_Opaque_v1 N) (xdr_Writer_Text_v2 N) (xdr_PutList_uint32_v2 N) (xdr_PutList_string_v1 N) (xdr_PutChain_string_v3 N) (xdr_PutOption_uint32_v2 N) (xdr_PutOption_uint32_v3 N) next x)
theorem granarylaw01_writes_k3 (N : Nat) : LoopOK Try.prog 232 granarylaw01_writes_c3 ⟨granarylaw01_writes_d3, loopF (granarylaw01_writes_b3 N) N⟩ := loop_ok tabOK (granarylaw01_writes_t N) mixedOK (J := granarylaw01_writes_J N) (cx := 0) (body := granarylaw01_writes_c3) (nt := 232) (l := granarylaw01_writes_d3) (b := granarylaw01_writes_b3 N) (jok_from granarylaw01_writes_i3 ⟨trivial, trivial⟩) (granarylaw01_writes_e3 N) N
theorem granarylaw01_writes_i5 : loopsOf granarylaw01_writes_c5 = [] := by kernel_rfl
noncomputable def granarylaw01_writes_a5 (N : Nat) (f0 : Int × Int → Option (Int × (List Int))) (f1 : Int × Int → Option (Int × (List Int))) (f2 : Int × Int × (List Int) → Option (Int × (List Int))) (f3 : Int × Int → Option (Int × (List Int))) (f4 : Int × Int → Option (Int × (List Int))) (f5 : Int × Int → Option (Int × (List Int))) (f6 : Bool × Int → Option (Int × (List Int))) (f7 : Bool × Int → Option (Int × (List Int))) (f8 : Bool × Int × (List Int) → Option (Int × (List Int))) (f9 : (List Int) × Int → Option (Int × (List Int))) (f10 : (List Int) × Int → Option (Int × (List Int))) (f11 : (List Int) × Int × Int → Option (Int × (List Int))) (f12 : (List Int) × Int × Int → Option (Int × (List Int))) (f13 : (List Int) × Int × Int × (List Int) → Option (Int × (List Int))) (f14 : (List UInt8) × Int × Int → Option (Int × (List Int))) (f15 : (List Int) × Int × Int → Option (Int × (List Int))) (f16 : (List (List UInt8)) × Int × Int → Option (Int × (List Int))) (f17 : (List (List UInt8)) × Int → Option (Int × (List Int))) (f18 : Int → Option (Int × (List Int))) (f19 : Int × Int → Option (Int × Int × (List Int))) (next : Int × Int × Int × Int × (List Int) × Int × (List Int) × (List (List UInt8)) × (List Int) → Option ((Int × Int × Int × (List Int) × Int × (List Int) × (List (List UInt8)) × (List Int)))) (x : Int × Int × Int × Int × (List Int) × Int × (List Int) × (List (List UInt8)) × (List Int)) : Option ((Int × Int × Int × (List Int) × Int × (List Int) × (List (List UInt8)) × (List Int))) :=
  (cond (decide (x.1 < (((List.length x.2.2.2.2.2.2.2.1) : Nat) : Int)))
  (Option.bind (f8 (true, x.2.1, x.2.2.2.2.2.2.2.2)) fun r3 =>
  (cond ((decide ((0 : Int) ≤ x.1)) && (decide (x.1 < (((List.length x.2.2.2.2.2.2.2.1) : Nat) : Int))))
  ((Option.bind (f13 ((List.map (fun b => (b.toNat : Int)) (List.getD x.2.2.2.2.2.2.2.1 (Int.toNat x.1) (EK.dflt .str))), (7 : Int), r3.1, r3.2)) fun r6 =>
  (next ((wrapF .i64 (x.1 + (1 : Int))), r6.1, x.2.2.1, x.2.2.2.1, x.2.2.2.2.1, x.2.2.2.2.2.1, x.2.2.2.2.2.2.1, x.2.2.2.2.2.2.2.1, r6.2))))
  none))
  (some (x.2.1, x.2.2.1, x.2.2.2.1, x.2.2.2.2.1, x.2.2.2.2.2.1, x.2.2.2.2.2.2.1, x.2.2.2.2.2.2.2.1, x.2.2.2.2.2.2.2.2)))
theorem granarylaw01_writes_f5 (N : Nat) (f0 : Int × Int → Option (Int × (List Int))) (f1 : Int × Int → Option (Int × (List Int))) (f2 : Int × Int × (List Int) → Option (Int × (List Int))) (f3 : Int × Int → Option (Int × (List Int))) (f4 : Int × Int → Option (Int × (List Int))) (f5 : Int × Int → Option (Int × (List Int))) (f6 : Bool × Int → Option (Int × (List Int))) (f7 : Bool × Int → Option (Int × (List Int))) (f8 : Bool × Int × (List Int) → Option (Int × (List Int))) (f9 : (List Int) × Int → Option (Int × (List Int))) (f10 : (List Int) × Int → Option (Int × (List Int))) (f11 : (List Int) × Int × Int → Option (Int × (List Int))) (f12 : (List Int) × Int × Int → Option (Int × (List Int))) (f13 : (List Int) × Int × Int × (List Int) → Option (Int × (List Int))) (f14 : (List UInt8) × Int × Int → Option (Int × (List Int))) (f15 : (List Int) × Int × Int → Option (Int × (List Int))) (f16 : (List (List UInt8)) × Int × Int → Option (Int × (List Int))) (f17 : (List (List UInt8)) × Int → Option (Int × (List Int))) (f18 : Int → Option (Int × (List Int))) (f19 : Int × Int → Option (Int × Int × (List Int))) (next) (x) : granarylaw01_writes_a5 N f0 f1 f2 f3 f4 f5 f6 f7 f8 f9 f10 f11 f12 f13 f14 f15 f16 f17 f18 f19 next x = loopStep Γ (granarylaw01_writes_CA N f0 f1 f2 f3 f4 f5 f6 f7 f8 f9 f10 f11 f12 f13 f14 f15 f16 f17 f18 f19) (granarylaw01_writes_J N) 0 232 granarylaw01_writes_d5 granarylaw01_writes_c5 next x := by kernel_rfl
theorem granarylaw01_writes_e5 (N : Nat) (next) (x) : granarylaw01_writes_b5 N next x = loopStep Γ (granarylaw01_writes_C N) (granarylaw01_writes_J N) 0 232 granarylaw01_writes_d5 granarylaw01_writes_c5 next x := by
  rw [← granarylaw01_writes_CE N]
  exact Eq.trans (by kernel_rfl) (granarylaw01_writes_f5 N (xdr_Writer_Uint N) (granaryref01_Writer_Uint) (granaryref01_Writer_Uint_v1) (xdr_Writer_Int_v2 N) (xdr_Writer_Hyper_v2 N) (granaryref01_Writer_Hyper) (xdr_Writer_Bool_v1 N) (granaryref01_Writer_Bool) (granaryref01_Writer_Bool_v1) (xdr_Writer_Fixed_v3 N) (granaryref01_Writer_Fixed N) (xdr_Writer_Opaque_v4 N) (granaryref01_Writer_Opaque N) (granaryref01_Writer_Opaque_v1 N) (xdr_Writer_Text_v2 N) (xdr_PutList_uint32_v2 N) (xdr_PutList_string_v1 N) (xdr_PutChain_string_v3 N) (xdr_PutOption_uint32_v2 N) (xdr_PutOption_uint32_v3 N) next x)
theorem granarylaw01_writes_k5 (N : Nat) : LoopOK Try.prog 232 granarylaw01_writes_c5 ⟨granarylaw01_writes_d5, loopF (granarylaw01_writes_b5 N) N⟩ := loop_ok tabOK (granarylaw01_writes_t N) mixedOK (J := granarylaw01_writes_J N) (cx := 0) (body := granarylaw01_writes_c5) (nt := 232) (l := granarylaw01_writes_d5) (b := granarylaw01_writes_b5 N) (jok_from granarylaw01_writes_i5 ⟨trivial, trivial⟩) (granarylaw01_writes_e5 N) N
theorem granarylaw01_writes_i : loopsOf granarylaw01_writes_c = [(1, granarylaw01_writes_c1), (3, granarylaw01_writes_c3), (5, granarylaw01_writes_c5)] := by kernel_rfl
noncomputable def granarylaw01_writes_a (N : Nat) (f0 : Int × Int → Option (Int × (List Int))) (f1 : Int × Int → Option (Int × (List Int))) (f2 : Int × Int × (List Int) → Option (Int × (List Int))) (f3 : Int × Int → Option (Int × (List Int))) (f4 : Int × Int → Option (Int × (List Int))) (f5 : Int × Int → Option (Int × (List Int))) (f6 : Bool × Int → Option (Int × (List Int))) (f7 : Bool × Int → Option (Int × (List Int))) (f8 : Bool × Int × (List Int) → Option (Int × (List Int))) (f9 : (List Int) × Int → Option (Int × (List Int))) (f10 : (List Int) × Int → Option (Int × (List Int))) (f11 : (List Int) × Int × Int → Option (Int × (List Int))) (f12 : (List Int) × Int × Int → Option (Int × (List Int))) (f13 : (List Int) × Int × Int × (List Int) → Option (Int × (List Int))) (f14 : (List UInt8) × Int × Int → Option (Int × (List Int))) (f15 : (List Int) × Int × Int → Option (Int × (List Int))) (f16 : (List (List UInt8)) × Int × Int → Option (Int × (List Int))) (f17 : (List (List UInt8)) × Int → Option (Int × (List Int))) (f18 : Int → Option (Int × (List Int))) (f19 : Int × Int → Option (Int × Int × (List Int))) (x : Int × Int × (List Int) × Int × (List Int) × (List (List UInt8)) × Int × Int) : Option (Int × Int × (List Int) × (List Int)) :=
  (Option.bind
  ((cond (decide (x.1 = (0 : Int)))
  (Option.bind (f0 ((wrapF .u32 x.2.1), x.2.2.2.2.2.2.1)) fun r3 =>
  (Option.bind (f1 ((wrapF .u32 x.2.1), x.2.2.2.2.2.2.2)) fun r5 =>
  (some (.inl (r3.1, r5.1, x.1, x.2.1, x.2.2.1, x.2.2.2.1, x.2.2.2.2.1, x.2.2.2.2.2.1, r3.2, r5.2)))))
  (cond (decide (x.1 = (7 : Int)))
  (Option.bind (f0 ((wrapF .u32 x.2.1), x.2.2.2.2.2.2.1)) fun r8 =>
  (Option.bind (f1 ((wrapF .u32 x.2.1), x.2.2.2.2.2.2.2)) fun r10 =>
  (some (.inl (r8.1, r10.1, x.1, x.2.1, x.2.2.1, x.2.2.2.1, x.2.2.2.2.1, x.2.2.2.2.2.1, r8.2, r10.2)))))
  (Option.bind
  ((cond (decide (x.1 = (1 : Int)))
  (Option.bind (f3 ((wrapF .i32 x.2.1), x.2.2.2.2.2.2.1)) fun r13 =>
  (Option.bind (f1 ((wrapF .u32 (wrapF .i32 x.2.1)), x.2.2.2.2.2.2.2)) fun r16 =>
  (some (.inl (r13.1, r16.1, x.1, x.2.1, x.2.2.1, x.2.2.2.1, x.2.2.2.2.1, x.2.2.2.2.2.1, r13.2, r16.2)))))
  (Option.bind
  ((cond (decide (x.1 = (2 : Int)))
  (Option.bind (f4 (x.2.1, x.2.2.2.2.2.2.1)) fun r18 =>
  (Option.bind (f5 (x.2.1, x.2.2.2.2.2.2.2)) fun r19 =>
  (some (.inl (r18.1, r19.1, x.1, x.2.1, x.2.2.1, x.2.2.2.1, x.2.2.2.2.1, x.2.2.2.2.2.1, r18.2, r19.2)))))
  (Option.bind
  ((cond (decide (x.1 = (3 : Int)))
  (Option.bind (f6 ((decide (x.2.1 = (1 : Int))), x.2.2.2.2.2.2.1)) fun r22 =>
  (Option.bind (f7 ((decide (x.2.1 = (1 : Int))), x.2.2.2.2.2.2.2)) fun r24 =>
  (some (.inl (r22.1, r24.1, x.1, x.2.1, x.2.2.1, x.2.2.2.1, x.2.2.2.2.1, x.2.2.2.2.2.1, r22.2, r24.2)))))
  (Option.bind
  ((cond (decide (x.1 = (4 : Int)))
  (Option.bind (f9 (x.2.2.1, x.2.2.2.2.2.2.1)) fun r26 =>
  (Option.bind (f10 (x.2.2.1, x.2.2.2.2.2.2.2)) fun r27 =>
  (some (.inl (r26.1, r27.1, x.1, x.2.1, x.2.2.1, x.2.2.2.1, x.2.2.2.2.1, x.2.2.2.2.2.1, r26.2, r27.2)))))
  (Option.bind
  ((cond (decide (x.1 = (5 : Int)))
  (Option.bind (f11 (x.2.2.1, x.2.2.2.1, x.2.2.2.2.2.2.1)) fun r29 =>
  (Option.bind (f12 (x.2.2.1, x.2.2.2.1, x.2.2.2.2.2.2.2)) fun r30 =>
  (some (.inl (r29.1, r30.1, x.1, x.2.1, x.2.2.1, x.2.2.2.1, x.2.2.2.2.1, x.2.2.2.2.2.1, r29.2, r30.2)))))
  (Option.bind
  ((cond (decide (x.1 = (6 : Int)))
  (Option.bind (f14 ((List.map (fun (n : Int) => UInt8.ofNat n.toNat) x.2.2.1), x.2.2.2.1, x.2.2.2.2.2.2.1)) fun r33 =>
  (Option.bind (f12 (x.2.2.1, x.2.2.2.1, x.2.2.2.2.2.2.2)) fun r34 =>
  (some (.inl (r33.1, r34.1, x.1, x.2.1, x.2.2.1, x.2.2.2.1, x.2.2.2.2.1, x.2.2.2.2.2.1, r33.2, r34.2)))))
  (Option.bind
  ((cond (decide (x.1 = (8 : Int)))
  (Option.bind (f15 (x.2.2.2.2.1, x.2.2.2.1, x.2.2.2.2.2.2.1)) fun r36 =>
  (Option.bind
  (cond (decide (x.2.2.2.2.2.2.2 = (0 : Int)))
  (some (decide (x.2.2.2.1 < (((List.length x.2.2.2.2.1) : Nat) : Int))))
  (some false))
  fun r40 =>
  (Option.bind
  (cond r40
  (some (1 : Int))
  (some x.2.2.2.2.2.2.2))
  fun r41 =>
  (Option.bind (f1 ((wrapF .u32 (((List.length x.2.2.2.2.1) : Nat) : Int)), r41)) fun r44 =>
  (Option.bind (granarylaw01_writes_l1 N ((0 : Int), r44.1, x.1, x.2.1, x.2.2.1, x.2.2.2.1, x.2.2.2.2.1, r44.2)) fun r45 =>
  (some (.inl (r36.1, r45.1, r45.2.1, r45.2.2.1, r45.2.2.2.1, r45.2.2.2.2.1, r45.2.2.2.2.2.1, x.2.2.2.2.2.1, r36.2, r45.2.2.2.2.2.2))))))))
  (Option.bind
  ((cond (decide (x.1 = (11 : Int)))
  (Option.bind (f16 (x.2.2.2.2.2.1, x.2.2.2.1, x.2.2.2.2.2.2.1)) fun r47 =>
  (Option.bind
  (cond (decide (x.2.2.2.2.2.2.2 = (0 : Int)))
  (some (decide (x.2.2.2.1 < (((List.length x.2.2.2.2.2.1) : Nat) : Int))))
  (some false))
  fun r51 =>
  (Option.bind
  (cond r51
  (some (1 : Int))
  (some x.2.2.2.2.2.2.2))
  fun r52 =>
  (Option.bind (f1 ((wrapF .u32 (((List.length x.2.2.2.2.2.1) : Nat) : Int)), r52)) fun r55 =>
  (Option.bind (granarylaw01_writes_l3 N ((0 : Int), r55.1, x.1, x.2.1, x.2.2.1, x.2.2.2.1, x.2.2.2.2.1, x.2.2.2.2.2.1, r55.2)) fun r56 =>
  (some (.inl (r47.1, r56.1, r56.2.1, r56.2.2.1, r56.2.2.2.1, r56.2.2.2.2.1, r56.2.2.2.2.2.1, r56.2.2.2.2.2.2.1, r47.2, r56.2.2.2.2.2.2.2))))))))
  (Option.bind
  ((cond (decide (x.1 = (9 : Int)))
  (Option.bind (f17 (x.2.2.2.2.2.1, x.2.2.2.2.2.2.1)) fun r58 =>
  (Option.bind (granarylaw01_writes_l5 N ((0 : Int), x.2.2.2.2.2.2.2, x.1, x.2.1, x.2.2.1, x.2.2.2.1, x.2.2.2.2.1, x.2.2.2.2.2.1, ([] : List Int))) fun r59 =>
  (Option.bind (f8 (false, r59.1, r59.2.2.2.2.2.2.2)) fun r60 =>
  (some (.inl (r58.1, r60.1, r59.2.1, r59.2.2.1, r59.2.2.2.1, r59.2.2.2.2.1, r59.2.2.2.2.2.1, r59.2.2.2.2.2.2.1, r58.2, r60.2))))))
  (Option.bind
  ((cond (decide (x.1 = (10 : Int)))
  (cond (decide (x.2.1 = (0 : Int)))
  (Option.bind (f18 x.2.2.2.2.2.2.1) fun r63 =>
  (Option.bind (f7 (false, x.2.2.2.2.2.2.2)) fun r64 =>
  (some (.inr ((r63.1, r64.1, r63.2, r64.2))))))
  (Option.bind (f19 (x.2.2.2.2.2.2.1, (wrapF .u32 x.2.1))) fun r66 =>
  (Option.bind (f7 (true, x.2.2.2.2.2.2.2)) fun r67 =>
  (Option.bind (f2 (r66.2.1, r67.1, r67.2)) fun r68 =>
  (some (.inl (r66.1, r68.1, r66.2.2, r68.2)))))))
  (some (.inl (x.2.2.2.2.2.2.1, x.2.2.2.2.2.2.2, ([] : List Int), ([] : List Int))))) : Option ((Int × Int × (List Int) × (List Int)) ⊕ (Int × Int × (List Int) × (List Int))))
  fun r69 =>
  (match r69 with
  | .inl y70 =>
  (some (.inl (y70.1, y70.2.1, x.1, x.2.1, x.2.2.1, x.2.2.2.1, x.2.2.2.2.1, x.2.2.2.2.2.1, y70.2.2.1, y70.2.2.2)))
  | .inr z71 =>
  (some (.inr ((z71.1, z71.2.1, x.1, x.2.1, x.2.2.1, x.2.2.2.1, x.2.2.2.2.1, x.2.2.2.2.2.1, z71.2.2.1, z71.2.2.2))))))) : Option ((Int × Int × Int × Int × (List Int) × Int × (List Int) × (List (List UInt8)) × (List Int) × (List Int)) ⊕ (Int × Int × Int × Int × (List Int) × Int × (List Int) × (List (List UInt8)) × (List Int) × (List Int))))
  fun r72 =>
  (match r72 with
  | .inl y73 =>
  (some (.inl (y73.1, y73.2.1, y73.2.2.1, y73.2.2.2.1, y73.2.2.2.2.1, y73.2.2.2.2.2.1, y73.2.2.2.2.2.2.1, y73.2.2.2.2.2.2.2.1, y73.2.2.2.2.2.2.2.2.1, y73.2.2.2.2.2.2.2.2.2)))
  | .inr z74 =>
  (some (.inr ((z74.1, z74.2.1, z74.2.2.1, z74.2.2.2.1, z74.2.2.2.2.1, z74.2.2.2.2.2.1, z74.2.2.2.2.2.2.1, z74.2.2.2.2.2.2.2.1, z74.2.2.2.2.2.2.2.2.1, z74.2.2.2.2.2.2.2.2.2))))))) : Option ((Int × Int × Int × Int × (List Int) × Int × (List Int) × (List (List UInt8)) × (List Int) × (List Int)) ⊕ (Int × Int × Int × Int × (List Int) × Int × (List Int) × (List (List UInt8)) × (List Int) × (List Int))))
  fun r75 =>
  (match r75 with
  | .inl y76 =>
  (some (.inl (y76.1, y76.2.1, y76.2.2.1, y76.2.2.2.1, y76.2.2.2.2.1, y76.2.2.2.2.2.1, y76.2.2.2.2.2.2.1, y76.2.2.2.2.2.2.2.1, y76.2.2.2.2.2.2.2.2.1, y76.2.2.2.2.2.2.2.2.2)))
  | .inr z77 =>
  (some (.inr ((z77.1, z77.2.1, z77.2.2.1, z77.2.2.2.1, z77.2.2.2.2.1, z77.2.2.2.2.2.1, z77.2.2.2.2.2.2.1, z77.2.2.2.2.2.2.2.1, z77.2.2.2.2.2.2.2.2.1, z77.2.2.2.2.2.2.2.2.2))))))) : Option ((Int × Int × Int × Int × (List Int) × Int × (List Int) × (List (List UInt8)) × (List Int) × (List Int)) ⊕ (Int × Int × Int × Int × (List Int) × Int × (List Int) × (List (List UInt8)) × (List Int) × (List Int))))
  fun r78 =>
  (match r78 with
  | .inl y79 =>
  (some (.inl (y79.1, y79.2.1, y79.2.2.1, y79.2.2.2.1, y79.2.2.2.2.1, y79.2.2.2.2.2.1, y79.2.2.2.2.2.2.1, y79.2.2.2.2.2.2.2.1, y79.2.2.2.2.2.2.2.2.1, y79.2.2.2.2.2.2.2.2.2)))
  | .inr z80 =>
  (some (.inr ((z80.1, z80.2.1, z80.2.2.1, z80.2.2.2.1, z80.2.2.2.2.1, z80.2.2.2.2.2.1, z80.2.2.2.2.2.2.1, z80.2.2.2.2.2.2.2.1, z80.2.2.2.2.2.2.2.2.1, z80.2.2.2.2.2.2.2.2.2))))))) : Option ((Int × Int × Int × Int × (List Int) × Int × (List Int) × (List (List UInt8)) × (List Int) × (List Int)) ⊕ (Int × Int × Int × Int × (List Int) × Int × (List Int) × (List (List UInt8)) × (List Int) × (List Int))))
  fun r81 =>
  (match r81 with
  | .inl y82 =>
  (some (.inl (y82.1, y82.2.1, y82.2.2.1, y82.2.2.2.1, y82.2.2.2.2.1, y82.2.2.2.2.2.1, y82.2.2.2.2.2.2.1, y82.2.2.2.2.2.2.2.1, y82.2.2.2.2.2.2.2.2.1, y82.2.2.2.2.2.2.2.2.2)))
  | .inr z83 =>
  (some (.inr ((z83.1, z83.2.1, z83.2.2.1, z83.2.2.2.1, z83.2.2.2.2.1, z83.2.2.2.2.2.1, z83.2.2.2.2.2.2.1, z83.2.2.2.2.2.2.2.1, z83.2.2.2.2.2.2.2.2.1, z83.2.2.2.2.2.2.2.2.2))))))) : Option ((Int × Int × Int × Int × (List Int) × Int × (List Int) × (List (List UInt8)) × (List Int) × (List Int)) ⊕ (Int × Int × Int × Int × (List Int) × Int × (List Int) × (List (List UInt8)) × (List Int) × (List Int))))
  fun r84 =>
  (match r84 with
  | .inl y85 =>
  (some (.inl (y85.1, y85.2.1, y85.2.2.1, y85.2.2.2.1, y85.2.2.2.2.1, y85.2.2.2.2.2.1, y85.2.2.2.2.2.2.1, y85.2.2.2.2.2.2.2.1, y85.2.2.2.2.2.2.2.2.1, y85.2.2.2.2.2.2.2.2.2)))
  | .inr z86 =>
  (some (.inr ((z86.1, z86.2.1, z86.2.2.1, z86.2.2.2.1, z86.2.2.2.2.1, z86.2.2.2.2.2.1, z86.2.2.2.2.2.2.1, z86.2.2.2.2.2.2.2.1, z86.2.2.2.2.2.2.2.2.1, z86.2.2.2.2.2.2.2.2.2))))))) : Option ((Int × Int × Int × Int × (List Int) × Int × (List Int) × (List (List UInt8)) × (List Int) × (List Int)) ⊕ (Int × Int × Int × Int × (List Int) × Int × (List Int) × (List (List UInt8)) × (List Int) × (List Int))))
  fun r87 =>
  (match r87 with
  | .inl y88 =>
  (some (.inl (y88.1, y88.2.1, y88.2.2.1, y88.2.2.2.1, y88.2.2.2.2.1, y88.2.2.2.2.2.1, y88.2.2.2.2.2.2.1, y88.2.2.2.2.2.2.2.1, y88.2.2.2.2.2.2.2.2.1, y88.2.2.2.2.2.2.2.2.2)))
  | .inr z89 =>
  (some (.inr ((z89.1, z89.2.1, z89.2.2.1, z89.2.2.2.1, z89.2.2.2.2.1, z89.2.2.2.2.2.1, z89.2.2.2.2.2.2.1, z89.2.2.2.2.2.2.2.1, z89.2.2.2.2.2.2.2.2.1, z89.2.2.2.2.2.2.2.2.2))))))) : Option ((Int × Int × Int × Int × (List Int) × Int × (List Int) × (List (List UInt8)) × (List Int) × (List Int)) ⊕ (Int × Int × Int × Int × (List Int) × Int × (List Int) × (List (List UInt8)) × (List Int) × (List Int))))
  fun r90 =>
  (match r90 with
  | .inl y91 =>
  (some (.inl (y91.1, y91.2.1, y91.2.2.1, y91.2.2.2.1, y91.2.2.2.2.1, y91.2.2.2.2.2.1, y91.2.2.2.2.2.2.1, y91.2.2.2.2.2.2.2.1, y91.2.2.2.2.2.2.2.2.1, y91.2.2.2.2.2.2.2.2.2)))
  | .inr z92 =>
  (some (.inr ((z92.1, z92.2.1, z92.2.2.1, z92.2.2.2.1, z92.2.2.2.2.1, z92.2.2.2.2.2.1, z92.2.2.2.2.2.2.1, z92.2.2.2.2.2.2.2.1, z92.2.2.2.2.2.2.2.2.1, z92.2.2.2.2.2.2.2.2.2))))))) : Option ((Int × Int × Int × Int × (List Int) × Int × (List Int) × (List (List UInt8)) × (List Int) × (List Int)) ⊕ (Int × Int × Int × Int × (List Int) × Int × (List Int) × (List (List UInt8)) × (List Int) × (List Int))))
  fun r93 =>
  (match r93 with
  | .inl y94 =>
  (some (.inl (y94.1, y94.2.1, y94.2.2.1, y94.2.2.2.1, y94.2.2.2.2.1, y94.2.2.2.2.2.1, y94.2.2.2.2.2.2.1, y94.2.2.2.2.2.2.2.1, y94.2.2.2.2.2.2.2.2.1, y94.2.2.2.2.2.2.2.2.2)))
  | .inr z95 =>
  (some (.inr ((z95.1, z95.2.1, z95.2.2.1, z95.2.2.2.1, z95.2.2.2.2.1, z95.2.2.2.2.2.1, z95.2.2.2.2.2.2.1, z95.2.2.2.2.2.2.2.1, z95.2.2.2.2.2.2.2.2.1, z95.2.2.2.2.2.2.2.2.2))))))) : Option ((Int × Int × Int × Int × (List Int) × Int × (List Int) × (List (List UInt8)) × (List Int) × (List Int)) ⊕ (Int × Int × Int × Int × (List Int) × Int × (List Int) × (List (List UInt8)) × (List Int) × (List Int))))
  fun r96 =>
  (match r96 with
  | .inl y97 =>
  (some (.inl (y97.1, y97.2.1, y97.2.2.1, y97.2.2.2.1, y97.2.2.2.2.1, y97.2.2.2.2.2.1, y97.2.2.2.2.2.2.1, y97.2.2.2.2.2.2.2.1, y97.2.2.2.2.2.2.2.2.1, y97.2.2.2.2.2.2.2.2.2)))
  | .inr z98 =>
  (some (.inr ((z98.1, z98.2.1, z98.2.2.1, z98.2.2.2.1, z98.2.2.2.2.1, z98.2.2.2.2.2.1, z98.2.2.2.2.2.2.1, z98.2.2.2.2.2.2.2.1, z98.2.2.2.2.2.2.2.2.1, z98.2.2.2.2.2.2.2.2.2)))))))) : Option ((Int × Int × Int × Int × (List Int) × Int × (List Int) × (List (List UInt8)) × (List Int) × (List Int)) ⊕ (Int × Int × Int × Int × (List Int) × Int × (List Int) × (List (List UInt8)) × (List Int) × (List Int))))
  fun r99 =>
  (match r99 with
  | .inl y100 =>
  (some (y100.1, y100.2.1, y100.2.2.2.2.2.2.2.2.1, y100.2.2.2.2.2.2.2.2.2))
  | .inr z101 =>
  (some (z101.1, z101.2.1, z101.2.2.2.2.2.2.2.2.1, z101.2.2.2.2.2.2.2.2.2))))
theorem granarylaw01_writes_f (N : Nat) (f0 : Int × Int → Option (Int × (List Int))) (f1 : Int × Int → Option (Int × (List Int))) (f2 : Int × Int × (List Int) → Option (Int × (List Int))) (f3 : Int × Int → Option (Int × (List Int))) (f4 : Int × Int → Option (Int × (List Int))) (f5 : Int × Int → Option (Int × (List Int))) (f6 : Bool × Int → Option (Int × (List Int))) (f7 : Bool × Int → Option (Int × (List Int))) (f8 : Bool × Int × (List Int) → Option (Int × (List Int))) (f9 : (List Int) × Int → Option (Int × (List Int))) (f10 : (List Int) × Int → Option (Int × (List Int))) (f11 : (List Int) × Int × Int → Option (Int × (List Int))) (f12 : (List Int) × Int × Int → Option (Int × (List Int))) (f13 : (List Int) × Int × Int × (List Int) → Option (Int × (List Int))) (f14 : (List UInt8) × Int × Int → Option (Int × (List Int))) (f15 : (List Int) × Int × Int → Option (Int × (List Int))) (f16 : (List (List UInt8)) × Int × Int → Option (Int × (List Int))) (f17 : (List (List UInt8)) × Int → Option (Int × (List Int))) (f18 : Int → Option (Int × (List Int))) (f19 : Int × Int → Option (Int × Int × (List Int))) (x) : granarylaw01_writes_a N f0 f1 f2 f3 f4 f5 f6 f7 f8 f9 f10 f11 f12 f13 f14 f15 f16 f17 f18 f19 x = fnStep Γ (granarylaw01_writes_CA N f0 f1 f2 f3 f4 f5 f6 f7 f8 f9 f10 f11 f12 f13 f14 f15 f16 f17 f18 f19) (granarylaw01_writes_J N) 232 Try.f10.results.toList (granarylaw01_writes_g N) granarylaw01_writes_o granarylaw01_writes_c x := by kernel_rfl
theorem granarylaw01_writes_e (N : Nat) (x) : (granarylaw01_writes_g N).F x = fnStep Γ (granarylaw01_writes_C N) (granarylaw01_writes_J N) 232 Try.f10.results.toList (granarylaw01_writes_g N) granarylaw01_writes_o granarylaw01_writes_c x := by
  rw [← granarylaw01_writes_CE N]
  exact Eq.trans (by kernel_rfl) (granarylaw01_writes_f N (xdr_Writer_Uint N) (granaryref01_Writer_Uint) (granaryref01_Writer_Uint_v1) (xdr_Writer_Int_v2 N) (xdr_Writer_Hyper_v2 N) (granaryref01_Writer_Hyper) (xdr_Writer_Bool_v1 N) (granaryref01_Writer_Bool) (granaryref01_Writer_Bool_v1) (xdr_Writer_Fixed_v3 N) (granaryref01_Writer_Fixed N) (xdr_Writer_Opaque_v4 N) (granaryref01_Writer_Opaque N) (granaryref01_Writer_Opaque_v1 N) (xdr_Writer_Text_v2 N) (xdr_PutList_uint32_v2 N) (xdr_PutList_string_v1 N) (xdr_PutChain_string_v3 N) (xdr_PutOption_uint32_v2 N) (xdr_PutOption_uint32_v3 N) x)
theorem granarylaw01_writes_y : Try.f10.body = some granarylaw01_writes_c := by kernel_rfl
theorem granarylaw01_writes_n : (Try.f10.name == "runtime.NumGoroutine") = false := by kernel_rfl
theorem granarylaw01_writes_ok (N : Nat) : FnDoes Try.prog 10 (granarylaw01_writes_g N) := fn_ok tabOK (granarylaw01_writes_t N) mixedOK (J := granarylaw01_writes_J N) (body := granarylaw01_writes_c) Try.func10 granarylaw01_writes_y granarylaw01_writes_n Try.ntmps10 (jok_from granarylaw01_writes_i ⟨⟨.inr ⟨_, rfl, granarylaw01_writes_k1 N⟩, .inr ⟨_, rfl, granarylaw01_writes_k3 N⟩, .inr ⟨_, rfl, granarylaw01_writes_k5 N⟩, trivial⟩, trivial⟩) rfl rfl (le_of_ble rfl) (granarylaw01_writes_e N)
end Go.Rf.W
