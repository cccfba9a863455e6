/-
  The printed functions are what the program does.
-/
import Derived.Test.YtabkbpilajgcnaaXdrF0
import Derived.Test.YtabkbpilajgcnaaXdrT
import Derived.Test.YtabkbpilajgcnaaRfC
set_option linter.unusedVariables false
set_option maxRecDepth 100000
namespace Go.Rf.W
open Go Go.Rf Go.Proofs
noncomputable def xdr_NewWriter_c : Code := codeOf Try.f9.body
noncomputable def xdr_NewWriter_J (N : Nat) : Nat → Hint := fun cx => hintOf cx []
noncomputable def xdr_NewWriter_C (N : Nat) : Nat → List GS := fun k => tabOf k []
def xdr_NewWriter_o : List (Shp × List Nat) := [(⟨[(0, (.av (.one (.const (.ptr ⟨0, 0, 0, 0⟩)))))], [(.sh (.one (.const .nils)), true), (.sh (.one (.const (.int .i64 (0 : Int)))), false)]⟩, [])]
noncomputable def xdr_NewWriter_g (N : Nat) : GS := { ins := ⟨[], []⟩, lend := [], outs := xdr_NewWriter_o.map fun s => ssOf s.1, its := [], ots := [[]], F := xdr_NewWriter }
theorem xdr_NewWriter_t (N : Nat) : TabC Try.prog (xdr_NewWriter_C N) := tab_ok trivial
theorem xdr_NewWriter_i : loopsOf xdr_NewWriter_c = [] := by kernel_rfl
theorem xdr_NewWriter_e (N : Nat) (x) : (xdr_NewWriter_g N).F x = fnStep Γ (xdr_NewWriter_C N) (xdr_NewWriter_J N) 3 Try.f9.results.toList (xdr_NewWriter_g N) xdr_NewWriter_o xdr_NewWriter_c x := by kernel_rfl
theorem xdr_NewWriter_y : Try.f9.body = some xdr_NewWriter_c := by kernel_rfl
theorem xdr_NewWriter_n : (Try.f9.name == "runtime.NumGoroutine") = false := by kernel_rfl
theorem xdr_NewWriter_ok (N : Nat) : FnDoes Try.prog 9 (xdr_NewWriter_g N) := fn_ok tabOK (xdr_NewWriter_t N) mixedOK (J := xdr_NewWriter_J N) (body := xdr_NewWriter_c) Try.func9 xdr_NewWriter_y xdr_NewWriter_n Try.ntmps9 (jok_from xdr_NewWriter_i trivial) rfl rfl (le_of_ble rfl) (xdr_NewWriter_e N)
noncomputable def xdr_Writer_bad_c : Code := codeOf Try.f58.body
noncomputable def xdr_Writer_bad_J (N : Nat) : Nat → Hint := fun cx => hintOf cx [(0, { reg := fun k => assoc0 k [], cnd := fun k => assoc0 k [], loop := fun k => assoc0 k [], nil := fun k => assoc0 k [], unr := fun k => assocN k [], blk := fun k => assoc0 k [] })]
noncomputable def xdr_Writer_bad_C (N : Nat) : Nat → List GS := fun k => tabOf k []
def xdr_Writer_bad_o : List (Shp × List Nat) := [(⟨[(0, (.av (.one .bool)))], [(.sh (.one (.const .nils)), true), (.sh (.one (.int .i64)), false)]⟩, [])]
noncomputable def xdr_Writer_bad_g (N : Nat) : GS := { ins := ⟨[(0, (.av (.one (.const (.ptr ⟨0, 0, 0, 0⟩)))))], [(some (.one (.const .nils)), true), (some (.one (.int .i64)), false)]⟩, lend := [.keep], outs := xdr_Writer_bad_o.map fun s => ssOf s.1, its := [.int], ots := [[.bool, .int]], F := xdr_Writer_bad }
theorem xdr_Writer_bad_t (N : Nat) : TabC Try.prog (xdr_Writer_bad_C N) := tab_ok trivial
theorem xdr_Writer_bad_i : loopsOf xdr_Writer_bad_c = [] := by kernel_rfl
theorem xdr_Writer_bad_e (N : Nat) (x) : (xdr_Writer_bad_g N).F x = fnStep Γ (xdr_Writer_bad_C N) (xdr_Writer_bad_J N) 12 Try.f58.results.toList (xdr_Writer_bad_g N) xdr_Writer_bad_o xdr_Writer_bad_c x := by kernel_rfl
theorem xdr_Writer_bad_y : Try.f58.body = some xdr_Writer_bad_c := by kernel_rfl
theorem xdr_Writer_bad_n : (Try.f58.name == "runtime.NumGoroutine") = false := by kernel_rfl
theorem xdr_Writer_bad_ok (N : Nat) : FnDoes Try.prog 58 (xdr_Writer_bad_g N) := fn_ok tabOK (xdr_Writer_bad_t N) mixedOK (J := xdr_Writer_bad_J N) (body := xdr_Writer_bad_c) Try.func58 xdr_Writer_bad_y xdr_Writer_bad_n Try.ntmps58 (jok_from xdr_Writer_bad_i ⟨trivial, trivial⟩) rfl rfl (le_of_ble rfl) (xdr_Writer_bad_e N)
noncomputable def octet_Lay_c : Code := codeOf Try.f65.body
noncomputable def octet_Lay_c0 : Code := codeOf (getLoop 0 octet_Lay_c)
def octet_Lay_d0 : LD := { ins := ⟨[(0, (.av (.one (.sl 0 1)))), (1, (.av (.one (.int .u64)))), (4, (.av (.one (.int .i64))))], [(.sh (.arr (.int .u8) none), false)]⟩, mov := [], wr := [0], outs := [(.exit 0, ⟨[], [(.sh (.arr (.int .u8) none), false)]⟩)], its := [.nat, .nat, .int, .int, .lst (.int .u8)], ots := [[.lst (.int .u8)]] }
noncomputable def octet_Lay_J (N : Nat) : Nat → Hint := fun cx => hintOf cx [(0, { reg := fun k => assoc0 k [], cnd := fun k => assoc0 k [], loop := fun k => assoc0 k [(0, ⟨octet_Lay_d0, loopF (octet_Lay_b0 N) N⟩)], nil := fun k => assoc0 k [], unr := fun k => assocN k [], blk := fun k => assoc0 k [] })]
noncomputable def octet_Lay_C (N : Nat) : Nat → List GS := fun k => tabOf k []
def octet_Lay_o : List (Shp × List Nat) := [(⟨[(0, (.tup []))], [(.sh (.arr (.int .u8) none), false)]⟩, [])]
noncomputable def octet_Lay_g (N : Nat) : GS := { ins := ⟨[(0, (.av (.one (.sl 0 1)))), (1, (.av (.one (.int .u64))))], [(some (.arr (.int .u8) none), false)]⟩, lend := [.keep, .keep], outs := octet_Lay_o.map fun s => ssOf s.1, its := [.nat, .nat, .int, .lst (.int .u8)], ots := [[.lst (.int .u8)]], F := octet_Lay N }
theorem octet_Lay_t (N : Nat) : TabC Try.prog (octet_Lay_C N) := tab_ok trivial
theorem octet_Lay_i0 : loopsOf octet_Lay_c0 = [] := by kernel_rfl
theorem octet_Lay_e0 (N : Nat) (next) (x) : octet_Lay_b0 N next x = loopStep Γ (octet_Lay_C N) (octet_Lay_J N) 0 19 octet_Lay_d0 octet_Lay_c0 next x := by kernel_rfl
theorem octet_Lay_k0 (N : Nat) : LoopOK Try.prog 19 octet_Lay_c0 ⟨octet_Lay_d0, loopF (octet_Lay_b0 N) N⟩ := loop_ok tabOK (octet_Lay_t N) mixedOK (J := octet_Lay_J N) (cx := 0) (body := octet_Lay_c0) (nt := 19) (l := octet_Lay_d0) (b := octet_Lay_b0 N) (jok_from octet_Lay_i0 ⟨trivial, trivial⟩) (octet_Lay_e0 N) N
theorem octet_Lay_i : loopsOf octet_Lay_c = [(0, octet_Lay_c0)] := by kernel_rfl
theorem octet_Lay_e (N : Nat) (x) : (octet_Lay_g N).F x = fnStep Γ (octet_Lay_C N) (octet_Lay_J N) 19 Try.f65.results.toList (octet_Lay_g N) octet_Lay_o octet_Lay_c x := by kernel_rfl
theorem octet_Lay_y : Try.f65.body = some octet_Lay_c := by kernel_rfl
theorem octet_Lay_n : (Try.f65.name == "runtime.NumGoroutine") = false := by kernel_rfl
theorem octet_Lay_ok (N : Nat) : FnDoes Try.prog 65 (octet_Lay_g N) := fn_ok tabOK (octet_Lay_t N) mixedOK (J := octet_Lay_J N) (body := octet_Lay_c) Try.func65 octet_Lay_y octet_Lay_n Try.ntmps65 (jok_from octet_Lay_i ⟨⟨.inr ⟨_, rfl, octet_Lay_k0 N⟩, trivial⟩, trivial⟩) rfl rfl (le_of_ble rfl) (octet_Lay_e N)
noncomputable def octet_Put_c : Code := codeOf Try.f60.body
noncomputable def octet_Put_J (N : Nat) : Nat → Hint := fun cx => hintOf cx []
noncomputable def octet_Put_C (N : Nat) : Nat → List GS := fun k => tabOf k [(65, [octet_Lay_g N])]
def octet_Put_o : List (Shp × List Nat) := [(⟨[(0, (.av (.one (.const (.slw 0 1)))))], [(.sh (.arr (.int .u8) none), false)]⟩, [])]
noncomputable def octet_Put_g (N : Nat) : GS := { ins := ⟨[(0, (.av (.one (.const .nils)))), (1, (.av (.one (.int .u64)))), (2, (.av (.one (.int .i64))))], []⟩, lend := [.keep, .keep, .keep], outs := octet_Put_o.map fun s => ssOf s.1, its := [.int, .int], ots := [[.lst (.int .u8)]], F := octet_Put N }
noncomputable def octet_Put_CA (N : Nat) (f0 : Nat × Nat × Int × (List Int) → Option ((List Int))) : Nat → List GS := fun k => tabOf k [(65, [{ octet_Lay_g N with F := f0 }])]
theorem octet_Put_CE (N : Nat) : octet_Put_CA N (octet_Lay N) = octet_Put_C N := by kernel_rfl
theorem octet_Put_t (N : Nat) : TabC Try.prog (octet_Put_C N) := tab_ok ⟨⟨octet_Lay_ok N, trivial⟩, trivial⟩
theorem octet_Put_i : loopsOf octet_Put_c = [] := by kernel_rfl
noncomputable def octet_Put_a (N : Nat) (f0 : Nat × Nat × Int × (List Int) → Option ((List Int))) (x : Int × Int) : Option ((List Int)) :=
  (cond (((decide ((0 : Int) ≤ x.2)) && (fits 1 (Int.toNat x.2))) && (fits 1 (List.length (List.replicate (Int.toNat x.2) (EK.dflt (.int .u8))))))
  ((let v1 : List Int := (List.replicate (Int.toNat x.2) (EK.dflt (.int .u8)))
  (let v3 : Int := (wrapF .i64 ((((List.length v1) : Nat) : Int) - x.2))
  (cond (((decide ((0 : Int) ≤ v3)) && (decide (v3 ≤ (((List.length v1) : Nat) : Int)))) && (decide ((((List.length v1) : Nat) : Int) ≤ (((List.length v1) : Nat) : Int))))
  ((Option.bind (f0 ((Int.toNat v3), ((List.length v1) - (Int.toNat v3)), x.1, v1)) fun r6 =>
  (some r6)))
  none))))
  none)
theorem octet_Put_f (N : Nat) (f0 : Nat × Nat × Int × (List Int) → Option ((List Int))) (x) : octet_Put_a N f0 x = fnStep Γ (octet_Put_CA N f0) (octet_Put_J N) 19 Try.f60.results.toList (octet_Put_g N) octet_Put_o octet_Put_c x := by kernel_rfl
theorem octet_Put_e (N : Nat) (x) : (octet_Put_g N).F x = fnStep Γ (octet_Put_C N) (octet_Put_J N) 19 Try.f60.results.toList (octet_Put_g N) octet_Put_o octet_Put_c x := by
  rw [← octet_Put_CE N]
  exact Eq.trans (by kernel_rfl) (octet_Put_f N (octet_Lay N) x)
theorem octet_Put_y : Try.f60.body = some octet_Put_c := by kernel_rfl
theorem octet_Put_n : (Try.f60.name == "runtime.NumGoroutine") = false := by kernel_rfl
theorem octet_Put_ok (N : Nat) : FnDoes Try.prog 60 (octet_Put_g N) := fn_ok tabOK (octet_Put_t N) mixedOK (J := octet_Put_J N) (body := octet_Put_c) Try.func60 octet_Put_y octet_Put_n Try.ntmps60 (jok_from octet_Put_i trivial) rfl rfl (le_of_ble rfl) (octet_Put_e N)
noncomputable def xdr_Writer_Uint_c : Code := codeOf Try.f27.body
noncomputable def xdr_Writer_Uint_J (N : Nat) : Nat → Hint := fun cx => hintOf cx [(0, { reg := fun k => assoc0 k [], cnd := fun k => assoc0 k [(6, ⟨[], [0], [(.normal, ⟨[], [(.sh (.one (.const (.slw 2 1))), true), (.keep, false), (.sh (.arr (.int .u8) none), false)]⟩)], [[.lst (.int .u8)]]⟩)], loop := fun k => assoc0 k [], nil := fun k => assoc0 k [], unr := fun k => assocN k [], blk := fun k => assoc0 k [] })]
noncomputable def xdr_Writer_Uint_C (N : Nat) : Nat → List GS := fun k => tabOf k [(58, [xdr_Writer_bad_g N]), (60, [octet_Put_g N])]
def xdr_Writer_Uint_o : List (Shp × List Nat) := [(⟨[(0, (.tup []))], [(.sh (.one (.const (.slw 2 1))), true), (.sh (.one (.int .i64)), false), (.sh (.arr (.int .u8) none), false)]⟩, [])]
noncomputable def xdr_Writer_Uint_g (N : Nat) : GS := { ins := ⟨[(0, (.av (.one (.const (.ptr ⟨0, 0, 0, 0⟩))))), (1, (.av (.one (.int .u32))))], [(some (.one (.const .nils)), true), (some (.one (.int .i64)), false)]⟩, lend := [.keep, .keep], outs := xdr_Writer_Uint_o.map fun s => ssOf s.1, its := [.int, .int], ots := [[.int, .lst (.int .u8)]], F := xdr_Writer_Uint N }
noncomputable def xdr_Writer_Uint_CA (N : Nat) (f0 : Int → Option (Bool × Int)) (f1 : Int × Int → Option ((List Int))) : Nat → List GS := fun k => tabOf k [(58, [{ xdr_Writer_bad_g N with F := f0 }]), (60, [{ octet_Put_g N with F := f1 }])]
theorem xdr_Writer_Uint_CE (N : Nat) : xdr_Writer_Uint_CA N (xdr_Writer_bad) (octet_Put N) = xdr_Writer_Uint_C N := by kernel_rfl
theorem xdr_Writer_Uint_t (N : Nat) : TabC Try.prog (xdr_Writer_Uint_C N) := tab_ok ⟨⟨xdr_Writer_bad_ok N, trivial⟩, ⟨octet_Put_ok N, trivial⟩, trivial⟩
theorem xdr_Writer_Uint_i : loopsOf xdr_Writer_Uint_c = [] := by kernel_rfl
noncomputable def xdr_Writer_Uint_a (N : Nat) (f0 : Int → Option (Bool × Int)) (f1 : Int × Int → Option ((List Int))) (x : Int × Int) : Option (Int × (List Int)) :=
  (Option.bind (f0 x.2) fun r1 =>
  (Option.bind
  (cond (!r1.1)
  (Option.bind (f1 ((wrapF .u64 x.1), (4 : Int))) fun r4 =>
  (some r4))
  (some ([] : List Int)))
  fun r5 =>
  (some (r1.2, r5))))
theorem xdr_Writer_Uint_f (N : Nat) (f0 : Int → Option (Bool × Int)) (f1 : Int × Int → Option ((List Int))) (x) : xdr_Writer_Uint_a N f0 f1 x = fnStep Γ (xdr_Writer_Uint_CA N f0 f1) (xdr_Writer_Uint_J N) 17 Try.f27.results.toList (xdr_Writer_Uint_g N) xdr_Writer_Uint_o xdr_Writer_Uint_c x := by kernel_rfl
theorem xdr_Writer_Uint_e (N : Nat) (x) : (xdr_Writer_Uint_g N).F x = fnStep Γ (xdr_Writer_Uint_C N) (xdr_Writer_Uint_J N) 17 Try.f27.results.toList (xdr_Writer_Uint_g N) xdr_Writer_Uint_o xdr_Writer_Uint_c x := by
  rw [← xdr_Writer_Uint_CE N]
  exact Eq.trans (by kernel_rfl) (xdr_Writer_Uint_f N (xdr_Writer_bad) (octet_Put N) x)
theorem xdr_Writer_Uint_y : Try.f27.body = some xdr_Writer_Uint_c := by kernel_rfl
theorem xdr_Writer_Uint_n : (Try.f27.name == "runtime.NumGoroutine") = false := by kernel_rfl
theorem xdr_Writer_Uint_ok (N : Nat) : FnDoes Try.prog 27 (xdr_Writer_Uint_g N) := fn_ok tabOK (xdr_Writer_Uint_t N) mixedOK (J := xdr_Writer_Uint_J N) (body := xdr_Writer_Uint_c) Try.func27 xdr_Writer_Uint_y xdr_Writer_Uint_n Try.ntmps27 (jok_from xdr_Writer_Uint_i ⟨trivial, trivial⟩) rfl rfl (le_of_ble rfl) (xdr_Writer_Uint_e N)
noncomputable def xdr_Writer_bad_v1_c : Code := codeOf Try.f58.body
noncomputable def xdr_Writer_bad_v1_J (N : Nat) : Nat → Hint := fun cx => hintOf cx [(0, { reg := fun k => assoc0 k [], cnd := fun k => assoc0 k [], loop := fun k => assoc0 k [], nil := fun k => assoc0 k [], unr := fun k => assocN k [], blk := fun k => assoc0 k [] })]
noncomputable def xdr_Writer_bad_v1_C (N : Nat) : Nat → List GS := fun k => tabOf k []
def xdr_Writer_bad_v1_o : List (Shp × List Nat) := [(⟨[(0, (.av (.one .bool)))], [(.sh (.one (.const (.slw 2 1))), true), (.sh (.one (.int .i64)), false), (.sh (.arr (.int .u8) none), false)]⟩, [])]
noncomputable def xdr_Writer_bad_v1_g (N : Nat) : GS := { ins := ⟨[(0, (.av (.one (.const (.ptr ⟨0, 0, 0, 0⟩)))))], [(some (.one (.const (.slw 2 1))), true), (some (.one (.int .i64)), false), (some (.arr (.int .u8) none), false)]⟩, lend := [.keep], outs := xdr_Writer_bad_v1_o.map fun s => ssOf s.1, its := [.int, .lst (.int .u8)], ots := [[.bool, .int, .lst (.int .u8)]], F := xdr_Writer_bad_v1 }
theorem xdr_Writer_bad_v1_t (N : Nat) : TabC Try.prog (xdr_Writer_bad_v1_C N) := tab_ok trivial
theorem xdr_Writer_bad_v1_i : loopsOf xdr_Writer_bad_v1_c = [] := by kernel_rfl
theorem xdr_Writer_bad_v1_e (N : Nat) (x) : (xdr_Writer_bad_v1_g N).F x = fnStep Γ (xdr_Writer_bad_v1_C N) (xdr_Writer_bad_v1_J N) 12 Try.f58.results.toList (xdr_Writer_bad_v1_g N) xdr_Writer_bad_v1_o xdr_Writer_bad_v1_c x := by kernel_rfl
theorem xdr_Writer_bad_v1_y : Try.f58.body = some xdr_Writer_bad_v1_c := by kernel_rfl
theorem xdr_Writer_bad_v1_n : (Try.f58.name == "runtime.NumGoroutine") = false := by kernel_rfl
theorem xdr_Writer_bad_v1_ok (N : Nat) : FnDoes Try.prog 58 (xdr_Writer_bad_v1_g N) := fn_ok tabOK (xdr_Writer_bad_v1_t N) mixedOK (J := xdr_Writer_bad_v1_J N) (body := xdr_Writer_bad_v1_c) Try.func58 xdr_Writer_bad_v1_y xdr_Writer_bad_v1_n Try.ntmps58 (jok_from xdr_Writer_bad_v1_i ⟨trivial, trivial⟩) rfl rfl (le_of_ble rfl) (xdr_Writer_bad_v1_e N)
noncomputable def xdr_Writer_fits_c : Code := codeOf Try.f57.body
noncomputable def xdr_Writer_fits_J (N : Nat) : Nat → Hint := fun cx => hintOf cx [(0, { reg := fun k => assoc0 k [], cnd := fun k => assoc0 k [(11, ⟨[], [1], [(.normal, ⟨[], [(.keep, true), (.sh (.one (.int .i64)), false), (.keep, false)]⟩)], [[.int]]⟩)], loop := fun k => assoc0 k [], nil := fun k => assoc0 k [], unr := fun k => assocN k [], blk := fun k => assoc0 k [] })]
noncomputable def xdr_Writer_fits_C (N : Nat) : Nat → List GS := fun k => tabOf k [(58, [xdr_Writer_bad_v1_g N])]
def xdr_Writer_fits_o : List (Shp × List Nat) := [(⟨[(0, (.av (.one .bool)))], [(.sh (.one (.const (.slw 2 1))), true), (.sh (.one (.int .i64)), false), (.sh (.arr (.int .u8) none), false)]⟩, [])]
noncomputable def xdr_Writer_fits_g (N : Nat) : GS := { ins := ⟨[(0, (.av (.one (.const (.ptr ⟨0, 0, 0, 0⟩))))), (1, (.av (.one (.int .i64)))), (2, (.av (.one (.int .i64))))], [(some (.one (.const (.slw 2 1))), true), (some (.one (.int .i64)), false), (some (.arr (.int .u8) none), false)]⟩, lend := [.keep, .keep, .keep], outs := xdr_Writer_fits_o.map fun s => ssOf s.1, its := [.int, .int, .int, .lst (.int .u8)], ots := [[.bool, .int, .lst (.int .u8)]], F := xdr_Writer_fits }
noncomputable def xdr_Writer_fits_CA (N : Nat) (f0 : Int × (List Int) → Option (Bool × Int × (List Int))) : Nat → List GS := fun k => tabOf k [(58, [{ xdr_Writer_bad_v1_g N with F := f0 }])]
theorem xdr_Writer_fits_CE (N : Nat) : xdr_Writer_fits_CA N (xdr_Writer_bad_v1) = xdr_Writer_fits_C N := by kernel_rfl
theorem xdr_Writer_fits_t (N : Nat) : TabC Try.prog (xdr_Writer_fits_C N) := tab_ok ⟨⟨xdr_Writer_bad_v1_ok N, trivial⟩, trivial⟩
theorem xdr_Writer_fits_i : loopsOf xdr_Writer_fits_c = [] := by kernel_rfl
noncomputable def xdr_Writer_fits_a (N : Nat) (f0 : Int × (List Int) → Option (Bool × Int × (List Int))) (x : Int × Int × Int × (List Int)) : Option (Bool × Int × (List Int)) :=
  (Option.bind (f0 (x.2.2.1, x.2.2.2)) fun r1 =>
  (cond r1.1
  (some (false, r1.2.1, r1.2.2))
  (Option.bind
  (cond (decide (x.2.1 < x.1))
  (some (1 : Int))
  (some r1.2.1))
  fun r3 =>
  (some ((decide (x.1 ≤ x.2.1)), r3, r1.2.2)))))
theorem xdr_Writer_fits_f (N : Nat) (f0 : Int × (List Int) → Option (Bool × Int × (List Int))) (x) : xdr_Writer_fits_a N f0 x = fnStep Γ (xdr_Writer_fits_CA N f0) (xdr_Writer_fits_J N) 18 Try.f57.results.toList (xdr_Writer_fits_g N) xdr_Writer_fits_o xdr_Writer_fits_c x := by kernel_rfl
theorem xdr_Writer_fits_e (N : Nat) (x) : (xdr_Writer_fits_g N).F x = fnStep Γ (xdr_Writer_fits_C N) (xdr_Writer_fits_J N) 18 Try.f57.results.toList (xdr_Writer_fits_g N) xdr_Writer_fits_o xdr_Writer_fits_c x := by
  rw [← xdr_Writer_fits_CE N]
  exact Eq.trans (by kernel_rfl) (xdr_Writer_fits_f N (xdr_Writer_bad_v1) x)
theorem xdr_Writer_fits_y : Try.f57.body = some xdr_Writer_fits_c := by kernel_rfl
theorem xdr_Writer_fits_n : (Try.f57.name == "runtime.NumGoroutine") = false := by kernel_rfl
theorem xdr_Writer_fits_ok (N : Nat) : FnDoes Try.prog 57 (xdr_Writer_fits_g N) := fn_ok tabOK (xdr_Writer_fits_t N) mixedOK (J := xdr_Writer_fits_J N) (body := xdr_Writer_fits_c) Try.func57 xdr_Writer_fits_y xdr_Writer_fits_n Try.ntmps57 (jok_from xdr_Writer_fits_i ⟨trivial, trivial⟩) rfl rfl (le_of_ble rfl) (xdr_Writer_fits_e N)
noncomputable def octet_Put_v1_c : Code := codeOf Try.f60.body
noncomputable def octet_Put_v1_J (N : Nat) : Nat → Hint := fun cx => hintOf cx []
noncomputable def octet_Put_v1_C (N : Nat) : Nat → List GS := fun k => tabOf k [(65, [octet_Lay_g N])]
def octet_Put_v1_o : List (Shp × List Nat) := [(⟨[(0, (.av (.one (.const (.slw 1 1)))))], [(.dead, false), (.sh (.arr (.int .u8) none), false)]⟩, [])]
noncomputable def octet_Put_v1_g (N : Nat) : GS := { ins := ⟨[(0, (.av (.one (.const (.slw 0 1))))), (1, (.av (.one (.int .u64)))), (2, (.av (.one (.int .i64))))], [(some (.arr (.int .u8) none), false)]⟩, lend := [.keep, .keep, .keep], outs := octet_Put_v1_o.map fun s => ssOf s.1, its := [.int, .int, .lst (.int .u8)], ots := [[.lst (.int .u8)]], F := octet_Put_v1 N }
noncomputable def octet_Put_v1_CA (N : Nat) (f0 : Nat × Nat × Int × (List Int) → Option ((List Int))) : Nat → List GS := fun k => tabOf k [(65, [{ octet_Lay_g N with F := f0 }])]
theorem octet_Put_v1_CE (N : Nat) : octet_Put_v1_CA N (octet_Lay N) = octet_Put_v1_C N := by kernel_rfl
theorem octet_Put_v1_t (N : Nat) : TabC Try.prog (octet_Put_v1_C N) := tab_ok ⟨⟨octet_Lay_ok N, trivial⟩, trivial⟩
theorem octet_Put_v1_i : loopsOf octet_Put_v1_c = [] := by kernel_rfl
noncomputable def octet_Put_v1_a (N : Nat) (f0 : Nat × Nat × Int × (List Int) → Option ((List Int))) (x : Int × Int × (List Int)) : Option ((List Int)) :=
  (cond (((decide ((0 : Int) ≤ x.2.1)) && (fits 1 (Int.toNat x.2.1))) && (fits 1 ((List.length x.2.2) + (List.length (List.replicate (Int.toNat x.2.1) (EK.dflt (.int .u8)))))))
  ((let v1 : List Int := (x.2.2 ++ (List.replicate (Int.toNat x.2.1) (EK.dflt (.int .u8))))
  (let v3 : Int := (wrapF .i64 ((((List.length v1) : Nat) : Int) - x.2.1))
  (cond (((decide ((0 : Int) ≤ v3)) && (decide (v3 ≤ (((List.length v1) : Nat) : Int)))) && (decide ((((List.length v1) : Nat) : Int) ≤ (((List.length v1) : Nat) : Int))))
  ((Option.bind (f0 ((Int.toNat v3), ((List.length v1) - (Int.toNat v3)), x.1, v1)) fun r6 =>
  (some r6)))
  none))))
  none)
theorem octet_Put_v1_f (N : Nat) (f0 : Nat × Nat × Int × (List Int) → Option ((List Int))) (x) : octet_Put_v1_a N f0 x = fnStep Γ (octet_Put_v1_CA N f0) (octet_Put_v1_J N) 19 Try.f60.results.toList (octet_Put_v1_g N) octet_Put_v1_o octet_Put_v1_c x := by kernel_rfl
theorem octet_Put_v1_e (N : Nat) (x) : (octet_Put_v1_g N).F x = fnStep Γ (octet_Put_v1_C N) (octet_Put_v1_J N) 19 Try.f60.results.toList (octet_Put_v1_g N) octet_Put_v1_o octet_Put_v1_c x := by
  rw [← octet_Put_v1_CE N]
  exact Eq.trans (by kernel_rfl) (octet_Put_v1_f N (octet_Lay N) x)
theorem octet_Put_v1_y : Try.f60.body = some octet_Put_v1_c := by kernel_rfl
theorem octet_Put_v1_n : (Try.f60.name == "runtime.NumGoroutine") = false := by kernel_rfl
theorem octet_Put_v1_ok (N : Nat) : FnDoes Try.prog 60 (octet_Put_v1_g N) := fn_ok tabOK (octet_Put_v1_t N) mixedOK (J := octet_Put_v1_J N) (body := octet_Put_v1_c) Try.func60 octet_Put_v1_y octet_Put_v1_n Try.ntmps60 (jok_from octet_Put_v1_i trivial) rfl rfl (le_of_ble rfl) (octet_Put_v1_e N)
noncomputable def xdr_Writer_Uint_v1_c : Code := codeOf Try.f27.body
noncomputable def xdr_Writer_Uint_v1_J (N : Nat) : Nat → Hint := fun cx => hintOf cx [(0, { reg := fun k => assoc0 k [], cnd := fun k => assoc0 k [(6, ⟨[2], [0], [(.normal, ⟨[], [(.sh (.one (.const (.slw 3 1))), true), (.keep, false), (.dead, false), (.sh (.arr (.int .u8) none), false)]⟩)], [[.lst (.int .u8)]]⟩)], loop := fun k => assoc0 k [], nil := fun k => assoc0 k [], unr := fun k => assocN k [], blk := fun k => assoc0 k [] })]
noncomputable def xdr_Writer_Uint_v1_C (N : Nat) : Nat → List GS := fun k => tabOf k [(58, [xdr_Writer_bad_v1_g N]), (60, [octet_Put_v1_g N])]
def xdr_Writer_Uint_v1_o : List (Shp × List Nat) := [(⟨[(0, (.tup []))], [(.sh (.one (.const (.slw 3 1))), true), (.sh (.one (.int .i64)), false), (.dead, false), (.sh (.arr (.int .u8) none), false)]⟩, [])]
noncomputable def xdr_Writer_Uint_v1_g (N : Nat) : GS := { ins := ⟨[(0, (.av (.one (.const (.ptr ⟨0, 0, 0, 0⟩))))), (1, (.av (.one (.int .u32))))], [(some (.one (.const (.slw 2 1))), true), (some (.one (.int .i64)), false), (some (.arr (.int .u8) none), false)]⟩, lend := [.keep, .keep], outs := xdr_Writer_Uint_v1_o.map fun s => ssOf s.1, its := [.int, .int, .lst (.int .u8)], ots := [[.int, .lst (.int .u8)]], F := xdr_Writer_Uint_v1 N }
noncomputable def xdr_Writer_Uint_v1_CA (N : Nat) (f0 : Int × (List Int) → Option (Bool × Int × (List Int))) (f1 : Int × Int × (List Int) → Option ((List Int))) : Nat → List GS := fun k => tabOf k [(58, [{ xdr_Writer_bad_v1_g N with F := f0 }]), (60, [{ octet_Put_v1_g N with F := f1 }])]
theorem xdr_Writer_Uint_v1_CE (N : Nat) : xdr_Writer_Uint_v1_CA N (xdr_Writer_bad_v1) (octet_Put_v1 N) = xdr_Writer_Uint_v1_C N := by kernel_rfl
theorem xdr_Writer_Uint_v1_t (N : Nat) : TabC Try.prog (xdr_Writer_Uint_v1_C N) := tab_ok ⟨⟨xdr_Writer_bad_v1_ok N, trivial⟩, ⟨octet_Put_v1_ok N, trivial⟩, trivial⟩
theorem xdr_Writer_Uint_v1_i : loopsOf xdr_Writer_Uint_v1_c = [] := by kernel_rfl
noncomputable def xdr_Writer_Uint_v1_a (N : Nat) (f0 : Int × (List Int) → Option (Bool × Int × (List Int))) (f1 : Int × Int × (List Int) → Option ((List Int))) (x : Int × Int × (List Int)) : Option (Int × (List Int)) :=
  (Option.bind (f0 (x.2.1, x.2.2)) fun r1 =>
  (Option.bind
  (cond (!r1.1)
  (Option.bind (f1 ((wrapF .u64 x.1), (4 : Int), r1.2.2)) fun r4 =>
  (some r4))
  (some r1.2.2))
  fun r5 =>
  (some (r1.2.1, r5))))
theorem xdr_Writer_Uint_v1_f (N : Nat) (f0 : Int × (List Int) → Option (Bool × Int × (List Int))) (f1 : Int × Int × (List Int) → Option ((List Int))) (x) : xdr_Writer_Uint_v1_a N f0 f1 x = fnStep Γ (xdr_Writer_Uint_v1_CA N f0 f1) (xdr_Writer_Uint_v1_J N) 17 Try.f27.results.toList (xdr_Writer_Uint_v1_g N) xdr_Writer_Uint_v1_o xdr_Writer_Uint_v1_c x := by kernel_rfl
theorem xdr_Writer_Uint_v1_e (N : Nat) (x) : (xdr_Writer_Uint_v1_g N).F x = fnStep Γ (xdr_Writer_Uint_v1_C N) (xdr_Writer_Uint_v1_J N) 17 Try.f27.results.toList (xdr_Writer_Uint_v1_g N) xdr_Writer_Uint_v1_o xdr_Writer_Uint_v1_c x := by
  rw [← xdr_Writer_Uint_v1_CE N]
  exact Eq.trans (by kernel_rfl) (xdr_Writer_Uint_v1_f N (xdr_Writer_bad_v1) (octet_Put_v1 N) x)
theorem xdr_Writer_Uint_v1_y : Try.f27.body = some xdr_Writer_Uint_v1_c := by kernel_rfl
theorem xdr_Writer_Uint_v1_n : (Try.f27.name == "runtime.NumGoroutine") = false := by kernel_rfl
theorem xdr_Writer_Uint_v1_ok (N : Nat) : FnDoes Try.prog 27 (xdr_Writer_Uint_v1_g N) := fn_ok tabOK (xdr_Writer_Uint_v1_t N) mixedOK (J := xdr_Writer_Uint_v1_J N) (body := xdr_Writer_Uint_v1_c) Try.func27 xdr_Writer_Uint_v1_y xdr_Writer_Uint_v1_n Try.ntmps27 (jok_from xdr_Writer_Uint_v1_i ⟨trivial, trivial⟩) rfl rfl (le_of_ble rfl) (xdr_Writer_Uint_v1_e N)
noncomputable def xdr_padding_c : Code := codeOf Try.f61.body
noncomputable def xdr_padding_J (N : Nat) : Nat → Hint := fun cx => hintOf cx []
noncomputable def xdr_padding_C (N : Nat) : Nat → List GS := fun k => tabOf k []
def xdr_padding_o : List (Shp × List Nat) := [(⟨[(0, (.av (.one (.int .i64))))], []⟩, [])]
noncomputable def xdr_padding_g (N : Nat) : GS := { ins := ⟨[(0, (.av (.one (.int .i64))))], []⟩, lend := [.keep], outs := xdr_padding_o.map fun s => ssOf s.1, its := [.int], ots := [[.int]], F := xdr_padding }
theorem xdr_padding_t (N : Nat) : TabC Try.prog (xdr_padding_C N) := tab_ok trivial
theorem xdr_padding_i : loopsOf xdr_padding_c = [] := by kernel_rfl
theorem xdr_padding_e (N : Nat) (x) : (xdr_padding_g N).F x = fnStep Γ (xdr_padding_C N) (xdr_padding_J N) 7 Try.f61.results.toList (xdr_padding_g N) xdr_padding_o xdr_padding_c x := by kernel_rfl
theorem xdr_padding_y : Try.f61.body = some xdr_padding_c := by kernel_rfl
theorem xdr_padding_n : (Try.f61.name == "runtime.NumGoroutine") = false := by kernel_rfl
theorem xdr_padding_ok (N : Nat) : FnDoes Try.prog 61 (xdr_padding_g N) := fn_ok tabOK (xdr_padding_t N) mixedOK (J := xdr_padding_J N) (body := xdr_padding_c) Try.func61 xdr_padding_y xdr_padding_n Try.ntmps61 (jok_from xdr_padding_i trivial) rfl rfl (le_of_ble rfl) (xdr_padding_e N)
noncomputable def xdr_Writer_Fixed_c : Code := codeOf Try.f30.body
noncomputable def xdr_Writer_Fixed_c0 : Code := codeOf (getLoop 0 xdr_Writer_Fixed_c)
def xdr_Writer_Fixed_d0 : LD := { ins := ⟨[(0, (.av (.one (.const (.ptr ⟨0, 0, 0, 0⟩))))), (17, (.av (.one (.int .i64)))), (18, (.av (.one (.int .i64))))], [(.sh (.one (.const (.slw 3 1))), true), (.keep, false), (.keep, false), (.sh (.arr (.int .u8) none), false)]⟩, mov := [3], wr := [0], outs := [(.exit 0, ⟨[], [(.sh (.one (.const (.slw 4 1))), true), (.keep, false), (.keep, false), (.dead, false), (.sh (.arr (.int .u8) none), false)]⟩)], its := [.int, .int, .lst (.int .u8)], ots := [[.lst (.int .u8)]] }
noncomputable def xdr_Writer_Fixed_J (N : Nat) : Nat → Hint := fun cx => hintOf cx [(0, { reg := fun k => assoc0 k [], cnd := fun k => assoc0 k [], loop := fun k => assoc0 k [(0, ⟨xdr_Writer_Fixed_d0, loopF (xdr_Writer_Fixed_b0 N) N⟩)], nil := fun k => assoc0 k [], unr := fun k => assocN k [], blk := fun k => assoc0 k [] })]
noncomputable def xdr_Writer_Fixed_C (N : Nat) : Nat → List GS := fun k => tabOf k [(58, [xdr_Writer_bad_v1_g N]), (61, [xdr_padding_g N])]
def xdr_Writer_Fixed_o : List (Shp × List Nat) := [(⟨[(0, (.tup []))], [(.sh (.one (.const (.slw 3 1))), true), (.sh (.one (.int .i64)), false), (.dead, false), (.sh (.arr (.int .u8) none), false)]⟩, [2])]
noncomputable def xdr_Writer_Fixed_g (N : Nat) : GS := { ins := ⟨[(0, (.av (.one (.const (.ptr ⟨0, 0, 0, 0⟩))))), (1, (.av (.one (.rsl (.int .u8)))))], [(some (.one (.const (.slw 2 1))), true), (some (.one (.int .i64)), false), (some (.arr (.int .u8) none), false)]⟩, lend := [.keep, .keep], outs := xdr_Writer_Fixed_o.map fun s => ssOf s.1, its := [.lst (.int .u8), .int, .lst (.int .u8)], ots := [[.int, .lst (.int .u8)]], F := xdr_Writer_Fixed N }
noncomputable def xdr_Writer_Fixed_CA (N : Nat) (f0 : Int × (List Int) → Option (Bool × Int × (List Int))) (f1 : Int → Option (Int)) : Nat → List GS := fun k => tabOf k [(58, [{ xdr_Writer_bad_v1_g N with F := f0 }]), (61, [{ xdr_padding_g N with F := f1 }])]
theorem xdr_Writer_Fixed_CE (N : Nat) : xdr_Writer_Fixed_CA N (xdr_Writer_bad_v1) (xdr_padding) = xdr_Writer_Fixed_C N := by kernel_rfl
theorem xdr_Writer_Fixed_t (N : Nat) : TabC Try.prog (xdr_Writer_Fixed_C N) := tab_ok ⟨⟨xdr_Writer_bad_v1_ok N, trivial⟩, ⟨xdr_padding_ok N, trivial⟩, trivial⟩
theorem xdr_Writer_Fixed_i0 : loopsOf xdr_Writer_Fixed_c0 = [] := by kernel_rfl
noncomputable def xdr_Writer_Fixed_a0 (N : Nat) (f0 : Int × (List Int) → Option (Bool × Int × (List Int))) (f1 : Int → Option (Int)) (next : Int × Int × (List Int) → Option (((List Int)))) (x : Int × Int × (List Int)) : Option (((List Int))) :=
  (cond (decide (x.2.1 < x.1))
  (let v2 : List Int := ([(0 : Int)] : List Int)
  (cond ((decide (1 ≤ (List.length v2))) && (fits 1 ((List.length x.2.2) + (List.length (List.take 1 (List.drop 0 v2))))))
  ((next (x.1, (wrapF .i64 (x.2.1 + (1 : Int))), (x.2.2 ++ (List.take 1 (List.drop 0 v2))))))
  none))
  (some x.2.2))
theorem xdr_Writer_Fixed_f0 (N : Nat) (f0 : Int × (List Int) → Option (Bool × Int × (List Int))) (f1 : Int → Option (Int)) (next) (x) : xdr_Writer_Fixed_a0 N f0 f1 next x = loopStep Γ (xdr_Writer_Fixed_CA N f0 f1) (xdr_Writer_Fixed_J N) 0 30 xdr_Writer_Fixed_d0 xdr_Writer_Fixed_c0 next x := by kernel_rfl
theorem xdr_Writer_Fixed_e0 (N : Nat) (next) (x) : xdr_Writer_Fixed_b0 N next x = loopStep Γ (xdr_Writer_Fixed_C N) (xdr_Writer_Fixed_J N) 0 30 xdr_Writer_Fixed_d0 xdr_Writer_Fixed_c0 next x := by
  rw [← xdr_Writer_Fixed_CE N]
  exact Eq.trans (by kernel_rfl) (xdr_Writer_Fixed_f0 N (xdr_Writer_bad_v1) (xdr_padding) next x)
theorem xdr_Writer_Fixed_k0 (N : Nat) : LoopOK Try.prog 30 xdr_Writer_Fixed_c0 ⟨xdr_Writer_Fixed_d0, loopF (xdr_Writer_Fixed_b0 N) N⟩ := loop_ok tabOK (xdr_Writer_Fixed_t N) mixedOK (J := xdr_Writer_Fixed_J N) (cx := 0) (body := xdr_Writer_Fixed_c0) (nt := 30) (l := xdr_Writer_Fixed_d0) (b := xdr_Writer_Fixed_b0 N) (jok_from xdr_Writer_Fixed_i0 ⟨trivial, trivial⟩) (xdr_Writer_Fixed_e0 N) N
theorem xdr_Writer_Fixed_i : loopsOf xdr_Writer_Fixed_c = [(0, xdr_Writer_Fixed_c0)] := by kernel_rfl
noncomputable def xdr_Writer_Fixed_a (N : Nat) (f0 : Int × (List Int) → Option (Bool × Int × (List Int))) (f1 : Int → Option (Int)) (x : (List Int) × Int × (List Int)) : Option (Int × (List Int)) :=
  (Option.bind (f0 (x.2.1, x.2.2)) fun r1 =>
  (cond r1.1
  (some (r1.2.1, r1.2.2))
  (cond (fits 1 ((List.length r1.2.2) + (List.length x.1)))
  ((Option.bind (f1 (((List.length x.1) : Nat) : Int)) fun r4 =>
  (Option.bind (xdr_Writer_Fixed_l0 N (r4, (0 : Int), (r1.2.2 ++ x.1))) fun r5 =>
  (some (r1.2.1, r5)))))
  none)))
theorem xdr_Writer_Fixed_f (N : Nat) (f0 : Int × (List Int) → Option (Bool × Int × (List Int))) (f1 : Int → Option (Int)) (x) : xdr_Writer_Fixed_a N f0 f1 x = fnStep Γ (xdr_Writer_Fixed_CA N f0 f1) (xdr_Writer_Fixed_J N) 30 Try.f30.results.toList (xdr_Writer_Fixed_g N) xdr_Writer_Fixed_o xdr_Writer_Fixed_c x := by kernel_rfl
theorem xdr_Writer_Fixed_e (N : Nat) (x) : (xdr_Writer_Fixed_g N).F x = fnStep Γ (xdr_Writer_Fixed_C N) (xdr_Writer_Fixed_J N) 30 Try.f30.results.toList (xdr_Writer_Fixed_g N) xdr_Writer_Fixed_o xdr_Writer_Fixed_c x := by
  rw [← xdr_Writer_Fixed_CE N]
  exact Eq.trans (by kernel_rfl) (xdr_Writer_Fixed_f N (xdr_Writer_bad_v1) (xdr_padding) x)
theorem xdr_Writer_Fixed_y : Try.f30.body = some xdr_Writer_Fixed_c := by kernel_rfl
theorem xdr_Writer_Fixed_n : (Try.f30.name == "runtime.NumGoroutine") = false := by kernel_rfl
theorem xdr_Writer_Fixed_ok (N : Nat) : FnDoes Try.prog 30 (xdr_Writer_Fixed_g N) := fn_ok tabOK (xdr_Writer_Fixed_t N) mixedOK (J := xdr_Writer_Fixed_J N) (body := xdr_Writer_Fixed_c) Try.func30 xdr_Writer_Fixed_y xdr_Writer_Fixed_n Try.ntmps30 (jok_from xdr_Writer_Fixed_i ⟨⟨.inr ⟨_, rfl, xdr_Writer_Fixed_k0 N⟩, trivial⟩, trivial⟩) rfl rfl (le_of_ble rfl) (xdr_Writer_Fixed_e N)
noncomputable def xdr_Writer_Opaque_c : Code := codeOf Try.f44.body
noncomputable def xdr_Writer_Opaque_J (N : Nat) : Nat → Hint := fun cx => hintOf cx [(0, { reg := fun k => assoc0 k [], cnd := fun k => assoc0 k [(10, ⟨[2], [0, 1], [(.normal, ⟨[], [(.sh (.one (.const (.slw 3 1))), true), (.sh (.one (.int .i64)), false), (.dead, false), (.sh (.arr (.int .u8) none), false)]⟩)], [[.int, .lst (.int .u8)]]⟩)], loop := fun k => assoc0 k [], nil := fun k => assoc0 k [], unr := fun k => assocN k [], blk := fun k => assoc0 k [] })]
noncomputable def xdr_Writer_Opaque_C (N : Nat) : Nat → List GS := fun k => tabOf k [(57, [xdr_Writer_fits_g N]), (27, [xdr_Writer_Uint_v1_g N]), (30, [xdr_Writer_Fixed_g N])]
def xdr_Writer_Opaque_o : List (Shp × List Nat) := [(⟨[(0, (.tup []))], [(.sh (.one (.const (.slw 3 1))), true), (.sh (.one (.int .i64)), false), (.dead, false), (.sh (.arr (.int .u8) none), false)]⟩, [])]
noncomputable def xdr_Writer_Opaque_g (N : Nat) : GS := { ins := ⟨[(0, (.av (.one (.const (.ptr ⟨0, 0, 0, 0⟩))))), (1, (.av (.one (.rsl (.int .u8))))), (2, (.av (.one (.int .i64))))], [(some (.one (.const (.slw 2 1))), true), (some (.one (.int .i64)), false), (some (.arr (.int .u8) none), false)]⟩, lend := [.keep, .lend (.int .u8), .keep], outs := xdr_Writer_Opaque_o.map fun s => ssOf s.1, its := [.lst (.int .u8), .int, .int, .lst (.int .u8)], ots := [[.int, .lst (.int .u8)]], F := xdr_Writer_Opaque N }
noncomputable def xdr_Writer_Opaque_CA (N : Nat) (f0 : Int × Int × Int × (List Int) → Option (Bool × Int × (List Int))) (f1 : Int × Int × (List Int) → Option (Int × (List Int))) (f2 : (List Int) × Int × (List Int) → Option (Int × (List Int))) : Nat → List GS := fun k => tabOf k [(57, [{ xdr_Writer_fits_g N with F := f0 }]), (27, [{ xdr_Writer_Uint_v1_g N with F := f1 }]), (30, [{ xdr_Writer_Fixed_g N with F := f2 }])]
theorem xdr_Writer_Opaque_CE (N : Nat) : xdr_Writer_Opaque_CA N (xdr_Writer_fits) (xdr_Writer_Uint_v1 N) (xdr_Writer_Fixed N) = xdr_Writer_Opaque_C N := by kernel_rfl
theorem xdr_Writer_Opaque_t (N : Nat) : TabC Try.prog (xdr_Writer_Opaque_C N) := tab_ok ⟨⟨xdr_Writer_fits_ok N, trivial⟩, ⟨xdr_Writer_Uint_v1_ok N, trivial⟩, ⟨xdr_Writer_Fixed_ok N, trivial⟩, trivial⟩
theorem xdr_Writer_Opaque_i : loopsOf xdr_Writer_Opaque_c = [] := by kernel_rfl
noncomputable def xdr_Writer_Opaque_a (N : Nat) (f0 : Int × Int × Int × (List Int) → Option (Bool × Int × (List Int))) (f1 : Int × Int × (List Int) → Option (Int × (List Int))) (f2 : (List Int) × Int × (List Int) → Option (Int × (List Int))) (x : (List Int) × Int × Int × (List Int)) : Option (Int × (List Int)) :=
  (Option.bind (f0 ((((List.length x.1) : Nat) : Int), x.2.1, x.2.2.1, x.2.2.2)) fun r2 =>
  (Option.bind
  (cond r2.1
  (Option.bind (f1 ((wrapF .u32 (((List.length x.1) : Nat) : Int)), r2.2.1, r2.2.2)) fun r5 =>
  (Option.bind (f2 (x.1, r5.1, r5.2)) fun r6 =>
  (some (r6.1, r6.2))))
  (some (r2.2.1, r2.2.2)))
  fun r7 =>
  (some (r7.1, r7.2))))
theorem xdr_Writer_Opaque_f (N : Nat) (f0 : Int × Int × Int × (List Int) → Option (Bool × Int × (List Int))) (f1 : Int × Int × (List Int) → Option (Int × (List Int))) (f2 : (List Int) × Int × (List Int) → Option (Int × (List Int))) (x) : xdr_Writer_Opaque_a N f0 f1 f2 x = fnStep Γ (xdr_Writer_Opaque_CA N f0 f1 f2) (xdr_Writer_Opaque_J N) 19 Try.f44.results.toList (xdr_Writer_Opaque_g N) xdr_Writer_Opaque_o xdr_Writer_Opaque_c x := by kernel_rfl
theorem xdr_Writer_Opaque_e (N : Nat) (x) : (xdr_Writer_Opaque_g N).F x = fnStep Γ (xdr_Writer_Opaque_C N) (xdr_Writer_Opaque_J N) 19 Try.f44.results.toList (xdr_Writer_Opaque_g N) xdr_Writer_Opaque_o xdr_Writer_Opaque_c x := by
  rw [← xdr_Writer_Opaque_CE N]
  exact Eq.trans (by kernel_rfl) (xdr_Writer_Opaque_f N (xdr_Writer_fits) (xdr_Writer_Uint_v1 N) (xdr_Writer_Fixed N) x)
theorem xdr_Writer_Opaque_y : Try.f44.body = some xdr_Writer_Opaque_c := by kernel_rfl
theorem xdr_Writer_Opaque_n : (Try.f44.name == "runtime.NumGoroutine") = false := by kernel_rfl
theorem xdr_Writer_Opaque_ok (N : Nat) : FnDoes Try.prog 44 (xdr_Writer_Opaque_g N) := fn_ok tabOK (xdr_Writer_Opaque_t N) mixedOK (J := xdr_Writer_Opaque_J N) (body := xdr_Writer_Opaque_c) Try.func44 xdr_Writer_Opaque_y xdr_Writer_Opaque_n Try.ntmps44 (jok_from xdr_Writer_Opaque_i ⟨trivial, trivial⟩) rfl rfl (le_of_ble rfl) (xdr_Writer_Opaque_e N)
noncomputable def xdr_Writer_Text_c : Code := codeOf Try.f18.body
noncomputable def xdr_Writer_Text_J (N : Nat) : Nat → Hint := fun cx => hintOf cx []
noncomputable def xdr_Writer_Text_C (N : Nat) : Nat → List GS := fun k => tabOf k [(44, [xdr_Writer_Opaque_g N])]
def xdr_Writer_Text_o : List (Shp × List Nat) := [(⟨[(0, (.tup []))], [(.sh (.one (.const (.slw 3 1))), true), (.sh (.one (.int .i64)), false), (.dead, false), (.sh (.arr (.int .u8) none), false)]⟩, [])]
noncomputable def xdr_Writer_Text_g (N : Nat) : GS := { ins := ⟨[(0, (.av (.one (.const (.ptr ⟨0, 0, 0, 0⟩))))), (1, (.av (.one .str))), (2, (.av (.one (.int .i64))))], [(some (.one (.const (.slw 2 1))), true), (some (.one (.int .i64)), false), (some (.arr (.int .u8) none), false)]⟩, lend := [.keep, .keep, .keep], outs := xdr_Writer_Text_o.map fun s => ssOf s.1, its := [.str, .int, .int, .lst (.int .u8)], ots := [[.int, .lst (.int .u8)]], F := xdr_Writer_Text N }
noncomputable def xdr_Writer_Text_CA (N : Nat) (f0 : (List Int) × Int × Int × (List Int) → Option (Int × (List Int))) : Nat → List GS := fun k => tabOf k [(44, [{ xdr_Writer_Opaque_g N with F := f0 }])]
theorem xdr_Writer_Text_CE (N : Nat) : xdr_Writer_Text_CA N (xdr_Writer_Opaque N) = xdr_Writer_Text_C N := by kernel_rfl
theorem xdr_Writer_Text_t (N : Nat) : TabC Try.prog (xdr_Writer_Text_C N) := tab_ok ⟨⟨xdr_Writer_Opaque_ok N, trivial⟩, trivial⟩
theorem xdr_Writer_Text_i : loopsOf xdr_Writer_Text_c = [] := by kernel_rfl
noncomputable def xdr_Writer_Text_a (N : Nat) (f0 : (List Int) × Int × Int × (List Int) → Option (Int × (List Int))) (x : (List UInt8) × Int × Int × (List Int)) : Option (Int × (List Int)) :=
  (Option.bind (f0 ((List.map (fun b => (b.toNat : Int)) x.1), x.2.1, x.2.2.1, x.2.2.2)) fun r2 =>
  (some (r2.1, r2.2)))
theorem xdr_Writer_Text_f (N : Nat) (f0 : (List Int) × Int × Int × (List Int) → Option (Int × (List Int))) (x) : xdr_Writer_Text_a N f0 x = fnStep Γ (xdr_Writer_Text_CA N f0) (xdr_Writer_Text_J N) 11 Try.f18.results.toList (xdr_Writer_Text_g N) xdr_Writer_Text_o xdr_Writer_Text_c x := by kernel_rfl
theorem xdr_Writer_Text_e (N : Nat) (x) : (xdr_Writer_Text_g N).F x = fnStep Γ (xdr_Writer_Text_C N) (xdr_Writer_Text_J N) 11 Try.f18.results.toList (xdr_Writer_Text_g N) xdr_Writer_Text_o xdr_Writer_Text_c x := by
  rw [← xdr_Writer_Text_CE N]
  exact Eq.trans (by kernel_rfl) (xdr_Writer_Text_f N (xdr_Writer_Opaque N) x)
theorem xdr_Writer_Text_y : Try.f18.body = some xdr_Writer_Text_c := by kernel_rfl
theorem xdr_Writer_Text_n : (Try.f18.name == "runtime.NumGoroutine") = false := by kernel_rfl
theorem xdr_Writer_Text_ok (N : Nat) : FnDoes Try.prog 18 (xdr_Writer_Text_g N) := fn_ok tabOK (xdr_Writer_Text_t N) mixedOK (J := xdr_Writer_Text_J N) (body := xdr_Writer_Text_c) Try.func18 xdr_Writer_Text_y xdr_Writer_Text_n Try.ntmps18 (jok_from xdr_Writer_Text_i trivial) rfl rfl (le_of_ble rfl) (xdr_Writer_Text_e N)
noncomputable def slices_Clone_byte_byte_c : Code := codeOf Try.f53.body
noncomputable def slices_Clone_byte_byte_J (N : Nat) : Nat → Hint := fun cx => hintOf cx []
noncomputable def slices_Clone_byte_byte_C (N : Nat) : Nat → List GS := fun k => tabOf k []
def slices_Clone_byte_byte_o : List (Shp × List Nat) := [(⟨[(0, (.av (.one (.const (.slw 0 1)))))], [(.sh (.arr (.int .u8) none), false)]⟩, [])]
noncomputable def slices_Clone_byte_byte_g (N : Nat) : GS := { ins := ⟨[(0, (.av (.one (.rsl (.int .u8)))))], []⟩, lend := [.lend (.int .u8)], outs := slices_Clone_byte_byte_o.map fun s => ssOf s.1, its := [.lst (.int .u8)], ots := [[.lst (.int .u8)]], F := slices_Clone_byte_byte }
theorem slices_Clone_byte_byte_t (N : Nat) : TabC Try.prog (slices_Clone_byte_byte_C N) := tab_ok trivial
theorem slices_Clone_byte_byte_i : loopsOf slices_Clone_byte_byte_c = [] := by kernel_rfl
theorem slices_Clone_byte_byte_e (N : Nat) (x) : (slices_Clone_byte_byte_g N).F x = fnStep Γ (slices_Clone_byte_byte_C N) (slices_Clone_byte_byte_J N) 8 Try.f53.results.toList (slices_Clone_byte_byte_g N) slices_Clone_byte_byte_o slices_Clone_byte_byte_c x := by kernel_rfl
theorem slices_Clone_byte_byte_y : Try.f53.body = some slices_Clone_byte_byte_c := by kernel_rfl
theorem slices_Clone_byte_byte_n : (Try.f53.name == "runtime.NumGoroutine") = false := by kernel_rfl
theorem slices_Clone_byte_byte_ok (N : Nat) : FnDoes Try.prog 53 (slices_Clone_byte_byte_g N) := fn_ok tabOK (slices_Clone_byte_byte_t N) mixedOK (J := slices_Clone_byte_byte_J N) (body := slices_Clone_byte_byte_c) Try.func53 slices_Clone_byte_byte_y slices_Clone_byte_byte_n Try.ntmps53 (jok_from slices_Clone_byte_byte_i trivial) rfl rfl (le_of_ble rfl) (slices_Clone_byte_byte_e N)
noncomputable def xdr_Writer_Bytes_c : Code := codeOf Try.f11.body
noncomputable def xdr_Writer_Bytes_J (N : Nat) : Nat → Hint := fun cx => hintOf cx []
noncomputable def xdr_Writer_Bytes_C (N : Nat) : Nat → List GS := fun k => tabOf k [(53, [slices_Clone_byte_byte_g N])]
def xdr_Writer_Bytes_o : List (Shp × List Nat) := [(⟨[(0, (.av (.one (.const (.slw 3 1)))))], [(.sh (.one (.const (.slw 2 1))), true), (.sh (.one (.int .i64)), false), (.sh (.arr (.int .u8) none), false), (.sh (.arr (.int .u8) none), false)]⟩, [])]
noncomputable def xdr_Writer_Bytes_g (N : Nat) : GS := { ins := ⟨[(0, (.av (.one (.const (.ptr ⟨0, 0, 0, 0⟩)))))], [(some (.one (.const (.slw 2 1))), true), (some (.one (.int .i64)), false), (some (.arr (.int .u8) none), false)]⟩, lend := [.keep], outs := xdr_Writer_Bytes_o.map fun s => ssOf s.1, its := [.int, .lst (.int .u8)], ots := [[.int, .lst (.int .u8), .lst (.int .u8)]], F := xdr_Writer_Bytes }
noncomputable def xdr_Writer_Bytes_CA (N : Nat) (f0 : (List Int) → Option ((List Int))) : Nat → List GS := fun k => tabOf k [(53, [{ slices_Clone_byte_byte_g N with F := f0 }])]
theorem xdr_Writer_Bytes_CE (N : Nat) : xdr_Writer_Bytes_CA N (slices_Clone_byte_byte) = xdr_Writer_Bytes_C N := by kernel_rfl
theorem xdr_Writer_Bytes_t (N : Nat) : TabC Try.prog (xdr_Writer_Bytes_C N) := tab_ok ⟨⟨slices_Clone_byte_byte_ok N, trivial⟩, trivial⟩
theorem xdr_Writer_Bytes_i : loopsOf xdr_Writer_Bytes_c = [] := by kernel_rfl
noncomputable def xdr_Writer_Bytes_a (N : Nat) (f0 : (List Int) → Option ((List Int))) (x : Int × (List Int)) : Option (Int × (List Int) × (List Int)) :=
  (Option.bind (f0 x.2) fun r1 =>
  (some (x.1, x.2, r1)))
theorem xdr_Writer_Bytes_f (N : Nat) (f0 : (List Int) → Option ((List Int))) (x) : xdr_Writer_Bytes_a N f0 x = fnStep Γ (xdr_Writer_Bytes_CA N f0) (xdr_Writer_Bytes_J N) 10 Try.f11.results.toList (xdr_Writer_Bytes_g N) xdr_Writer_Bytes_o xdr_Writer_Bytes_c x := by kernel_rfl
theorem xdr_Writer_Bytes_e (N : Nat) (x) : (xdr_Writer_Bytes_g N).F x = fnStep Γ (xdr_Writer_Bytes_C N) (xdr_Writer_Bytes_J N) 10 Try.f11.results.toList (xdr_Writer_Bytes_g N) xdr_Writer_Bytes_o xdr_Writer_Bytes_c x := by
  rw [← xdr_Writer_Bytes_CE N]
  exact Eq.trans (by kernel_rfl) (xdr_Writer_Bytes_f N (slices_Clone_byte_byte) x)
theorem xdr_Writer_Bytes_y : Try.f11.body = some xdr_Writer_Bytes_c := by kernel_rfl
theorem xdr_Writer_Bytes_n : (Try.f11.name == "runtime.NumGoroutine") = false := by kernel_rfl
theorem xdr_Writer_Bytes_ok (N : Nat) : FnDoes Try.prog 11 (xdr_Writer_Bytes_g N) := fn_ok tabOK (xdr_Writer_Bytes_t N) mixedOK (J := xdr_Writer_Bytes_J N) (body := xdr_Writer_Bytes_c) Try.func11 xdr_Writer_Bytes_y xdr_Writer_Bytes_n Try.ntmps11 (jok_from xdr_Writer_Bytes_i trivial) rfl rfl (le_of_ble rfl) (xdr_Writer_Bytes_e N)
noncomputable def slices_Clone_byte_byte_v1_c : Code := codeOf Try.f53.body
noncomputable def slices_Clone_byte_byte_v1_J (N : Nat) : Nat → Hint := fun cx => hintOf cx []
noncomputable def slices_Clone_byte_byte_v1_C (N : Nat) : Nat → List GS := fun k => tabOf k []
def slices_Clone_byte_byte_v1_o : List (Shp × List Nat) := [(⟨[(0, (.av (.one (.const (.slw 0 1)))))], [(.sh (.arr (.int .u8) none), false)]⟩, [])]
noncomputable def slices_Clone_byte_byte_v1_g (N : Nat) : GS := { ins := ⟨[(0, (.av (.one (.rsl (.int .u8)))))], []⟩, lend := [.keep], outs := slices_Clone_byte_byte_v1_o.map fun s => ssOf s.1, its := [.lst (.int .u8)], ots := [[.lst (.int .u8)]], F := slices_Clone_byte_byte_v1 }
theorem slices_Clone_byte_byte_v1_t (N : Nat) : TabC Try.prog (slices_Clone_byte_byte_v1_C N) := tab_ok trivial
theorem slices_Clone_byte_byte_v1_i : loopsOf slices_Clone_byte_byte_v1_c = [] := by kernel_rfl
theorem slices_Clone_byte_byte_v1_e (N : Nat) (x) : (slices_Clone_byte_byte_v1_g N).F x = fnStep Γ (slices_Clone_byte_byte_v1_C N) (slices_Clone_byte_byte_v1_J N) 8 Try.f53.results.toList (slices_Clone_byte_byte_v1_g N) slices_Clone_byte_byte_v1_o slices_Clone_byte_byte_v1_c x := by kernel_rfl
theorem slices_Clone_byte_byte_v1_y : Try.f53.body = some slices_Clone_byte_byte_v1_c := by kernel_rfl
theorem slices_Clone_byte_byte_v1_n : (Try.f53.name == "runtime.NumGoroutine") = false := by kernel_rfl
theorem slices_Clone_byte_byte_v1_ok (N : Nat) : FnDoes Try.prog 53 (slices_Clone_byte_byte_v1_g N) := fn_ok tabOK (slices_Clone_byte_byte_v1_t N) mixedOK (J := slices_Clone_byte_byte_v1_J N) (body := slices_Clone_byte_byte_v1_c) Try.func53 slices_Clone_byte_byte_v1_y slices_Clone_byte_byte_v1_n Try.ntmps53 (jok_from slices_Clone_byte_byte_v1_i trivial) rfl rfl (le_of_ble rfl) (slices_Clone_byte_byte_v1_e N)
noncomputable def xdr_NewReader_c : Code := codeOf Try.f14.body
noncomputable def xdr_NewReader_J (N : Nat) : Nat → Hint := fun cx => hintOf cx []
noncomputable def xdr_NewReader_C (N : Nat) : Nat → List GS := fun k => tabOf k [(53, [slices_Clone_byte_byte_v1_g N])]
def xdr_NewReader_o : List (Shp × List Nat) := [(⟨[(0, (.av (.one (.const (.ptr ⟨0, 0, 0, 0⟩)))))], [(.sh (.one (.const (.slw 4 1))), true), (.sh (.one (.const (.int .i64 (0 : Int)))), true), (.sh (.one (.const (.int .i64 (0 : Int)))), true), (.sh (.one (.const (.int .i64 (0 : Int)))), false), (.sh (.arr (.int .u8) none), false)]⟩, [])]
noncomputable def xdr_NewReader_g (N : Nat) : GS := { ins := ⟨[(0, (.av (.one (.rsl (.int .u8)))))], []⟩, lend := [.lend (.int .u8)], outs := xdr_NewReader_o.map fun s => ssOf s.1, its := [.lst (.int .u8)], ots := [[.lst (.int .u8)]], F := xdr_NewReader }
noncomputable def xdr_NewReader_CA (N : Nat) (f0 : (List Int) → Option ((List Int))) : Nat → List GS := fun k => tabOf k [(53, [{ slices_Clone_byte_byte_v1_g N with F := f0 }])]
theorem xdr_NewReader_CE (N : Nat) : xdr_NewReader_CA N (slices_Clone_byte_byte_v1) = xdr_NewReader_C N := by kernel_rfl
theorem xdr_NewReader_t (N : Nat) : TabC Try.prog (xdr_NewReader_C N) := tab_ok ⟨⟨slices_Clone_byte_byte_v1_ok N, trivial⟩, trivial⟩
theorem xdr_NewReader_i : loopsOf xdr_NewReader_c = [] := by kernel_rfl
noncomputable def xdr_NewReader_a (N : Nat) (f0 : (List Int) → Option ((List Int))) (x : (List Int)) : Option ((List Int)) :=
  (Option.bind (f0 x) fun r1 =>
  (some r1))
theorem xdr_NewReader_f (N : Nat) (f0 : (List Int) → Option ((List Int))) (x) : xdr_NewReader_a N f0 x = fnStep Γ (xdr_NewReader_CA N f0) (xdr_NewReader_J N) 7 Try.f14.results.toList (xdr_NewReader_g N) xdr_NewReader_o xdr_NewReader_c x := by kernel_rfl
theorem xdr_NewReader_e (N : Nat) (x) : (xdr_NewReader_g N).F x = fnStep Γ (xdr_NewReader_C N) (xdr_NewReader_J N) 7 Try.f14.results.toList (xdr_NewReader_g N) xdr_NewReader_o xdr_NewReader_c x := by
  rw [← xdr_NewReader_CE N]
  exact Eq.trans (by kernel_rfl) (xdr_NewReader_f N (slices_Clone_byte_byte_v1) x)
theorem xdr_NewReader_y : Try.f14.body = some xdr_NewReader_c := by kernel_rfl
theorem xdr_NewReader_n : (Try.f14.name == "runtime.NumGoroutine") = false := by kernel_rfl
theorem xdr_NewReader_ok (N : Nat) : FnDoes Try.prog 14 (xdr_NewReader_g N) := fn_ok tabOK (xdr_NewReader_t N) mixedOK (J := xdr_NewReader_J N) (body := xdr_NewReader_c) Try.func14 xdr_NewReader_y xdr_NewReader_n Try.ntmps14 (jok_from xdr_NewReader_i trivial) rfl rfl (le_of_ble rfl) (xdr_NewReader_e N)
noncomputable def xdr_Reader_At_c : Code := codeOf Try.f26.body
noncomputable def xdr_Reader_At_J (N : Nat) : Nat → Hint := fun cx => hintOf cx []
noncomputable def xdr_Reader_At_C (N : Nat) : Nat → List GS := fun k => tabOf k []
def xdr_Reader_At_o : List (Shp × List Nat) := [(⟨[(0, (.av (.one (.int .i64))))], [(.sh (.one (.const (.slw 4 1))), true), (.sh (.one (.int .i64)), true), (.sh (.one (.int .i64)), true), (.sh (.one (.int .i64)), false), (.sh (.arr (.int .u8) none), false)]⟩, [])]
noncomputable def xdr_Reader_At_g (N : Nat) : GS := { ins := ⟨[(0, (.av (.one (.const (.ptr ⟨0, 0, 0, 0⟩)))))], [(some (.one (.const (.slw 4 1))), true), (some (.one (.int .i64)), true), (some (.one (.int .i64)), true), (some (.one (.int .i64)), false), (some (.arr (.int .u8) none), false)]⟩, lend := [.keep], outs := xdr_Reader_At_o.map fun s => ssOf s.1, its := [.int, .int, .int, .lst (.int .u8)], ots := [[.int, .int, .int, .int, .lst (.int .u8)]], F := xdr_Reader_At }
theorem xdr_Reader_At_t (N : Nat) : TabC Try.prog (xdr_Reader_At_C N) := tab_ok trivial
theorem xdr_Reader_At_i : loopsOf xdr_Reader_At_c = [] := by kernel_rfl
theorem xdr_Reader_At_e (N : Nat) (x) : (xdr_Reader_At_g N).F x = fnStep Γ (xdr_Reader_At_C N) (xdr_Reader_At_J N) 9 Try.f26.results.toList (xdr_Reader_At_g N) xdr_Reader_At_o xdr_Reader_At_c x := by kernel_rfl
theorem xdr_Reader_At_y : Try.f26.body = some xdr_Reader_At_c := by kernel_rfl
theorem xdr_Reader_At_n : (Try.f26.name == "runtime.NumGoroutine") = false := by kernel_rfl
theorem xdr_Reader_At_ok (N : Nat) : FnDoes Try.prog 26 (xdr_Reader_At_g N) := fn_ok tabOK (xdr_Reader_At_t N) mixedOK (J := xdr_Reader_At_J N) (body := xdr_Reader_At_c) Try.func26 xdr_Reader_At_y xdr_Reader_At_n Try.ntmps26 (jok_from xdr_Reader_At_i trivial) rfl rfl (le_of_ble rfl) (xdr_Reader_At_e N)
noncomputable def xdr_Reader_bad_c : Code := codeOf Try.f56.body
noncomputable def xdr_Reader_bad_J (N : Nat) : Nat → Hint := fun cx => hintOf cx [(0, { reg := fun k => assoc0 k [], cnd := fun k => assoc0 k [], loop := fun k => assoc0 k [], nil := fun k => assoc0 k [], unr := fun k => assocN k [], blk := fun k => assoc0 k [] })]
noncomputable def xdr_Reader_bad_C (N : Nat) : Nat → List GS := fun k => tabOf k []
def xdr_Reader_bad_o : List (Shp × List Nat) := [(⟨[(0, (.av (.one .bool)))], [(.sh (.one (.const (.slw 4 1))), true), (.sh (.one (.int .i64)), true), (.sh (.one (.int .i64)), true), (.sh (.one (.int .i64)), false), (.sh (.arr (.int .u8) none), false)]⟩, [])]
noncomputable def xdr_Reader_bad_g (N : Nat) : GS := { ins := ⟨[(0, (.av (.one (.const (.ptr ⟨0, 0, 0, 0⟩)))))], [(some (.one (.const (.slw 4 1))), true), (some (.one (.int .i64)), true), (some (.one (.int .i64)), true), (some (.one (.int .i64)), false), (some (.arr (.int .u8) none), false)]⟩, lend := [.keep], outs := xdr_Reader_bad_o.map fun s => ssOf s.1, its := [.int, .int, .int, .lst (.int .u8)], ots := [[.bool, .int, .int, .int, .lst (.int .u8)]], F := xdr_Reader_bad }
theorem xdr_Reader_bad_t (N : Nat) : TabC Try.prog (xdr_Reader_bad_C N) := tab_ok trivial
theorem xdr_Reader_bad_i : loopsOf xdr_Reader_bad_c = [] := by kernel_rfl
theorem xdr_Reader_bad_e (N : Nat) (x) : (xdr_Reader_bad_g N).F x = fnStep Γ (xdr_Reader_bad_C N) (xdr_Reader_bad_J N) 12 Try.f56.results.toList (xdr_Reader_bad_g N) xdr_Reader_bad_o xdr_Reader_bad_c x := by kernel_rfl
theorem xdr_Reader_bad_y : Try.f56.body = some xdr_Reader_bad_c := by kernel_rfl
theorem xdr_Reader_bad_n : (Try.f56.name == "runtime.NumGoroutine") = false := by kernel_rfl
theorem xdr_Reader_bad_ok (N : Nat) : FnDoes Try.prog 56 (xdr_Reader_bad_g N) := fn_ok tabOK (xdr_Reader_bad_t N) mixedOK (J := xdr_Reader_bad_J N) (body := xdr_Reader_bad_c) Try.func56 xdr_Reader_bad_y xdr_Reader_bad_n Try.ntmps56 (jok_from xdr_Reader_bad_i ⟨trivial, trivial⟩) rfl rfl (le_of_ble rfl) (xdr_Reader_bad_e N)
noncomputable def xdr_Reader_fails_c : Code := codeOf Try.f59.body
noncomputable def xdr_Reader_fails_J (N : Nat) : Nat → Hint := fun cx => hintOf cx [(0, { reg := fun k => assoc0 k [], cnd := fun k => assoc0 k [(8, ⟨[], [1, 2, 3], [(.normal, ⟨[], [(.keep, true), (.sh (.one (.int .i64)), true), (.sh (.one (.int .i64)), true), (.sh (.one (.int .i64)), false), (.keep, false)]⟩)], [[.int, .int, .int]]⟩)], loop := fun k => assoc0 k [], nil := fun k => assoc0 k [], unr := fun k => assocN k [], blk := fun k => assoc0 k [] })]
noncomputable def xdr_Reader_fails_C (N : Nat) : Nat → List GS := fun k => tabOf k [(56, [xdr_Reader_bad_g N])]
def xdr_Reader_fails_o : List (Shp × List Nat) := [(⟨[(0, (.tup []))], [(.sh (.one (.const (.slw 4 1))), true), (.sh (.one (.int .i64)), true), (.sh (.one (.int .i64)), true), (.sh (.one (.int .i64)), false), (.sh (.arr (.int .u8) none), false)]⟩, [])]
noncomputable def xdr_Reader_fails_g (N : Nat) : GS := { ins := ⟨[(0, (.av (.one (.const (.ptr ⟨0, 0, 0, 0⟩))))), (1, (.av (.one (.int .i64)))), (2, (.av (.one (.int .i64))))], [(some (.one (.const (.slw 4 1))), true), (some (.one (.int .i64)), true), (some (.one (.int .i64)), true), (some (.one (.int .i64)), false), (some (.arr (.int .u8) none), false)]⟩, lend := [.keep, .keep, .keep], outs := xdr_Reader_fails_o.map fun s => ssOf s.1, its := [.int, .int, .int, .int, .int, .lst (.int .u8)], ots := [[.int, .int, .int, .lst (.int .u8)]], F := xdr_Reader_fails }
noncomputable def xdr_Reader_fails_CA (N : Nat) (f0 : Int × Int × Int × (List Int) → Option (Bool × Int × Int × Int × (List Int))) : Nat → List GS := fun k => tabOf k [(56, [{ xdr_Reader_bad_g N with F := f0 }])]
theorem xdr_Reader_fails_CE (N : Nat) : xdr_Reader_fails_CA N (xdr_Reader_bad) = xdr_Reader_fails_C N := by kernel_rfl
theorem xdr_Reader_fails_t (N : Nat) : TabC Try.prog (xdr_Reader_fails_C N) := tab_ok ⟨⟨xdr_Reader_bad_ok N, trivial⟩, trivial⟩
theorem xdr_Reader_fails_i : loopsOf xdr_Reader_fails_c = [] := by kernel_rfl
noncomputable def xdr_Reader_fails_a (N : Nat) (f0 : Int × Int × Int × (List Int) → Option (Bool × Int × Int × Int × (List Int))) (x : Int × Int × Int × Int × Int × (List Int)) : Option (Int × Int × Int × (List Int)) :=
  (Option.bind (f0 (x.2.2.1, x.2.2.2.1, x.2.2.2.2.1, x.2.2.2.2.2)) fun r1 =>
  (Option.bind
  (cond (!r1.1)
  (some (x.2.1, x.1, x.2.1))
  (some (r1.2.1, r1.2.2.1, r1.2.2.2.1)))
  fun r3 =>
  (some (r3.1, r3.2.1, r3.2.2, r1.2.2.2.2))))
theorem xdr_Reader_fails_f (N : Nat) (f0 : Int × Int × Int × (List Int) → Option (Bool × Int × Int × Int × (List Int))) (x) : xdr_Reader_fails_a N f0 x = fnStep Γ (xdr_Reader_fails_CA N f0) (xdr_Reader_fails_J N) 21 Try.f59.results.toList (xdr_Reader_fails_g N) xdr_Reader_fails_o xdr_Reader_fails_c x := by kernel_rfl
theorem xdr_Reader_fails_e (N : Nat) (x) : (xdr_Reader_fails_g N).F x = fnStep Γ (xdr_Reader_fails_C N) (xdr_Reader_fails_J N) 21 Try.f59.results.toList (xdr_Reader_fails_g N) xdr_Reader_fails_o xdr_Reader_fails_c x := by
  rw [← xdr_Reader_fails_CE N]
  exact Eq.trans (by kernel_rfl) (xdr_Reader_fails_f N (xdr_Reader_bad) x)
theorem xdr_Reader_fails_y : Try.f59.body = some xdr_Reader_fails_c := by kernel_rfl
theorem xdr_Reader_fails_n : (Try.f59.name == "runtime.NumGoroutine") = false := by kernel_rfl
theorem xdr_Reader_fails_ok (N : Nat) : FnDoes Try.prog 59 (xdr_Reader_fails_g N) := fn_ok tabOK (xdr_Reader_fails_t N) mixedOK (J := xdr_Reader_fails_J N) (body := xdr_Reader_fails_c) Try.func59 xdr_Reader_fails_y xdr_Reader_fails_n Try.ntmps59 (jok_from xdr_Reader_fails_i ⟨trivial, trivial⟩) rfl rfl (le_of_ble rfl) (xdr_Reader_fails_e N)
noncomputable def xdr_Reader_take_c : Code := codeOf Try.f62.body
noncomputable def xdr_Reader_take_J (N : Nat) : Nat → Hint := fun cx => hintOf cx []
noncomputable def xdr_Reader_take_C (N : Nat) : Nat → List GS := fun k => tabOf k [(56, [xdr_Reader_bad_g N]), (59, [xdr_Reader_fails_g N])]
def xdr_Reader_take_o : List (Shp × List Nat) := [(⟨[(0, (.av (.one (.const .nils))))], [(.sh (.one (.const (.slw 4 1))), true), (.sh (.one (.int .i64)), true), (.sh (.one (.int .i64)), true), (.sh (.one (.int .i64)), false), (.sh (.arr (.int .u8) none), false)]⟩, []), (⟨[(0, (.av (.one (.sl 4 1))))], [(.sh (.one (.const (.slw 4 1))), true), (.sh (.one (.int .i64)), true), (.sh (.one (.int .i64)), true), (.sh (.one (.int .i64)), false), (.sh (.arr (.int .u8) none), false)]⟩, [])]
noncomputable def xdr_Reader_take_g (N : Nat) : GS := { ins := ⟨[(0, (.av (.one (.const (.ptr ⟨0, 0, 0, 0⟩))))), (1, (.av (.one (.int .i64)))), (2, (.av (.one (.int .i64))))], [(some (.one (.const (.slw 4 1))), true), (some (.one (.int .i64)), true), (some (.one (.int .i64)), true), (some (.one (.int .i64)), false), (some (.arr (.int .u8) none), false)]⟩, lend := [.keep, .keep, .keep], outs := xdr_Reader_take_o.map fun s => ssOf s.1, its := [.int, .int, .int, .int, .int, .lst (.int .u8)], ots := [[.int, .int, .int, .lst (.int .u8)], [.nat, .nat, .int, .int, .int, .lst (.int .u8)]], F := xdr_Reader_take }
noncomputable def xdr_Reader_take_CA (N : Nat) (f0 : Int × Int × Int × (List Int) → Option (Bool × Int × Int × Int × (List Int))) (f1 : Int × Int × Int × Int × Int × (List Int) → Option (Int × Int × Int × (List Int))) : Nat → List GS := fun k => tabOf k [(56, [{ xdr_Reader_bad_g N with F := f0 }]), (59, [{ xdr_Reader_fails_g N with F := f1 }])]
theorem xdr_Reader_take_CE (N : Nat) : xdr_Reader_take_CA N (xdr_Reader_bad) (xdr_Reader_fails) = xdr_Reader_take_C N := by kernel_rfl
theorem xdr_Reader_take_t (N : Nat) : TabC Try.prog (xdr_Reader_take_C N) := tab_ok ⟨⟨xdr_Reader_bad_ok N, trivial⟩, ⟨xdr_Reader_fails_ok N, trivial⟩, trivial⟩
theorem xdr_Reader_take_i : loopsOf xdr_Reader_take_c = [] := by kernel_rfl
noncomputable def xdr_Reader_take_a (N : Nat) (f0 : Int × Int × Int × (List Int) → Option (Bool × Int × Int × Int × (List Int))) (f1 : Int × Int × Int × Int × Int × (List Int) → Option (Int × Int × Int × (List Int))) (x : Int × Int × Int × Int × Int × (List Int)) : Option ((Int × Int × Int × (List Int)) ⊕ (Nat × Nat × Int × Int × Int × (List Int))) :=
  (Option.bind (f0 (x.2.2.1, x.2.2.2.1, x.2.2.2.2.1, x.2.2.2.2.2)) fun r1 =>
  (cond r1.1
  (some (.inl (r1.2.1, r1.2.2.1, r1.2.2.2.1, r1.2.2.2.2)))
  (cond (decide ((wrapF .i64 ((((List.length r1.2.2.2.2) : Nat) : Int) - r1.2.1)) < x.1))
  (Option.bind (f1 ((3 : Int), x.2.1, r1.2.1, r1.2.2.1, r1.2.2.2.1, r1.2.2.2.2)) fun r5 =>
  (some (.inl (r5.1, r5.2.1, r5.2.2.1, r5.2.2.2))))
  (let v6 : Int := (wrapF .i64 (r1.2.1 + x.1))
  (cond (((decide ((0 : Int) ≤ r1.2.1)) && (decide (r1.2.1 ≤ v6))) && (decide (v6 ≤ (((List.length r1.2.2.2.2) : Nat) : Int))))
  ((some (.inr (((Int.toNat r1.2.1), ((Int.toNat v6) - (Int.toNat r1.2.1)), (wrapF .i64 (r1.2.1 + x.1)), r1.2.2.1, r1.2.2.2.1, r1.2.2.2.2)))))
  none)))))
theorem xdr_Reader_take_f (N : Nat) (f0 : Int × Int × Int × (List Int) → Option (Bool × Int × Int × Int × (List Int))) (f1 : Int × Int × Int × Int × Int × (List Int) → Option (Int × Int × Int × (List Int))) (x) : xdr_Reader_take_a N f0 f1 x = fnStep Γ (xdr_Reader_take_CA N f0 f1) (xdr_Reader_take_J N) 51 Try.f62.results.toList (xdr_Reader_take_g N) xdr_Reader_take_o xdr_Reader_take_c x := by kernel_rfl
theorem xdr_Reader_take_e (N : Nat) (x) : (xdr_Reader_take_g N).F x = fnStep Γ (xdr_Reader_take_C N) (xdr_Reader_take_J N) 51 Try.f62.results.toList (xdr_Reader_take_g N) xdr_Reader_take_o xdr_Reader_take_c x := by
  rw [← xdr_Reader_take_CE N]
  exact Eq.trans (by kernel_rfl) (xdr_Reader_take_f N (xdr_Reader_bad) (xdr_Reader_fails) x)
theorem xdr_Reader_take_y : Try.f62.body = some xdr_Reader_take_c := by kernel_rfl
theorem xdr_Reader_take_n : (Try.f62.name == "runtime.NumGoroutine") = false := by kernel_rfl
theorem xdr_Reader_take_ok (N : Nat) : FnDoes Try.prog 62 (xdr_Reader_take_g N) := fn_ok tabOK (xdr_Reader_take_t N) mixedOK (J := xdr_Reader_take_J N) (body := xdr_Reader_take_c) Try.func62 xdr_Reader_take_y xdr_Reader_take_n Try.ntmps62 (jok_from xdr_Reader_take_i trivial) rfl rfl (le_of_ble rfl) (xdr_Reader_take_e N)
noncomputable def octet_Get_c : Code := codeOf Try.f63.body
noncomputable def octet_Get_c0 : Code := codeOf (getLoop 0 octet_Get_c)
def octet_Get_d0 : LD := { ins := ⟨[(3, (.av (.one (.int .u64)))), (6, (.av (.one (.rsl (.int .u8))))), (7, (.av (.one (.int .i64)))), (8, (.av (.one (.int .i64))))], []⟩, mov := [], wr := [], outs := [(.exit 0, ⟨[(3, (.av (.one (.int .u64))))], []⟩)], its := [.int, .lst (.int .u8), .int, .int], ots := [[.int]] }
noncomputable def octet_Get_J (N : Nat) : Nat → Hint := fun cx => hintOf cx [(0, { reg := fun k => assoc0 k [], cnd := fun k => assoc0 k [], loop := fun k => assoc0 k [(0, ⟨octet_Get_d0, loopF (octet_Get_b0 N) N⟩)], nil := fun k => assoc0 k [], unr := fun k => assocN k [], blk := fun k => assoc0 k [] })]
noncomputable def octet_Get_C (N : Nat) : Nat → List GS := fun k => tabOf k []
def octet_Get_o : List (Shp × List Nat) := [(⟨[(0, (.av (.one (.int .u64))))], []⟩, [])]
noncomputable def octet_Get_g (N : Nat) : GS := { ins := ⟨[(0, (.av (.one (.rsl (.int .u8)))))], []⟩, lend := [.lend (.int .u8)], outs := octet_Get_o.map fun s => ssOf s.1, its := [.lst (.int .u8)], ots := [[.int]], F := octet_Get N }
theorem octet_Get_t (N : Nat) : TabC Try.prog (octet_Get_C N) := tab_ok trivial
theorem octet_Get_i0 : loopsOf octet_Get_c0 = [] := by kernel_rfl
theorem octet_Get_e0 (N : Nat) (next) (x) : octet_Get_b0 N next x = loopStep Γ (octet_Get_C N) (octet_Get_J N) 0 19 octet_Get_d0 octet_Get_c0 next x := by kernel_rfl
theorem octet_Get_k0 (N : Nat) : LoopOK Try.prog 19 octet_Get_c0 ⟨octet_Get_d0, loopF (octet_Get_b0 N) N⟩ := loop_ok tabOK (octet_Get_t N) mixedOK (J := octet_Get_J N) (cx := 0) (body := octet_Get_c0) (nt := 19) (l := octet_Get_d0) (b := octet_Get_b0 N) (jok_from octet_Get_i0 ⟨trivial, trivial⟩) (octet_Get_e0 N) N
theorem octet_Get_i : loopsOf octet_Get_c = [(0, octet_Get_c0)] := by kernel_rfl
theorem octet_Get_e (N : Nat) (x) : (octet_Get_g N).F x = fnStep Γ (octet_Get_C N) (octet_Get_J N) 19 Try.f63.results.toList (octet_Get_g N) octet_Get_o octet_Get_c x := by kernel_rfl
theorem octet_Get_y : Try.f63.body = some octet_Get_c := by kernel_rfl
theorem octet_Get_n : (Try.f63.name == "runtime.NumGoroutine") = false := by kernel_rfl
theorem octet_Get_ok (N : Nat) : FnDoes Try.prog 63 (octet_Get_g N) := fn_ok tabOK (octet_Get_t N) mixedOK (J := octet_Get_J N) (body := octet_Get_c) Try.func63 octet_Get_y octet_Get_n Try.ntmps63 (jok_from octet_Get_i ⟨⟨.inr ⟨_, rfl, octet_Get_k0 N⟩, trivial⟩, trivial⟩) rfl rfl (le_of_ble rfl) (octet_Get_e N)
noncomputable def xdr_Reader_Uint_c : Code := codeOf Try.f34.body
noncomputable def xdr_Reader_Uint_J (N : Nat) : Nat → Hint := fun cx => hintOf cx []
noncomputable def xdr_Reader_Uint_C (N : Nat) : Nat → List GS := fun k => tabOf k [(26, [xdr_Reader_At_g N]), (62, [xdr_Reader_take_g N]), (63, [octet_Get_g N])]
def xdr_Reader_Uint_o : List (Shp × List Nat) := [(⟨[(0, (.av (.one (.int .u32))))], [(.sh (.one (.const (.slw 4 1))), true), (.sh (.one (.int .i64)), true), (.sh (.one (.int .i64)), true), (.sh (.one (.int .i64)), false), (.sh (.arr (.int .u8) none), false)]⟩, [])]
noncomputable def xdr_Reader_Uint_g (N : Nat) : GS := { ins := ⟨[(0, (.av (.one (.const (.ptr ⟨0, 0, 0, 0⟩)))))], [(some (.one (.const (.slw 4 1))), true), (some (.one (.int .i64)), true), (some (.one (.int .i64)), true), (some (.one (.int .i64)), false), (some (.arr (.int .u8) none), false)]⟩, lend := [.keep], outs := xdr_Reader_Uint_o.map fun s => ssOf s.1, its := [.int, .int, .int, .lst (.int .u8)], ots := [[.int, .int, .int, .int, .lst (.int .u8)]], F := xdr_Reader_Uint N }
noncomputable def xdr_Reader_Uint_CA (N : Nat) (f0 : Int × Int × Int × (List Int) → Option (Int × Int × Int × Int × (List Int))) (f1 : Int × Int × Int × Int × Int × (List Int) → Option ((Int × Int × Int × (List Int)) ⊕ (Nat × Nat × Int × Int × Int × (List Int)))) (f2 : (List Int) → Option (Int)) : Nat → List GS := fun k => tabOf k [(26, [{ xdr_Reader_At_g N with F := f0 }]), (62, [{ xdr_Reader_take_g N with F := f1 }]), (63, [{ octet_Get_g N with F := f2 }])]
theorem xdr_Reader_Uint_CE (N : Nat) : xdr_Reader_Uint_CA N (xdr_Reader_At) (xdr_Reader_take) (octet_Get N) = xdr_Reader_Uint_C N := by kernel_rfl
theorem xdr_Reader_Uint_t (N : Nat) : TabC Try.prog (xdr_Reader_Uint_C N) := tab_ok ⟨⟨xdr_Reader_At_ok N, trivial⟩, ⟨xdr_Reader_take_ok N, trivial⟩, ⟨octet_Get_ok N, trivial⟩, trivial⟩
theorem xdr_Reader_Uint_i : loopsOf xdr_Reader_Uint_c = [] := by kernel_rfl
noncomputable def xdr_Reader_Uint_a (N : Nat) (f0 : Int × Int × Int × (List Int) → Option (Int × Int × Int × Int × (List Int))) (f1 : Int × Int × Int × Int × Int × (List Int) → Option ((Int × Int × Int × (List Int)) ⊕ (Nat × Nat × Int × Int × Int × (List Int)))) (f2 : (List Int) → Option (Int)) (x : Int × Int × Int × (List Int)) : Option (Int × Int × Int × Int × (List Int)) :=
  (Option.bind (f0 (x.1, x.2.1, x.2.2.1, x.2.2.2)) fun r1 =>
  (Option.bind (f1 ((4 : Int), r1.1, r1.2.1, r1.2.2.1, r1.2.2.2.1, r1.2.2.2.2)) fun r2 =>
  (match r2 with
  | .inl y3 =>
  (some ((0 : Int), y3.1, y3.2.1, y3.2.2.1, y3.2.2.2))
  | .inr z4 =>
  (agreeC (decide (z4.2.1 = 0)) false
  (some ((0 : Int), z4.2.2.1, z4.2.2.2.1, z4.2.2.2.2.1, z4.2.2.2.2.2))
  (cond (decide ((4 : Int) ≤ ((z4.2.1 : Nat) : Int)))
  ((let v5 : Nat := (0 + z4.1)
  (cond (cond (decide ((v5 + 4) ≤ (List.length z4.2.2.2.2.2))) true false)
  (Option.bind (f2 (List.take 4 (List.drop v5 z4.2.2.2.2.2))) fun r6 =>
  (some ((wrapF .u32 r6), z4.2.2.1, z4.2.2.2.1, z4.2.2.2.2.1, z4.2.2.2.2.2)))
  none)))
  none)))))
theorem xdr_Reader_Uint_f (N : Nat) (f0 : Int × Int × Int × (List Int) → Option (Int × Int × Int × Int × (List Int))) (f1 : Int × Int × Int × Int × Int × (List Int) → Option ((Int × Int × Int × (List Int)) ⊕ (Nat × Nat × Int × Int × Int × (List Int)))) (f2 : (List Int) → Option (Int)) (x) : xdr_Reader_Uint_a N f0 f1 f2 x = fnStep Γ (xdr_Reader_Uint_CA N f0 f1 f2) (xdr_Reader_Uint_J N) 14 Try.f34.results.toList (xdr_Reader_Uint_g N) xdr_Reader_Uint_o xdr_Reader_Uint_c x := by kernel_rfl
theorem xdr_Reader_Uint_e (N : Nat) (x) : (xdr_Reader_Uint_g N).F x = fnStep Γ (xdr_Reader_Uint_C N) (xdr_Reader_Uint_J N) 14 Try.f34.results.toList (xdr_Reader_Uint_g N) xdr_Reader_Uint_o xdr_Reader_Uint_c x := by
  rw [← xdr_Reader_Uint_CE N]
  exact Eq.trans (by kernel_rfl) (xdr_Reader_Uint_f N (xdr_Reader_At) (xdr_Reader_take) (octet_Get N) x)
theorem xdr_Reader_Uint_y : Try.f34.body = some xdr_Reader_Uint_c := by kernel_rfl
theorem xdr_Reader_Uint_n : (Try.f34.name == "runtime.NumGoroutine") = false := by kernel_rfl
theorem xdr_Reader_Uint_ok (N : Nat) : FnDoes Try.prog 34 (xdr_Reader_Uint_g N) := fn_ok tabOK (xdr_Reader_Uint_t N) mixedOK (J := xdr_Reader_Uint_J N) (body := xdr_Reader_Uint_c) Try.func34 xdr_Reader_Uint_y xdr_Reader_Uint_n Try.ntmps34 (jok_from xdr_Reader_Uint_i trivial) rfl rfl (le_of_ble rfl) (xdr_Reader_Uint_e N)
noncomputable def xdr_Reader_length_c : Code := codeOf Try.f55.body
noncomputable def xdr_Reader_length_J (N : Nat) : Nat → Hint := fun cx => hintOf cx [(0, { reg := fun k => assoc0 k [(3, ⟨⟨[(19, (.av (.one .bool)))], [(.sh (.one (.const (.slw 4 1))), true), (.sh (.one (.int .i64)), true), (.sh (.one (.int .i64)), true), (.sh (.one (.int .i64)), false), (.sh (.arr (.int .u8) none), false)]⟩, [], [0, 1, 2, 3, 4], [.bool, .int, .int, .int, .lst (.int .u8)]⟩)], cnd := fun k => assoc0 k [], loop := fun k => assoc0 k [], nil := fun k => assoc0 k [], unr := fun k => assocN k [], blk := fun k => assoc0 k [] })]
noncomputable def xdr_Reader_length_C (N : Nat) : Nat → List GS := fun k => tabOf k [(26, [xdr_Reader_At_g N]), (34, [xdr_Reader_Uint_g N]), (56, [xdr_Reader_bad_g N]), (59, [xdr_Reader_fails_g N])]
def xdr_Reader_length_o : List (Shp × List Nat) := [(⟨[(0, (.av (.one (.int .i64))))], [(.sh (.one (.const (.slw 4 1))), true), (.sh (.one (.int .i64)), true), (.sh (.one (.int .i64)), true), (.sh (.one (.int .i64)), false), (.sh (.arr (.int .u8) none), false)]⟩, [])]
noncomputable def xdr_Reader_length_g (N : Nat) : GS := { ins := ⟨[(0, (.av (.one (.const (.ptr ⟨0, 0, 0, 0⟩))))), (1, (.av (.one (.int .i64))))], [(some (.one (.const (.slw 4 1))), true), (some (.one (.int .i64)), true), (some (.one (.int .i64)), true), (some (.one (.int .i64)), false), (some (.arr (.int .u8) none), false)]⟩, lend := [.keep, .keep], outs := xdr_Reader_length_o.map fun s => ssOf s.1, its := [.int, .int, .int, .int, .lst (.int .u8)], ots := [[.int, .int, .int, .int, .lst (.int .u8)]], F := xdr_Reader_length N }
noncomputable def xdr_Reader_length_CA (N : Nat) (f0 : Int × Int × Int × (List Int) → Option (Int × Int × Int × Int × (List Int))) (f1 : Int × Int × Int × (List Int) → Option (Int × Int × Int × Int × (List Int))) (f2 : Int × Int × Int × (List Int) → Option (Bool × Int × Int × Int × (List Int))) (f3 : Int × Int × Int × Int × Int × (List Int) → Option (Int × Int × Int × (List Int))) : Nat → List GS := fun k => tabOf k [(26, [{ xdr_Reader_At_g N with F := f0 }]), (34, [{ xdr_Reader_Uint_g N with F := f1 }]), (56, [{ xdr_Reader_bad_g N with F := f2 }]), (59, [{ xdr_Reader_fails_g N with F := f3 }])]
theorem xdr_Reader_length_CE (N : Nat) : xdr_Reader_length_CA N (xdr_Reader_At) (xdr_Reader_Uint N) (xdr_Reader_bad) (xdr_Reader_fails) = xdr_Reader_length_C N := by kernel_rfl
theorem xdr_Reader_length_t (N : Nat) : TabC Try.prog (xdr_Reader_length_C N) := tab_ok ⟨⟨xdr_Reader_At_ok N, trivial⟩, ⟨xdr_Reader_Uint_ok N, trivial⟩, ⟨xdr_Reader_bad_ok N, trivial⟩, ⟨xdr_Reader_fails_ok N, trivial⟩, trivial⟩
theorem xdr_Reader_length_i : loopsOf xdr_Reader_length_c = [] := by kernel_rfl
noncomputable def xdr_Reader_length_a (N : Nat) (f0 : Int × Int × Int × (List Int) → Option (Int × Int × Int × Int × (List Int))) (f1 : Int × Int × Int × (List Int) → Option (Int × Int × Int × Int × (List Int))) (f2 : Int × Int × Int × (List Int) → Option (Bool × Int × Int × Int × (List Int))) (f3 : Int × Int × Int × Int × Int × (List Int) → Option (Int × Int × Int × (List Int))) (x : Int × Int × Int × Int × (List Int)) : Option (Int × Int × Int × Int × (List Int)) :=
  (Option.bind (f0 (x.2.1, x.2.2.1, x.2.2.2.1, x.2.2.2.2)) fun r1 =>
  (Option.bind (f1 (r1.2.1, r1.2.2.1, r1.2.2.2.1, r1.2.2.2.2)) fun r2 =>
  (let v3 : Int := (wrapF .i64 r2.1)
  (Option.bind
  (Option.bind (f2 (r2.2.1, r2.2.2.1, r2.2.2.2.1, r2.2.2.2.2)) fun r4 =>
  (cond (!r4.1)
  (some ((decide (x.1 < v3)), r4.2.1, r4.2.2.1, r4.2.2.2.1, r4.2.2.2.2))
  (some (false, r4.2.1, r4.2.2.1, r4.2.2.2.1, r4.2.2.2.2))))
  fun r7 =>
  (cond r7.1
  (Option.bind (f3 ((1 : Int), r1.1, r7.2.1, r7.2.2.1, r7.2.2.2.1, r7.2.2.2.2)) fun r8 =>
  (some ((0 : Int), r8.1, r8.2.1, r8.2.2.1, r8.2.2.2)))
  (some (v3, r7.2.1, r7.2.2.1, r7.2.2.2.1, r7.2.2.2.2)))))))
theorem xdr_Reader_length_f (N : Nat) (f0 : Int × Int × Int × (List Int) → Option (Int × Int × Int × Int × (List Int))) (f1 : Int × Int × Int × (List Int) → Option (Int × Int × Int × Int × (List Int))) (f2 : Int × Int × Int × (List Int) → Option (Bool × Int × Int × Int × (List Int))) (f3 : Int × Int × Int × Int × Int × (List Int) → Option (Int × Int × Int × (List Int))) (x) : xdr_Reader_length_a N f0 f1 f2 f3 x = fnStep Γ (xdr_Reader_length_CA N f0 f1 f2 f3) (xdr_Reader_length_J N) 24 Try.f55.results.toList (xdr_Reader_length_g N) xdr_Reader_length_o xdr_Reader_length_c x := by kernel_rfl
theorem xdr_Reader_length_e (N : Nat) (x) : (xdr_Reader_length_g N).F x = fnStep Γ (xdr_Reader_length_C N) (xdr_Reader_length_J N) 24 Try.f55.results.toList (xdr_Reader_length_g N) xdr_Reader_length_o xdr_Reader_length_c x := by
  rw [← xdr_Reader_length_CE N]
  exact Eq.trans (by kernel_rfl) (xdr_Reader_length_f N (xdr_Reader_At) (xdr_Reader_Uint N) (xdr_Reader_bad) (xdr_Reader_fails) x)
theorem xdr_Reader_length_y : Try.f55.body = some xdr_Reader_length_c := by kernel_rfl
theorem xdr_Reader_length_n : (Try.f55.name == "runtime.NumGoroutine") = false := by kernel_rfl
theorem xdr_Reader_length_ok (N : Nat) : FnDoes Try.prog 55 (xdr_Reader_length_g N) := fn_ok tabOK (xdr_Reader_length_t N) mixedOK (J := xdr_Reader_length_J N) (body := xdr_Reader_length_c) Try.func55 xdr_Reader_length_y xdr_Reader_length_n Try.ntmps55 (jok_from xdr_Reader_length_i ⟨trivial, trivial⟩) rfl rfl (le_of_ble rfl) (xdr_Reader_length_e N)
noncomputable def xdr_Reader_fixed_c : Code := codeOf Try.f64.body
noncomputable def xdr_Reader_fixed_c0 : Code := codeOf (getLoop 0 xdr_Reader_fixed_c)
def xdr_Reader_fixed_d0 : LD := { ins := ⟨[(0, (.av (.one (.const (.ptr ⟨0, 0, 0, 0⟩))))), (1, (.av (.one (.int .i64)))), (2, (.av (.one (.int .i64)))), (7, (.av (.one (.sl 4 1)))), (37, (.av (.one (.sl 4 1)))), (38, (.av (.one (.int .i64)))), (39, (.av (.one (.int .i64))))], [(.sh (.one (.const (.slw 4 1))), true), (.sh (.one (.int .i64)), true), (.sh (.one (.int .i64)), true), (.sh (.one (.int .i64)), false), (.sh (.arr (.int .u8) none), false)]⟩, mov := [], wr := [0, 1, 2, 3, 4], outs := [(.ret, ⟨[(6, (.av (.one (.const .nils))))], [(.sh (.one (.const (.slw 4 1))), true), (.sh (.one (.int .i64)), true), (.sh (.one (.int .i64)), true), (.sh (.one (.int .i64)), false), (.sh (.arr (.int .u8) none), false)]⟩), (.exit 0, ⟨[], [(.sh (.one (.const (.slw 4 1))), true), (.sh (.one (.int .i64)), true), (.sh (.one (.int .i64)), true), (.sh (.one (.int .i64)), false), (.sh (.arr (.int .u8) none), false)]⟩)], its := [.int, .int, .nat, .nat, .nat, .nat, .int, .int, .int, .int, .int, .lst (.int .u8)], ots := [[.int, .int, .int, .lst (.int .u8)], [.int, .int, .int, .lst (.int .u8)]] }
noncomputable def xdr_Reader_fixed_J (N : Nat) : Nat → Hint := fun cx => hintOf cx [(0, { reg := fun k => assoc0 k [(1, ⟨⟨[(15, (.av (.one .bool)))], [(.sh (.one (.const (.slw 4 1))), true), (.sh (.one (.int .i64)), true), (.sh (.one (.int .i64)), true), (.sh (.one (.int .i64)), false), (.sh (.arr (.int .u8) none), false)]⟩, [], [0, 1, 2, 3, 4], [.bool, .int, .int, .int, .lst (.int .u8)]⟩)], cnd := fun k => assoc0 k [], loop := fun k => assoc0 k [(0, ⟨xdr_Reader_fixed_d0, loopF (xdr_Reader_fixed_b0 N) N⟩)], nil := fun k => assoc0 k [], unr := fun k => assocN k [], blk := fun k => assoc0 k [] })]
noncomputable def xdr_Reader_fixed_C (N : Nat) : Nat → List GS := fun k => tabOf k [(56, [xdr_Reader_bad_g N]), (59, [xdr_Reader_fails_g N]), (61, [xdr_padding_g N]), (62, [xdr_Reader_take_g N]), (53, [slices_Clone_byte_byte_g N])]
def xdr_Reader_fixed_o : List (Shp × List Nat) := [(⟨[(0, (.av (.one (.const (.slw 5 1)))))], [(.sh (.one (.const (.slw 4 1))), true), (.sh (.one (.int .i64)), true), (.sh (.one (.int .i64)), true), (.sh (.one (.int .i64)), false), (.sh (.arr (.int .u8) none), false), (.sh (.arr (.int .u8) none), false)]⟩, [])]
noncomputable def xdr_Reader_fixed_g (N : Nat) : GS := { ins := ⟨[(0, (.av (.one (.const (.ptr ⟨0, 0, 0, 0⟩))))), (1, (.av (.one (.int .i64)))), (2, (.av (.one (.int .i64))))], [(some (.one (.const (.slw 4 1))), true), (some (.one (.int .i64)), true), (some (.one (.int .i64)), true), (some (.one (.int .i64)), false), (some (.arr (.int .u8) none), false)]⟩, lend := [.keep, .keep, .keep], outs := xdr_Reader_fixed_o.map fun s => ssOf s.1, its := [.int, .int, .int, .int, .int, .lst (.int .u8)], ots := [[.int, .int, .int, .lst (.int .u8), .lst (.int .u8)]], F := xdr_Reader_fixed N }
noncomputable def xdr_Reader_fixed_CA (N : Nat) (f0 : Int × Int × Int × (List Int) → Option (Bool × Int × Int × Int × (List Int))) (f1 : Int × Int × Int × Int × Int × (List Int) → Option (Int × Int × Int × (List Int))) (f2 : Int → Option (Int)) (f3 : Int × Int × Int × Int × Int × (List Int) → Option ((Int × Int × Int × (List Int)) ⊕ (Nat × Nat × Int × Int × Int × (List Int)))) (f4 : (List Int) → Option ((List Int))) : Nat → List GS := fun k => tabOf k [(56, [{ xdr_Reader_bad_g N with F := f0 }]), (59, [{ xdr_Reader_fails_g N with F := f1 }]), (61, [{ xdr_padding_g N with F := f2 }]), (62, [{ xdr_Reader_take_g N with F := f3 }]), (53, [{ slices_Clone_byte_byte_g N with F := f4 }])]
theorem xdr_Reader_fixed_CE (N : Nat) : xdr_Reader_fixed_CA N (xdr_Reader_bad) (xdr_Reader_fails) (xdr_padding) (xdr_Reader_take) (slices_Clone_byte_byte) = xdr_Reader_fixed_C N := by kernel_rfl
theorem xdr_Reader_fixed_t (N : Nat) : TabC Try.prog (xdr_Reader_fixed_C N) := tab_ok ⟨⟨xdr_Reader_bad_ok N, trivial⟩, ⟨xdr_Reader_fails_ok N, trivial⟩, ⟨xdr_padding_ok N, trivial⟩, ⟨xdr_Reader_take_ok N, trivial⟩, ⟨slices_Clone_byte_byte_ok N, trivial⟩, trivial⟩
theorem xdr_Reader_fixed_i0 : loopsOf xdr_Reader_fixed_c0 = [] := by kernel_rfl
noncomputable def xdr_Reader_fixed_a0 (N : Nat) (f0 : Int × Int × Int × (List Int) → Option (Bool × Int × Int × Int × (List Int))) (f1 : Int × Int × Int × Int × Int × (List Int) → Option (Int × Int × Int × (List Int))) (f2 : Int → Option (Int)) (f3 : Int × Int × Int × Int × Int × (List Int) → Option ((Int × Int × Int × (List Int)) ⊕ (Nat × Nat × Int × Int × Int × (List Int)))) (f4 : (List Int) → Option ((List Int))) (next : Int × Int × Nat × Nat × Nat × Nat × Int × Int × Int × Int × Int × (List Int) → Option ((Int × Int × Int × (List Int)) ⊕ (Int × Int × Int × (List Int)))) (x : Int × Int × Nat × Nat × Nat × Nat × Int × Int × Int × Int × Int × (List Int)) : Option ((Int × Int × Int × (List Int)) ⊕ (Int × Int × Int × (List Int))) :=
  (cond (decide (x.2.2.2.2.2.2.2.1 < x.2.2.2.2.2.2.1))
  (cond ((decide ((0 : Int) ≤ x.2.2.2.2.2.2.2.1)) && (decide (x.2.2.2.2.2.2.2.1 < ((x.2.2.2.2.2.1 : Nat) : Int))))
  ((let v2 : Nat := ((Int.toNat x.2.2.2.2.2.2.2.1) + x.2.2.2.2.1)
  (cond (decide (v2 < (List.length x.2.2.2.2.2.2.2.2.2.2.2)))
  ((cond (!(decide ((List.getD x.2.2.2.2.2.2.2.2.2.2.2 v2 (EK.dflt (.int .u8))) = (0 : Int))))
  (Option.bind (f1 ((11 : Int), x.2.1, x.2.2.2.2.2.2.2.2.1, x.2.2.2.2.2.2.2.2.2.1, x.2.2.2.2.2.2.2.2.2.2.1, x.2.2.2.2.2.2.2.2.2.2.2)) fun r5 =>
  (some (.inl (r5.1, r5.2.1, r5.2.2.1, r5.2.2.2))))
  (next (x.1, x.2.1, x.2.2.1, x.2.2.2.1, x.2.2.2.2.1, x.2.2.2.2.2.1, x.2.2.2.2.2.2.1, (wrapF .i64 (x.2.2.2.2.2.2.2.1 + (1 : Int))), x.2.2.2.2.2.2.2.2.1, x.2.2.2.2.2.2.2.2.2.1, x.2.2.2.2.2.2.2.2.2.2.1, x.2.2.2.2.2.2.2.2.2.2.2))))
  none)))
  none)
  (some (.inr ((x.2.2.2.2.2.2.2.2.1, x.2.2.2.2.2.2.2.2.2.1, x.2.2.2.2.2.2.2.2.2.2.1, x.2.2.2.2.2.2.2.2.2.2.2)))))
theorem xdr_Reader_fixed_f0 (N : Nat) (f0 : Int × Int × Int × (List Int) → Option (Bool × Int × Int × Int × (List Int))) (f1 : Int × Int × Int × Int × Int × (List Int) → Option (Int × Int × Int × (List Int))) (f2 : Int → Option (Int)) (f3 : Int × Int × Int × Int × Int × (List Int) → Option ((Int × Int × Int × (List Int)) ⊕ (Nat × Nat × Int × Int × Int × (List Int)))) (f4 : (List Int) → Option ((List Int))) (next) (x) : xdr_Reader_fixed_a0 N f0 f1 f2 f3 f4 next x = loopStep Γ (xdr_Reader_fixed_CA N f0 f1 f2 f3 f4) (xdr_Reader_fixed_J N) 0 53 xdr_Reader_fixed_d0 xdr_Reader_fixed_c0 next x := by kernel_rfl
theorem xdr_Reader_fixed_e0 (N : Nat) (next) (x) : xdr_Reader_fixed_b0 N next x = loopStep Γ (xdr_Reader_fixed_C N) (xdr_Reader_fixed_J N) 0 53 xdr_Reader_fixed_d0 xdr_Reader_fixed_c0 next x := by
  rw [← xdr_Reader_fixed_CE N]
  exact Eq.trans (by kernel_rfl) (xdr_Reader_fixed_f0 N (xdr_Reader_bad) (xdr_Reader_fails) (xdr_padding) (xdr_Reader_take) (slices_Clone_byte_byte) next x)
theorem xdr_Reader_fixed_k0 (N : Nat) : LoopOK Try.prog 53 xdr_Reader_fixed_c0 ⟨xdr_Reader_fixed_d0, loopF (xdr_Reader_fixed_b0 N) N⟩ := loop_ok tabOK (xdr_Reader_fixed_t N) mixedOK (J := xdr_Reader_fixed_J N) (cx := 0) (body := xdr_Reader_fixed_c0) (nt := 53) (l := xdr_Reader_fixed_d0) (b := xdr_Reader_fixed_b0 N) (jok_from xdr_Reader_fixed_i0 ⟨trivial, trivial⟩) (xdr_Reader_fixed_e0 N) N
theorem xdr_Reader_fixed_i : loopsOf xdr_Reader_fixed_c = [(0, xdr_Reader_fixed_c0)] := by kernel_rfl
noncomputable def xdr_Reader_fixed_a (N : Nat) (f0 : Int × Int × Int × (List Int) → Option (Bool × Int × Int × Int × (List Int))) (f1 : Int × Int × Int × Int × Int × (List Int) → Option (Int × Int × Int × (List Int))) (f2 : Int → Option (Int)) (f3 : Int × Int × Int × Int × Int × (List Int) → Option ((Int × Int × Int × (List Int)) ⊕ (Nat × Nat × Int × Int × Int × (List Int)))) (f4 : (List Int) → Option ((List Int))) (x : Int × Int × Int × Int × Int × (List Int)) : Option (Int × Int × Int × (List Int) × (List Int)) :=
  (Option.bind
  (Option.bind (f0 (x.2.2.1, x.2.2.2.1, x.2.2.2.2.1, x.2.2.2.2.2)) fun r1 =>
  (cond r1.1
  (some (true, r1.2.1, r1.2.2.1, r1.2.2.2.1, r1.2.2.2.2))
  (some ((decide (x.1 ≤ (0 : Int))), r1.2.1, r1.2.2.1, r1.2.2.2.1, r1.2.2.2.2))))
  fun r3 =>
  (cond r3.1
  (some (r3.2.1, r3.2.2.1, r3.2.2.2.1, r3.2.2.2.2, ([] : List Int)))
  (cond (decide ((((List.length r3.2.2.2.2) : Nat) : Int) < x.1))
  (Option.bind (f1 ((3 : Int), x.2.1, r3.2.1, r3.2.2.1, r3.2.2.2.1, r3.2.2.2.2)) fun r6 =>
  (some (r6.1, r6.2.1, r6.2.2.1, r6.2.2.2, ([] : List Int))))
  (Option.bind (f2 x.1) fun r7 =>
  (Option.bind (f3 ((wrapF .i64 (x.1 + r7)), x.2.1, r3.2.1, r3.2.2.1, r3.2.2.2.1, r3.2.2.2.2)) fun r9 =>
  (match r9 with
  | .inl y10 =>
  (some (y10.1, y10.2.1, y10.2.2.1, y10.2.2.2, ([] : List Int)))
  | .inr z11 =>
  (agreeC (decide (z11.2.1 = 0)) false
  (some (z11.2.2.1, z11.2.2.2.1, z11.2.2.2.2.1, z11.2.2.2.2.2, ([] : List Int)))
  (cond (((decide ((0 : Int) ≤ x.1)) && (decide (x.1 ≤ ((z11.2.1 : Nat) : Int)))) && (decide (((z11.2.1 : Nat) : Int) ≤ ((z11.2.1 : Nat) : Int))))
  ((let v13 : Nat := (z11.2.1 - (Int.toNat x.1))
  (Option.bind (xdr_Reader_fixed_l0 N (x.1, x.2.1, z11.1, z11.2.1, ((Int.toNat x.1) + z11.1), v13, ((v13 : Nat) : Int), (0 : Int), z11.2.2.1, z11.2.2.2.1, z11.2.2.2.2.1, z11.2.2.2.2.2)) fun r15 =>
  (match r15 with
  | .inl y16 =>
  (some (y16.1, y16.2.1, y16.2.2.1, y16.2.2.2, ([] : List Int)))
  | .inr z17 =>
  (cond ((decide ((0 : Int) ≤ x.1)) && (decide (x.1 ≤ ((z11.2.1 : Nat) : Int))))
  ((let v18 : Nat := (0 + z11.1)
  (let v19 : Nat := (Int.toNat x.1)
  (cond (cond (decide ((v18 + v19) ≤ (List.length z17.2.2.2))) true false)
  (Option.bind (f4 (List.take v19 (List.drop v18 z17.2.2.2))) fun r20 =>
  (some (z17.1, z17.2.1, z17.2.2.1, z17.2.2.2, r20)))
  none))))
  none)))))
  none))))))))
theorem xdr_Reader_fixed_f (N : Nat) (f0 : Int × Int × Int × (List Int) → Option (Bool × Int × Int × Int × (List Int))) (f1 : Int × Int × Int × Int × Int × (List Int) → Option (Int × Int × Int × (List Int))) (f2 : Int → Option (Int)) (f3 : Int × Int × Int × Int × Int × (List Int) → Option ((Int × Int × Int × (List Int)) ⊕ (Nat × Nat × Int × Int × Int × (List Int)))) (f4 : (List Int) → Option ((List Int))) (x) : xdr_Reader_fixed_a N f0 f1 f2 f3 f4 x = fnStep Γ (xdr_Reader_fixed_CA N f0 f1 f2 f3 f4) (xdr_Reader_fixed_J N) 53 Try.f64.results.toList (xdr_Reader_fixed_g N) xdr_Reader_fixed_o xdr_Reader_fixed_c x := by kernel_rfl
theorem xdr_Reader_fixed_e (N : Nat) (x) : (xdr_Reader_fixed_g N).F x = fnStep Γ (xdr_Reader_fixed_C N) (xdr_Reader_fixed_J N) 53 Try.f64.results.toList (xdr_Reader_fixed_g N) xdr_Reader_fixed_o xdr_Reader_fixed_c x := by
  rw [← xdr_Reader_fixed_CE N]
  exact Eq.trans (by kernel_rfl) (xdr_Reader_fixed_f N (xdr_Reader_bad) (xdr_Reader_fails) (xdr_padding) (xdr_Reader_take) (slices_Clone_byte_byte) x)
theorem xdr_Reader_fixed_y : Try.f64.body = some xdr_Reader_fixed_c := by kernel_rfl
theorem xdr_Reader_fixed_n : (Try.f64.name == "runtime.NumGoroutine") = false := by kernel_rfl
theorem xdr_Reader_fixed_ok (N : Nat) : FnDoes Try.prog 64 (xdr_Reader_fixed_g N) := fn_ok tabOK (xdr_Reader_fixed_t N) mixedOK (J := xdr_Reader_fixed_J N) (body := xdr_Reader_fixed_c) Try.func64 xdr_Reader_fixed_y xdr_Reader_fixed_n Try.ntmps64 (jok_from xdr_Reader_fixed_i ⟨⟨.inr ⟨_, rfl, xdr_Reader_fixed_k0 N⟩, trivial⟩, trivial⟩) rfl rfl (le_of_ble rfl) (xdr_Reader_fixed_e N)
noncomputable def xdr_Reader_Opaque_c : Code := codeOf Try.f46.body
noncomputable def xdr_Reader_Opaque_J (N : Nat) : Nat → Hint := fun cx => hintOf cx []
noncomputable def xdr_Reader_Opaque_C (N : Nat) : Nat → List GS := fun k => tabOf k [(26, [xdr_Reader_At_g N]), (55, [xdr_Reader_length_g N]), (64, [xdr_Reader_fixed_g N])]
def xdr_Reader_Opaque_o : List (Shp × List Nat) := [(⟨[(0, (.av (.one (.const (.slw 5 1)))))], [(.sh (.one (.const (.slw 4 1))), true), (.sh (.one (.int .i64)), true), (.sh (.one (.int .i64)), true), (.sh (.one (.int .i64)), false), (.sh (.arr (.int .u8) none), false), (.sh (.arr (.int .u8) none), false)]⟩, [])]
noncomputable def xdr_Reader_Opaque_g (N : Nat) : GS := { ins := ⟨[(0, (.av (.one (.const (.ptr ⟨0, 0, 0, 0⟩))))), (1, (.av (.one (.int .i64))))], [(some (.one (.const (.slw 4 1))), true), (some (.one (.int .i64)), true), (some (.one (.int .i64)), true), (some (.one (.int .i64)), false), (some (.arr (.int .u8) none), false)]⟩, lend := [.keep, .keep], outs := xdr_Reader_Opaque_o.map fun s => ssOf s.1, its := [.int, .int, .int, .int, .lst (.int .u8)], ots := [[.int, .int, .int, .lst (.int .u8), .lst (.int .u8)]], F := xdr_Reader_Opaque N }
noncomputable def xdr_Reader_Opaque_CA (N : Nat) (f0 : Int × Int × Int × (List Int) → Option (Int × Int × Int × Int × (List Int))) (f1 : Int × Int × Int × Int × (List Int) → Option (Int × Int × Int × Int × (List Int))) (f2 : Int × Int × Int × Int × Int × (List Int) → Option (Int × Int × Int × (List Int) × (List Int))) : Nat → List GS := fun k => tabOf k [(26, [{ xdr_Reader_At_g N with F := f0 }]), (55, [{ xdr_Reader_length_g N with F := f1 }]), (64, [{ xdr_Reader_fixed_g N with F := f2 }])]
theorem xdr_Reader_Opaque_CE (N : Nat) : xdr_Reader_Opaque_CA N (xdr_Reader_At) (xdr_Reader_length N) (xdr_Reader_fixed N) = xdr_Reader_Opaque_C N := by kernel_rfl
theorem xdr_Reader_Opaque_t (N : Nat) : TabC Try.prog (xdr_Reader_Opaque_C N) := tab_ok ⟨⟨xdr_Reader_At_ok N, trivial⟩, ⟨xdr_Reader_length_ok N, trivial⟩, ⟨xdr_Reader_fixed_ok N, trivial⟩, trivial⟩
theorem xdr_Reader_Opaque_i : loopsOf xdr_Reader_Opaque_c = [] := by kernel_rfl
noncomputable def xdr_Reader_Opaque_a (N : Nat) (f0 : Int × Int × Int × (List Int) → Option (Int × Int × Int × Int × (List Int))) (f1 : Int × Int × Int × Int × (List Int) → Option (Int × Int × Int × Int × (List Int))) (f2 : Int × Int × Int × Int × Int × (List Int) → Option (Int × Int × Int × (List Int) × (List Int))) (x : Int × Int × Int × Int × (List Int)) : Option (Int × Int × Int × (List Int) × (List Int)) :=
  (Option.bind (f0 (x.2.1, x.2.2.1, x.2.2.2.1, x.2.2.2.2)) fun r1 =>
  (Option.bind (f1 (x.1, r1.2.1, r1.2.2.1, r1.2.2.2.1, r1.2.2.2.2)) fun r2 =>
  (Option.bind (f2 (r2.1, r1.1, r2.2.1, r2.2.2.1, r2.2.2.2.1, r2.2.2.2.2)) fun r3 =>
  (some (r3.1, r3.2.1, r3.2.2.1, r3.2.2.2.1, r3.2.2.2.2)))))
theorem xdr_Reader_Opaque_f (N : Nat) (f0 : Int × Int × Int × (List Int) → Option (Int × Int × Int × Int × (List Int))) (f1 : Int × Int × Int × Int × (List Int) → Option (Int × Int × Int × Int × (List Int))) (f2 : Int × Int × Int × Int × Int × (List Int) → Option (Int × Int × Int × (List Int) × (List Int))) (x) : xdr_Reader_Opaque_a N f0 f1 f2 x = fnStep Γ (xdr_Reader_Opaque_CA N f0 f1 f2) (xdr_Reader_Opaque_J N) 14 Try.f46.results.toList (xdr_Reader_Opaque_g N) xdr_Reader_Opaque_o xdr_Reader_Opaque_c x := by kernel_rfl
theorem xdr_Reader_Opaque_e (N : Nat) (x) : (xdr_Reader_Opaque_g N).F x = fnStep Γ (xdr_Reader_Opaque_C N) (xdr_Reader_Opaque_J N) 14 Try.f46.results.toList (xdr_Reader_Opaque_g N) xdr_Reader_Opaque_o xdr_Reader_Opaque_c x := by
  rw [← xdr_Reader_Opaque_CE N]
  exact Eq.trans (by kernel_rfl) (xdr_Reader_Opaque_f N (xdr_Reader_At) (xdr_Reader_length N) (xdr_Reader_fixed N) x)
theorem xdr_Reader_Opaque_y : Try.f46.body = some xdr_Reader_Opaque_c := by kernel_rfl
theorem xdr_Reader_Opaque_n : (Try.f46.name == "runtime.NumGoroutine") = false := by kernel_rfl
theorem xdr_Reader_Opaque_ok (N : Nat) : FnDoes Try.prog 46 (xdr_Reader_Opaque_g N) := fn_ok tabOK (xdr_Reader_Opaque_t N) mixedOK (J := xdr_Reader_Opaque_J N) (body := xdr_Reader_Opaque_c) Try.func46 xdr_Reader_Opaque_y xdr_Reader_Opaque_n Try.ntmps46 (jok_from xdr_Reader_Opaque_i trivial) rfl rfl (le_of_ble rfl) (xdr_Reader_Opaque_e N)
noncomputable def xdr_Reader_Text_c : Code := codeOf Try.f17.body
noncomputable def xdr_Reader_Text_J (N : Nat) : Nat → Hint := fun cx => hintOf cx []
noncomputable def xdr_Reader_Text_C (N : Nat) : Nat → List GS := fun k => tabOf k [(46, [xdr_Reader_Opaque_g N])]
def xdr_Reader_Text_o : List (Shp × List Nat) := [(⟨[(0, (.av (.one .str)))], [(.sh (.one (.const (.slw 4 1))), true), (.sh (.one (.int .i64)), true), (.sh (.one (.int .i64)), true), (.sh (.one (.int .i64)), false), (.sh (.arr (.int .u8) none), false)]⟩, [])]
noncomputable def xdr_Reader_Text_g (N : Nat) : GS := { ins := ⟨[(0, (.av (.one (.const (.ptr ⟨0, 0, 0, 0⟩))))), (1, (.av (.one (.int .i64))))], [(some (.one (.const (.slw 4 1))), true), (some (.one (.int .i64)), true), (some (.one (.int .i64)), true), (some (.one (.int .i64)), false), (some (.arr (.int .u8) none), false)]⟩, lend := [.keep, .keep], outs := xdr_Reader_Text_o.map fun s => ssOf s.1, its := [.int, .int, .int, .int, .lst (.int .u8)], ots := [[.str, .int, .int, .int, .lst (.int .u8)]], F := xdr_Reader_Text N }
noncomputable def xdr_Reader_Text_CA (N : Nat) (f0 : Int × Int × Int × Int × (List Int) → Option (Int × Int × Int × (List Int) × (List Int))) : Nat → List GS := fun k => tabOf k [(46, [{ xdr_Reader_Opaque_g N with F := f0 }])]
theorem xdr_Reader_Text_CE (N : Nat) : xdr_Reader_Text_CA N (xdr_Reader_Opaque N) = xdr_Reader_Text_C N := by kernel_rfl
theorem xdr_Reader_Text_t (N : Nat) : TabC Try.prog (xdr_Reader_Text_C N) := tab_ok ⟨⟨xdr_Reader_Opaque_ok N, trivial⟩, trivial⟩
theorem xdr_Reader_Text_i : loopsOf xdr_Reader_Text_c = [] := by kernel_rfl
noncomputable def xdr_Reader_Text_a (N : Nat) (f0 : Int × Int × Int × Int × (List Int) → Option (Int × Int × Int × (List Int) × (List Int))) (x : Int × Int × Int × Int × (List Int)) : Option ((List UInt8) × Int × Int × Int × (List Int)) :=
  (Option.bind (f0 (x.1, x.2.1, x.2.2.1, x.2.2.2.1, x.2.2.2.2)) fun r2 =>
  (some ((List.map (fun (n : Int) => UInt8.ofNat n.toNat) r2.2.2.2.2), r2.1, r2.2.1, r2.2.2.1, r2.2.2.2.1)))
theorem xdr_Reader_Text_f (N : Nat) (f0 : Int × Int × Int × Int × (List Int) → Option (Int × Int × Int × (List Int) × (List Int))) (x) : xdr_Reader_Text_a N f0 x = fnStep Γ (xdr_Reader_Text_CA N f0) (xdr_Reader_Text_J N) 9 Try.f17.results.toList (xdr_Reader_Text_g N) xdr_Reader_Text_o xdr_Reader_Text_c x := by kernel_rfl
theorem xdr_Reader_Text_e (N : Nat) (x) : (xdr_Reader_Text_g N).F x = fnStep Γ (xdr_Reader_Text_C N) (xdr_Reader_Text_J N) 9 Try.f17.results.toList (xdr_Reader_Text_g N) xdr_Reader_Text_o xdr_Reader_Text_c x := by
  rw [← xdr_Reader_Text_CE N]
  exact Eq.trans (by kernel_rfl) (xdr_Reader_Text_f N (xdr_Reader_Opaque N) x)
theorem xdr_Reader_Text_y : Try.f17.body = some xdr_Reader_Text_c := by kernel_rfl
theorem xdr_Reader_Text_n : (Try.f17.name == "runtime.NumGoroutine") = false := by kernel_rfl
theorem xdr_Reader_Text_ok (N : Nat) : FnDoes Try.prog 17 (xdr_Reader_Text_g N) := fn_ok tabOK (xdr_Reader_Text_t N) mixedOK (J := xdr_Reader_Text_J N) (body := xdr_Reader_Text_c) Try.func17 xdr_Reader_Text_y xdr_Reader_Text_n Try.ntmps17 (jok_from xdr_Reader_Text_i trivial) rfl rfl (le_of_ble rfl) (xdr_Reader_Text_e N)
noncomputable def xdr_Reader_Done_c : Code := codeOf Try.f43.body
noncomputable def xdr_Reader_Done_J (N : Nat) : Nat → Hint := fun cx => hintOf cx [(0, { reg := fun k => assoc0 k [(3, ⟨⟨[(6, (.av (.one .bool)))], [(.keep, true), (.keep, true), (.keep, true), (.keep, false), (.keep, false)]⟩, [], [], [.bool]⟩)], cnd := fun k => assoc0 k [], loop := fun k => assoc0 k [], nil := fun k => assoc0 k [], unr := fun k => assocN k [], blk := fun k => assoc0 k [] })]
noncomputable def xdr_Reader_Done_C (N : Nat) : Nat → List GS := fun k => tabOf k []
def xdr_Reader_Done_o : List (Shp × List Nat) := [(⟨[(0, (.av (.one (.int .i64))))], [(.sh (.one (.const (.slw 4 1))), true), (.sh (.one (.int .i64)), true), (.sh (.one (.int .i64)), true), (.sh (.one (.int .i64)), false), (.sh (.arr (.int .u8) none), false)]⟩, [])]
noncomputable def xdr_Reader_Done_g (N : Nat) : GS := { ins := ⟨[(0, (.av (.one (.const (.ptr ⟨0, 0, 0, 0⟩)))))], [(some (.one (.const (.slw 4 1))), true), (some (.one (.int .i64)), true), (some (.one (.int .i64)), true), (some (.one (.int .i64)), false), (some (.arr (.int .u8) none), false)]⟩, lend := [.keep], outs := xdr_Reader_Done_o.map fun s => ssOf s.1, its := [.int, .int, .int, .lst (.int .u8)], ots := [[.int, .int, .int, .int, .lst (.int .u8)]], F := xdr_Reader_Done }
theorem xdr_Reader_Done_t (N : Nat) : TabC Try.prog (xdr_Reader_Done_C N) := tab_ok trivial
theorem xdr_Reader_Done_i : loopsOf xdr_Reader_Done_c = [] := by kernel_rfl
theorem xdr_Reader_Done_e (N : Nat) (x) : (xdr_Reader_Done_g N).F x = fnStep Γ (xdr_Reader_Done_C N) (xdr_Reader_Done_J N) 28 Try.f43.results.toList (xdr_Reader_Done_g N) xdr_Reader_Done_o xdr_Reader_Done_c x := by kernel_rfl
theorem xdr_Reader_Done_y : Try.f43.body = some xdr_Reader_Done_c := by kernel_rfl
theorem xdr_Reader_Done_n : (Try.f43.name == "runtime.NumGoroutine") = false := by kernel_rfl
theorem xdr_Reader_Done_ok (N : Nat) : FnDoes Try.prog 43 (xdr_Reader_Done_g N) := fn_ok tabOK (xdr_Reader_Done_t N) mixedOK (J := xdr_Reader_Done_J N) (body := xdr_Reader_Done_c) Try.func43 xdr_Reader_Done_y xdr_Reader_Done_n Try.ntmps43 (jok_from xdr_Reader_Done_i ⟨trivial, trivial⟩) rfl rfl (le_of_ble rfl) (xdr_Reader_Done_e N)
noncomputable def granarylaw01_num_c : Code := codeOf Try.f12.body
noncomputable def granarylaw01_num_J (N : Nat) : Nat → Hint := fun cx => hintOf cx []
noncomputable def granarylaw01_num_C (N : Nat) : Nat → List GS := fun k => tabOf k []
def granarylaw01_num_o : List (Shp × List Nat) := [(⟨[(0, (.av (.one (.int .i64))))], []⟩, [])]
noncomputable def granarylaw01_num_g (N : Nat) : GS := { ins := ⟨[(0, (.av (.one (.int .i64))))], []⟩, lend := [.keep], outs := granarylaw01_num_o.map fun s => ssOf s.1, its := [.int], ots := [[.int]], F := granarylaw01_num }
theorem granarylaw01_num_t (N : Nat) : TabC Try.prog (granarylaw01_num_C N) := tab_ok trivial
theorem granarylaw01_num_i : loopsOf granarylaw01_num_c = [] := by kernel_rfl
theorem granarylaw01_num_e (N : Nat) (x) : (granarylaw01_num_g N).F x = fnStep Γ (granarylaw01_num_C N) (granarylaw01_num_J N) 4 Try.f12.results.toList (granarylaw01_num_g N) granarylaw01_num_o granarylaw01_num_c x := by kernel_rfl
theorem granarylaw01_num_y : Try.f12.body = some granarylaw01_num_c := by kernel_rfl
theorem granarylaw01_num_n : (Try.f12.name == "runtime.NumGoroutine") = false := by kernel_rfl
theorem granarylaw01_num_ok (N : Nat) : FnDoes Try.prog 12 (granarylaw01_num_g N) := fn_ok tabOK (granarylaw01_num_t N) mixedOK (J := granarylaw01_num_J N) (body := granarylaw01_num_c) Try.func12 granarylaw01_num_y granarylaw01_num_n Try.ntmps12 (jok_from granarylaw01_num_i trivial) rfl rfl (le_of_ble rfl) (granarylaw01_num_e N)
noncomputable def xdr_Reader_most_c : Code := codeOf Try.f54.body
noncomputable def xdr_Reader_most_J (N : Nat) : Nat → Hint := fun cx => hintOf cx []
noncomputable def xdr_Reader_most_C (N : Nat) : Nat → List GS := fun k => tabOf k [(26, [xdr_Reader_At_g N]), (34, [xdr_Reader_Uint_g N]), (59, [xdr_Reader_fails_g N])]
def xdr_Reader_most_o : List (Shp × List Nat) := [(⟨[(0, (.av (.one (.int .u32))))], [(.sh (.one (.const (.slw 4 1))), true), (.sh (.one (.int .i64)), true), (.sh (.one (.int .i64)), true), (.sh (.one (.int .i64)), false), (.sh (.arr (.int .u8) none), false)]⟩, [])]
noncomputable def xdr_Reader_most_g (N : Nat) : GS := { ins := ⟨[(0, (.av (.one (.const (.ptr ⟨0, 0, 0, 0⟩))))), (1, (.av (.one (.int .u32)))), (2, (.av (.one (.int .i64))))], [(some (.one (.const (.slw 4 1))), true), (some (.one (.int .i64)), true), (some (.one (.int .i64)), true), (some (.one (.int .i64)), false), (some (.arr (.int .u8) none), false)]⟩, lend := [.keep, .keep, .keep], outs := xdr_Reader_most_o.map fun s => ssOf s.1, its := [.int, .int, .int, .int, .int, .lst (.int .u8)], ots := [[.int, .int, .int, .int, .lst (.int .u8)]], F := xdr_Reader_most N }
noncomputable def xdr_Reader_most_CA (N : Nat) (f0 : Int × Int × Int × (List Int) → Option (Int × Int × Int × Int × (List Int))) (f1 : Int × Int × Int × (List Int) → Option (Int × Int × Int × Int × (List Int))) (f2 : Int × Int × Int × Int × Int × (List Int) → Option (Int × Int × Int × (List Int))) : Nat → List GS := fun k => tabOf k [(26, [{ xdr_Reader_At_g N with F := f0 }]), (34, [{ xdr_Reader_Uint_g N with F := f1 }]), (59, [{ xdr_Reader_fails_g N with F := f2 }])]
theorem xdr_Reader_most_CE (N : Nat) : xdr_Reader_most_CA N (xdr_Reader_At) (xdr_Reader_Uint N) (xdr_Reader_fails) = xdr_Reader_most_C N := by kernel_rfl
theorem xdr_Reader_most_t (N : Nat) : TabC Try.prog (xdr_Reader_most_C N) := tab_ok ⟨⟨xdr_Reader_At_ok N, trivial⟩, ⟨xdr_Reader_Uint_ok N, trivial⟩, ⟨xdr_Reader_fails_ok N, trivial⟩, trivial⟩
theorem xdr_Reader_most_i : loopsOf xdr_Reader_most_c = [] := by kernel_rfl
noncomputable def xdr_Reader_most_a (N : Nat) (f0 : Int × Int × Int × (List Int) → Option (Int × Int × Int × Int × (List Int))) (f1 : Int × Int × Int × (List Int) → Option (Int × Int × Int × Int × (List Int))) (f2 : Int × Int × Int × Int × Int × (List Int) → Option (Int × Int × Int × (List Int))) (x : Int × Int × Int × Int × Int × (List Int)) : Option (Int × Int × Int × Int × (List Int)) :=
  (Option.bind (f0 (x.2.2.1, x.2.2.2.1, x.2.2.2.2.1, x.2.2.2.2.2)) fun r1 =>
  (Option.bind (f1 (r1.2.1, r1.2.2.1, r1.2.2.2.1, r1.2.2.2.2)) fun r2 =>
  (cond (decide (x.1 < r2.1))
  (Option.bind (f2 (x.2.1, r1.1, r2.2.1, r2.2.2.1, r2.2.2.2.1, r2.2.2.2.2)) fun r4 =>
  (some ((0 : Int), r4.1, r4.2.1, r4.2.2.1, r4.2.2.2)))
  (some (r2.1, r2.2.1, r2.2.2.1, r2.2.2.2.1, r2.2.2.2.2)))))
theorem xdr_Reader_most_f (N : Nat) (f0 : Int × Int × Int × (List Int) → Option (Int × Int × Int × Int × (List Int))) (f1 : Int × Int × Int × (List Int) → Option (Int × Int × Int × Int × (List Int))) (f2 : Int × Int × Int × Int × Int × (List Int) → Option (Int × Int × Int × (List Int))) (x) : xdr_Reader_most_a N f0 f1 f2 x = fnStep Γ (xdr_Reader_most_CA N f0 f1 f2) (xdr_Reader_most_J N) 21 Try.f54.results.toList (xdr_Reader_most_g N) xdr_Reader_most_o xdr_Reader_most_c x := by kernel_rfl
theorem xdr_Reader_most_e (N : Nat) (x) : (xdr_Reader_most_g N).F x = fnStep Γ (xdr_Reader_most_C N) (xdr_Reader_most_J N) 21 Try.f54.results.toList (xdr_Reader_most_g N) xdr_Reader_most_o xdr_Reader_most_c x := by
  rw [← xdr_Reader_most_CE N]
  exact Eq.trans (by kernel_rfl) (xdr_Reader_most_f N (xdr_Reader_At) (xdr_Reader_Uint N) (xdr_Reader_fails) x)
theorem xdr_Reader_most_y : Try.f54.body = some xdr_Reader_most_c := by kernel_rfl
theorem xdr_Reader_most_n : (Try.f54.name == "runtime.NumGoroutine") = false := by kernel_rfl
theorem xdr_Reader_most_ok (N : Nat) : FnDoes Try.prog 54 (xdr_Reader_most_g N) := fn_ok tabOK (xdr_Reader_most_t N) mixedOK (J := xdr_Reader_most_J N) (body := xdr_Reader_most_c) Try.func54 xdr_Reader_most_y xdr_Reader_most_n Try.ntmps54 (jok_from xdr_Reader_most_i trivial) rfl rfl (le_of_ble rfl) (xdr_Reader_most_e N)
noncomputable def xdr_Reader_Bool_c : Code := codeOf Try.f16.body
noncomputable def xdr_Reader_Bool_J (N : Nat) : Nat → Hint := fun cx => hintOf cx []
noncomputable def xdr_Reader_Bool_C (N : Nat) : Nat → List GS := fun k => tabOf k [(54, [xdr_Reader_most_g N])]
def xdr_Reader_Bool_o : List (Shp × List Nat) := [(⟨[(0, (.av (.one .bool)))], [(.sh (.one (.const (.slw 4 1))), true), (.sh (.one (.int .i64)), true), (.sh (.one (.int .i64)), true), (.sh (.one (.int .i64)), false), (.sh (.arr (.int .u8) none), false)]⟩, [])]
noncomputable def xdr_Reader_Bool_g (N : Nat) : GS := { ins := ⟨[(0, (.av (.one (.const (.ptr ⟨0, 0, 0, 0⟩)))))], [(some (.one (.const (.slw 4 1))), true), (some (.one (.int .i64)), true), (some (.one (.int .i64)), true), (some (.one (.int .i64)), false), (some (.arr (.int .u8) none), false)]⟩, lend := [.keep], outs := xdr_Reader_Bool_o.map fun s => ssOf s.1, its := [.int, .int, .int, .lst (.int .u8)], ots := [[.bool, .int, .int, .int, .lst (.int .u8)]], F := xdr_Reader_Bool N }
noncomputable def xdr_Reader_Bool_CA (N : Nat) (f0 : Int × Int × Int × Int × Int × (List Int) → Option (Int × Int × Int × Int × (List Int))) : Nat → List GS := fun k => tabOf k [(54, [{ xdr_Reader_most_g N with F := f0 }])]
theorem xdr_Reader_Bool_CE (N : Nat) : xdr_Reader_Bool_CA N (xdr_Reader_most N) = xdr_Reader_Bool_C N := by kernel_rfl
theorem xdr_Reader_Bool_t (N : Nat) : TabC Try.prog (xdr_Reader_Bool_C N) := tab_ok ⟨⟨xdr_Reader_most_ok N, trivial⟩, trivial⟩
theorem xdr_Reader_Bool_i : loopsOf xdr_Reader_Bool_c = [] := by kernel_rfl
noncomputable def xdr_Reader_Bool_a (N : Nat) (f0 : Int × Int × Int × Int × Int × (List Int) → Option (Int × Int × Int × Int × (List Int))) (x : Int × Int × Int × (List Int)) : Option (Bool × Int × Int × Int × (List Int)) :=
  (Option.bind (f0 ((1 : Int), (10 : Int), x.1, x.2.1, x.2.2.1, x.2.2.2)) fun r1 =>
  (some ((decide (r1.1 = (1 : Int))), r1.2.1, r1.2.2.1, r1.2.2.2.1, r1.2.2.2.2)))
theorem xdr_Reader_Bool_f (N : Nat) (f0 : Int × Int × Int × Int × Int × (List Int) → Option (Int × Int × Int × Int × (List Int))) (x) : xdr_Reader_Bool_a N f0 x = fnStep Γ (xdr_Reader_Bool_CA N f0) (xdr_Reader_Bool_J N) 6 Try.f16.results.toList (xdr_Reader_Bool_g N) xdr_Reader_Bool_o xdr_Reader_Bool_c x := by kernel_rfl
theorem xdr_Reader_Bool_e (N : Nat) (x) : (xdr_Reader_Bool_g N).F x = fnStep Γ (xdr_Reader_Bool_C N) (xdr_Reader_Bool_J N) 6 Try.f16.results.toList (xdr_Reader_Bool_g N) xdr_Reader_Bool_o xdr_Reader_Bool_c x := by
  rw [← xdr_Reader_Bool_CE N]
  exact Eq.trans (by kernel_rfl) (xdr_Reader_Bool_f N (xdr_Reader_most N) x)
theorem xdr_Reader_Bool_y : Try.f16.body = some xdr_Reader_Bool_c := by kernel_rfl
theorem xdr_Reader_Bool_n : (Try.f16.name == "runtime.NumGoroutine") = false := by kernel_rfl
theorem xdr_Reader_Bool_ok (N : Nat) : FnDoes Try.prog 16 (xdr_Reader_Bool_g N) := fn_ok tabOK (xdr_Reader_Bool_t N) mixedOK (J := xdr_Reader_Bool_J N) (body := xdr_Reader_Bool_c) Try.func16 xdr_Reader_Bool_y xdr_Reader_Bool_n Try.ntmps16 (jok_from xdr_Reader_Bool_i trivial) rfl rfl (le_of_ble rfl) (xdr_Reader_Bool_e N)
noncomputable def xdr_Reader_Why_c : Code := codeOf Try.f25.body
noncomputable def xdr_Reader_Why_J (N : Nat) : Nat → Hint := fun cx => hintOf cx []
noncomputable def xdr_Reader_Why_C (N : Nat) : Nat → List GS := fun k => tabOf k []
def xdr_Reader_Why_o : List (Shp × List Nat) := [(⟨[(0, (.tup [(.one (.int .i64)), (.one (.int .i64))]))], [(.sh (.one (.const (.slw 4 1))), true), (.sh (.one (.int .i64)), true), (.sh (.one (.int .i64)), true), (.sh (.one (.int .i64)), false), (.sh (.arr (.int .u8) none), false)]⟩, [])]
noncomputable def xdr_Reader_Why_g (N : Nat) : GS := { ins := ⟨[(0, (.av (.one (.const (.ptr ⟨0, 0, 0, 0⟩)))))], [(some (.one (.const (.slw 4 1))), true), (some (.one (.int .i64)), true), (some (.one (.int .i64)), true), (some (.one (.int .i64)), false), (some (.arr (.int .u8) none), false)]⟩, lend := [.keep], outs := xdr_Reader_Why_o.map fun s => ssOf s.1, its := [.int, .int, .int, .lst (.int .u8)], ots := [[.int, .int, .int, .int, .int, .lst (.int .u8)]], F := xdr_Reader_Why }
theorem xdr_Reader_Why_t (N : Nat) : TabC Try.prog (xdr_Reader_Why_C N) := tab_ok trivial
theorem xdr_Reader_Why_i : loopsOf xdr_Reader_Why_c = [] := by kernel_rfl
theorem xdr_Reader_Why_e (N : Nat) (x) : (xdr_Reader_Why_g N).F x = fnStep Γ (xdr_Reader_Why_C N) (xdr_Reader_Why_J N) 14 Try.f25.results.toList (xdr_Reader_Why_g N) xdr_Reader_Why_o xdr_Reader_Why_c x := by kernel_rfl
theorem xdr_Reader_Why_y : Try.f25.body = some xdr_Reader_Why_c := by kernel_rfl
theorem xdr_Reader_Why_n : (Try.f25.name == "runtime.NumGoroutine") = false := by kernel_rfl
theorem xdr_Reader_Why_ok (N : Nat) : FnDoes Try.prog 25 (xdr_Reader_Why_g N) := fn_ok tabOK (xdr_Reader_Why_t N) mixedOK (J := xdr_Reader_Why_J N) (body := xdr_Reader_Why_c) Try.func25 xdr_Reader_Why_y xdr_Reader_Why_n Try.ntmps25 (jok_from xdr_Reader_Why_i trivial) rfl rfl (le_of_ble rfl) (xdr_Reader_Why_e N)
noncomputable def granarylaw01_live_c : Code := codeOf Try.f8.body
noncomputable def granarylaw01_live_J (N : Nat) : Nat → Hint := fun cx => hintOf cx [(0, { reg := fun k => assoc0 k [(7, ⟨⟨[(39, (.av (.one .bool)))], [(.sh (.one (.const (.slw 3 1))), true), (.sh (.one (.int .i64)), false), (.dead, false), (.sh (.arr (.int .u8) none), false), (.keep, false), (.sh (.one (.const (.slw 9 1))), true), (.sh (.one (.int .i64)), true), (.sh (.one (.int .i64)), true), (.sh (.one (.int .i64)), false), (.sh (.arr (.int .u8) none), false)]⟩, [], [0, 1, 3, 5, 6, 7, 8, 9], [.bool, .int, .lst (.int .u8), .int, .int, .int, .lst (.int .u8)]⟩)], cnd := fun k => assoc0 k [], loop := fun k => assoc0 k [], nil := fun k => assoc0 k [], unr := fun k => assocN k [], blk := fun k => assoc0 k [] })]
noncomputable def granarylaw01_live_C (N : Nat) : Nat → List GS := fun k => tabOf k [(9, [xdr_NewWriter_g N]), (27, [xdr_Writer_Uint_g N]), (18, [xdr_Writer_Text_g N]), (11, [xdr_Writer_Bytes_g N]), (14, [xdr_NewReader_g N]), (34, [xdr_Reader_Uint_g N]), (17, [xdr_Reader_Text_g N]), (43, [xdr_Reader_Done_g N]), (12, [granarylaw01_num_g N]), (16, [xdr_Reader_Bool_g N]), (25, [xdr_Reader_Why_g N])]
def granarylaw01_live_o : List (Shp × List Nat) := [(⟨[(0, (.av (.one .bool)))], []⟩, [])]
noncomputable def granarylaw01_live_g (N : Nat) : GS := { ins := ⟨[], []⟩, lend := [], outs := granarylaw01_live_o.map fun s => ssOf s.1, its := [], ots := [[.bool]], F := granarylaw01_live N }
noncomputable def granarylaw01_live_CA (N : Nat) (f0 : Unit → Option (Unit)) (f1 : Int × Int → Option (Int × (List Int))) (f2 : (List UInt8) × Int × Int × (List Int) → Option (Int × (List Int))) (f3 : Int × (List Int) → Option (Int × (List Int) × (List Int))) (f4 : (List Int) → Option ((List Int))) (f5 : Int × Int × Int × (List Int) → Option (Int × Int × Int × Int × (List Int))) (f6 : Int × Int × Int × Int × (List Int) → Option ((List UInt8) × Int × Int × Int × (List Int))) (f7 : Int × Int × Int × (List Int) → Option (Int × Int × Int × Int × (List Int))) (f8 : Int → Option (Int)) (f9 : Int × Int × Int × (List Int) → Option (Bool × Int × Int × Int × (List Int))) (f10 : Int × Int × Int × (List Int) → Option (Int × Int × Int × Int × Int × (List Int))) : Nat → List GS := fun k => tabOf k [(9, [{ xdr_NewWriter_g N with F := f0 }]), (27, [{ xdr_Writer_Uint_g N with F := f1 }]), (18, [{ xdr_Writer_Text_g N with F := f2 }]), (11, [{ xdr_Writer_Bytes_g N with F := f3 }]), (14, [{ xdr_NewReader_g N with F := f4 }]), (34, [{ xdr_Reader_Uint_g N with F := f5 }]), (17, [{ xdr_Reader_Text_g N with F := f6 }]), (43, [{ xdr_Reader_Done_g N with F := f7 }]), (12, [{ granarylaw01_num_g N with F := f8 }]), (16, [{ xdr_Reader_Bool_g N with F := f9 }]), (25, [{ xdr_Reader_Why_g N with F := f10 }])]
theorem granarylaw01_live_CE (N : Nat) : granarylaw01_live_CA N (xdr_NewWriter) (xdr_Writer_Uint N) (xdr_Writer_Text N) (xdr_Writer_Bytes) (xdr_NewReader) (xdr_Reader_Uint N) (xdr_Reader_Text N) (xdr_Reader_Done) (granarylaw01_num) (xdr_Reader_Bool N) (xdr_Reader_Why) = granarylaw01_live_C N := by kernel_rfl
theorem granarylaw01_live_t (N : Nat) : TabC Try.prog (granarylaw01_live_C N) := tab_ok ⟨⟨xdr_NewWriter_ok N, trivial⟩, ⟨xdr_Writer_Uint_ok N, trivial⟩, ⟨xdr_Writer_Text_ok N, trivial⟩, ⟨xdr_Writer_Bytes_ok N, trivial⟩, ⟨xdr_NewReader_ok N, trivial⟩, ⟨xdr_Reader_Uint_ok N, trivial⟩, ⟨xdr_Reader_Text_ok N, trivial⟩, ⟨xdr_Reader_Done_ok N, trivial⟩, ⟨granarylaw01_num_ok N, trivial⟩, ⟨xdr_Reader_Bool_ok N, trivial⟩, ⟨xdr_Reader_Why_ok N, trivial⟩, trivial⟩
theorem granarylaw01_live_i : loopsOf granarylaw01_live_c = [] := by kernel_rfl
noncomputable def granarylaw01_live_a (N : Nat) (f0 : Unit → Option (Unit)) (f1 : Int × Int → Option (Int × (List Int))) (f2 : (List UInt8) × Int × Int × (List Int) → Option (Int × (List Int))) (f3 : Int × (List Int) → Option (Int × (List Int) × (List Int))) (f4 : (List Int) → Option ((List Int))) (f5 : Int × Int × Int × (List Int) → Option (Int × Int × Int × Int × (List Int))) (f6 : Int × Int × Int × Int × (List Int) → Option ((List UInt8) × Int × Int × Int × (List Int))) (f7 : Int × Int × Int × (List Int) → Option (Int × Int × Int × Int × (List Int))) (f8 : Int → Option (Int)) (f9 : Int × Int × Int × (List Int) → Option (Bool × Int × Int × Int × (List Int))) (f10 : Int × Int × Int × (List Int) → Option (Int × Int × Int × Int × Int × (List Int))) (x : Unit) : Option (Bool) :=
  (Option.bind (f0 ()) fun r1 =>
  (Option.bind (f1 ((258 : Int), (0 : Int))) fun r2 =>
  (Option.bind (f2 (([97, 98] : List UInt8), (9 : Int), r2.1, r2.2)) fun r3 =>
  (Option.bind (f3 (r3.1, r3.2)) fun r4 =>
  (Option.bind (f4 r4.2.2) fun r5 =>
  (Option.bind
  (Option.bind (f3 (r4.1, r4.2.1)) fun r6 =>
  (cond (!(decide ((List.map (fun (n : Int) => UInt8.ofNat n.toNat) r6.2.2) = ([0, 0, 1, 2, 0, 0, 0, 2, 97, 98, 0, 0] : List UInt8))))
  (some (true, r6.1, r6.2.1, (0 : Int), (0 : Int), (0 : Int), r5))
  (Option.bind (f5 ((0 : Int), (0 : Int), (0 : Int), r5)) fun r9 =>
  (cond (!(decide (r9.1 = (258 : Int))))
  (some (true, r6.1, r6.2.1, r9.2.1, r9.2.2.1, r9.2.2.2.1, r9.2.2.2.2))
  (Option.bind (f6 ((9 : Int), r9.2.1, r9.2.2.1, r9.2.2.2.1, r9.2.2.2.2)) fun r11 =>
  (cond (!(decide (r11.1 = ([97, 98] : List UInt8))))
  (some (true, r6.1, r6.2.1, r11.2.1, r11.2.2.1, r11.2.2.2.1, r11.2.2.2.2))
  (Option.bind (f7 (r11.2.1, r11.2.2.1, r11.2.2.2.1, r11.2.2.2.2)) fun r13 =>
  (Option.bind (f8 r13.1) fun r14 =>
  (some ((!(decide (r14 = (0 : Int)))), r6.1, r6.2.1, r13.2.1, r13.2.2.1, r13.2.2.2.1, r13.2.2.2.2))))))))))
  fun r16 =>
  (cond r16.1
  (some false)
  (let v17 : List Int := ([(0 : Int), (0 : Int), (0 : Int), (2 : Int)] : List Int)
  (cond (cond (decide (4 ≤ (List.length v17))) true false)
  (Option.bind (f4 (List.take 4 (List.drop 0 v17))) fun r18 =>
  (Option.bind (f9 ((0 : Int), (0 : Int), (0 : Int), r18)) fun r19 =>
  (cond r19.1
  (some false)
  (Option.bind (f10 (r19.2.1, r19.2.2.1, r19.2.2.2.1, r19.2.2.2.2)) fun r20 =>
  (Option.bind (f8 r20.1) fun r21 =>
  (some (decide (r21 = (10 : Int)))))))))
  none)))))))))
theorem granarylaw01_live_f (N : Nat) (f0 : Unit → Option (Unit)) (f1 : Int × Int → Option (Int × (List Int))) (f2 : (List UInt8) × Int × Int × (List Int) → Option (Int × (List Int))) (f3 : Int × (List Int) → Option (Int × (List Int) × (List Int))) (f4 : (List Int) → Option ((List Int))) (f5 : Int × Int × Int × (List Int) → Option (Int × Int × Int × Int × (List Int))) (f6 : Int × Int × Int × Int × (List Int) → Option ((List UInt8) × Int × Int × Int × (List Int))) (f7 : Int × Int × Int × (List Int) → Option (Int × Int × Int × Int × (List Int))) (f8 : Int → Option (Int)) (f9 : Int × Int × Int × (List Int) → Option (Bool × Int × Int × Int × (List Int))) (f10 : Int × Int × Int × (List Int) → Option (Int × Int × Int × Int × Int × (List Int))) (x) : granarylaw01_live_a N f0 f1 f2 f3 f4 f5 f6 f7 f8 f9 f10 x = fnStep Γ (granarylaw01_live_CA N f0 f1 f2 f3 f4 f5 f6 f7 f8 f9 f10) (granarylaw01_live_J N) 56 Try.f8.results.toList (granarylaw01_live_g N) granarylaw01_live_o granarylaw01_live_c x := by kernel_rfl
theorem granarylaw01_live_e (N : Nat) (x) : (granarylaw01_live_g N).F x = fnStep Γ (granarylaw01_live_C N) (granarylaw01_live_J N) 56 Try.f8.results.toList (granarylaw01_live_g N) granarylaw01_live_o granarylaw01_live_c x := by
  rw [← granarylaw01_live_CE N]
  exact Eq.trans (by kernel_rfl) (granarylaw01_live_f N (xdr_NewWriter) (xdr_Writer_Uint N) (xdr_Writer_Text N) (xdr_Writer_Bytes) (xdr_NewReader) (xdr_Reader_Uint N) (xdr_Reader_Text N) (xdr_Reader_Done) (granarylaw01_num) (xdr_Reader_Bool N) (xdr_Reader_Why) x)
theorem granarylaw01_live_y : Try.f8.body = some granarylaw01_live_c := by kernel_rfl
theorem granarylaw01_live_n : (Try.f8.name == "runtime.NumGoroutine") = false := by kernel_rfl
theorem granarylaw01_live_ok (N : Nat) : FnDoes Try.prog 8 (granarylaw01_live_g N) := fn_ok tabOK (granarylaw01_live_t N) mixedOK (J := granarylaw01_live_J N) (body := granarylaw01_live_c) Try.func8 granarylaw01_live_y granarylaw01_live_n Try.ntmps8 (jok_from granarylaw01_live_i ⟨trivial, trivial⟩) rfl rfl (le_of_ble rfl) (granarylaw01_live_e N)
noncomputable def xdr_Writer_Bool_v1_c : Code := codeOf Try.f15.body
noncomputable def xdr_Writer_Bool_v1_J (N : Nat) : Nat → Hint := fun cx => hintOf cx []
noncomputable def xdr_Writer_Bool_v1_C (N : Nat) : Nat → List GS := fun k => tabOf k [(27, [xdr_Writer_Uint_g N])]
def xdr_Writer_Bool_v1_o : List (Shp × List Nat) := [(⟨[(0, (.tup []))], [(.sh (.one (.const (.slw 2 1))), true), (.sh (.one (.int .i64)), false), (.sh (.arr (.int .u8) none), false)]⟩, [])]
noncomputable def xdr_Writer_Bool_v1_g (N : Nat) : GS := { ins := ⟨[(0, (.av (.one (.const (.ptr ⟨0, 0, 0, 0⟩))))), (1, (.av (.one .bool)))], [(some (.one (.const .nils)), true), (some (.one (.int .i64)), false)]⟩, lend := [.keep, .keep], outs := xdr_Writer_Bool_v1_o.map fun s => ssOf s.1, its := [.bool, .int], ots := [[.int, .lst (.int .u8)]], F := xdr_Writer_Bool_v1 N }
noncomputable def xdr_Writer_Bool_v1_CA (N : Nat) (f0 : Int × Int → Option (Int × (List Int))) : Nat → List GS := fun k => tabOf k [(27, [{ xdr_Writer_Uint_g N with F := f0 }])]
theorem xdr_Writer_Bool_v1_CE (N : Nat) : xdr_Writer_Bool_v1_CA N (xdr_Writer_Uint N) = xdr_Writer_Bool_v1_C N := by kernel_rfl
theorem xdr_Writer_Bool_v1_t (N : Nat) : TabC Try.prog (xdr_Writer_Bool_v1_C N) := tab_ok ⟨⟨xdr_Writer_Uint_ok N, trivial⟩, trivial⟩
theorem xdr_Writer_Bool_v1_i : loopsOf xdr_Writer_Bool_v1_c = [] := by kernel_rfl
noncomputable def xdr_Writer_Bool_v1_a (N : Nat) (f0 : Int × Int → Option (Int × (List Int))) (x : Bool × Int) : Option (Int × (List Int)) :=
  (cond x.1
  (Option.bind (f0 ((1 : Int), x.2)) fun r1 =>
  (some (r1.1, r1.2)))
  (Option.bind (f0 ((0 : Int), x.2)) fun r2 =>
  (some (r2.1, r2.2))))
theorem xdr_Writer_Bool_v1_f (N : Nat) (f0 : Int × Int → Option (Int × (List Int))) (x) : xdr_Writer_Bool_v1_a N f0 x = fnStep Γ (xdr_Writer_Bool_v1_CA N f0) (xdr_Writer_Bool_v1_J N) 9 Try.f15.results.toList (xdr_Writer_Bool_v1_g N) xdr_Writer_Bool_v1_o xdr_Writer_Bool_v1_c x := by kernel_rfl
theorem xdr_Writer_Bool_v1_e (N : Nat) (x) : (xdr_Writer_Bool_v1_g N).F x = fnStep Γ (xdr_Writer_Bool_v1_C N) (xdr_Writer_Bool_v1_J N) 9 Try.f15.results.toList (xdr_Writer_Bool_v1_g N) xdr_Writer_Bool_v1_o xdr_Writer_Bool_v1_c x := by
  rw [← xdr_Writer_Bool_v1_CE N]
  exact Eq.trans (by kernel_rfl) (xdr_Writer_Bool_v1_f N (xdr_Writer_Uint N) x)
theorem xdr_Writer_Bool_v1_y : Try.f15.body = some xdr_Writer_Bool_v1_c := by kernel_rfl
theorem xdr_Writer_Bool_v1_n : (Try.f15.name == "runtime.NumGoroutine") = false := by kernel_rfl
theorem xdr_Writer_Bool_v1_ok (N : Nat) : FnDoes Try.prog 15 (xdr_Writer_Bool_v1_g N) := fn_ok tabOK (xdr_Writer_Bool_v1_t N) mixedOK (J := xdr_Writer_Bool_v1_J N) (body := xdr_Writer_Bool_v1_c) Try.func15 xdr_Writer_Bool_v1_y xdr_Writer_Bool_v1_n Try.ntmps15 (jok_from xdr_Writer_Bool_v1_i trivial) rfl rfl (le_of_ble rfl) (xdr_Writer_Bool_v1_e N)
noncomputable def xdr_Writer_Why_v1_c : Code := codeOf Try.f13.body
noncomputable def xdr_Writer_Why_v1_J (N : Nat) : Nat → Hint := fun cx => hintOf cx []
noncomputable def xdr_Writer_Why_v1_C (N : Nat) : Nat → List GS := fun k => tabOf k []
def xdr_Writer_Why_v1_o : List (Shp × List Nat) := [(⟨[(0, (.av (.one (.int .i64))))], [(.sh (.one (.const (.slw 2 1))), true), (.sh (.one (.int .i64)), false), (.sh (.arr (.int .u8) none), false)]⟩, [])]
noncomputable def xdr_Writer_Why_v1_g (N : Nat) : GS := { ins := ⟨[(0, (.av (.one (.const (.ptr ⟨0, 0, 0, 0⟩)))))], [(some (.one (.const (.slw 2 1))), true), (some (.one (.int .i64)), false), (some (.arr (.int .u8) none), false)]⟩, lend := [.keep], outs := xdr_Writer_Why_v1_o.map fun s => ssOf s.1, its := [.int, .lst (.int .u8)], ots := [[.int, .int, .lst (.int .u8)]], F := xdr_Writer_Why_v1 }
theorem xdr_Writer_Why_v1_t (N : Nat) : TabC Try.prog (xdr_Writer_Why_v1_C N) := tab_ok trivial
theorem xdr_Writer_Why_v1_i : loopsOf xdr_Writer_Why_v1_c = [] := by kernel_rfl
theorem xdr_Writer_Why_v1_e (N : Nat) (x) : (xdr_Writer_Why_v1_g N).F x = fnStep Γ (xdr_Writer_Why_v1_C N) (xdr_Writer_Why_v1_J N) 9 Try.f13.results.toList (xdr_Writer_Why_v1_g N) xdr_Writer_Why_v1_o xdr_Writer_Why_v1_c x := by kernel_rfl
theorem xdr_Writer_Why_v1_y : Try.f13.body = some xdr_Writer_Why_v1_c := by kernel_rfl
theorem xdr_Writer_Why_v1_n : (Try.f13.name == "runtime.NumGoroutine") = false := by kernel_rfl
theorem xdr_Writer_Why_v1_ok (N : Nat) : FnDoes Try.prog 13 (xdr_Writer_Why_v1_g N) := fn_ok tabOK (xdr_Writer_Why_v1_t N) mixedOK (J := xdr_Writer_Why_v1_J N) (body := xdr_Writer_Why_v1_c) Try.func13 xdr_Writer_Why_v1_y xdr_Writer_Why_v1_n Try.ntmps13 (jok_from xdr_Writer_Why_v1_i trivial) rfl rfl (le_of_ble rfl) (xdr_Writer_Why_v1_e N)
noncomputable def xdr_Writer_fits_v2_c : Code := codeOf Try.f57.body
noncomputable def xdr_Writer_fits_v2_J (N : Nat) : Nat → Hint := fun cx => hintOf cx [(0, { reg := fun k => assoc0 k [], cnd := fun k => assoc0 k [(11, ⟨[], [1], [(.normal, ⟨[], [(.keep, true), (.sh (.one (.int .i64)), false)]⟩)], [[.int]]⟩)], loop := fun k => assoc0 k [], nil := fun k => assoc0 k [], unr := fun k => assocN k [], blk := fun k => assoc0 k [] })]
noncomputable def xdr_Writer_fits_v2_C (N : Nat) : Nat → List GS := fun k => tabOf k [(58, [xdr_Writer_bad_g N])]
def xdr_Writer_fits_v2_o : List (Shp × List Nat) := [(⟨[(0, (.av (.one .bool)))], [(.sh (.one (.const .nils)), true), (.sh (.one (.int .i64)), false)]⟩, [])]
noncomputable def xdr_Writer_fits_v2_g (N : Nat) : GS := { ins := ⟨[(0, (.av (.one (.const (.ptr ⟨0, 0, 0, 0⟩))))), (1, (.av (.one (.int .i64)))), (2, (.av (.one (.int .i64))))], [(some (.one (.const .nils)), true), (some (.one (.int .i64)), false)]⟩, lend := [.keep, .keep, .keep], outs := xdr_Writer_fits_v2_o.map fun s => ssOf s.1, its := [.int, .int, .int], ots := [[.bool, .int]], F := xdr_Writer_fits_v2 }
noncomputable def xdr_Writer_fits_v2_CA (N : Nat) (f0 : Int → Option (Bool × Int)) : Nat → List GS := fun k => tabOf k [(58, [{ xdr_Writer_bad_g N with F := f0 }])]
theorem xdr_Writer_fits_v2_CE (N : Nat) : xdr_Writer_fits_v2_CA N (xdr_Writer_bad) = xdr_Writer_fits_v2_C N := by kernel_rfl
theorem xdr_Writer_fits_v2_t (N : Nat) : TabC Try.prog (xdr_Writer_fits_v2_C N) := tab_ok ⟨⟨xdr_Writer_bad_ok N, trivial⟩, trivial⟩
theorem xdr_Writer_fits_v2_i : loopsOf xdr_Writer_fits_v2_c = [] := by kernel_rfl
noncomputable def xdr_Writer_fits_v2_a (N : Nat) (f0 : Int → Option (Bool × Int)) (x : Int × Int × Int) : Option (Bool × Int) :=
  (Option.bind (f0 x.2.2) fun r1 =>
  (cond r1.1
  (some (false, r1.2))
  (Option.bind
  (cond (decide (x.2.1 < x.1))
  (some (1 : Int))
  (some r1.2))
  fun r3 =>
  (some ((decide (x.1 ≤ x.2.1)), r3)))))
theorem xdr_Writer_fits_v2_f (N : Nat) (f0 : Int → Option (Bool × Int)) (x) : xdr_Writer_fits_v2_a N f0 x = fnStep Γ (xdr_Writer_fits_v2_CA N f0) (xdr_Writer_fits_v2_J N) 18 Try.f57.results.toList (xdr_Writer_fits_v2_g N) xdr_Writer_fits_v2_o xdr_Writer_fits_v2_c x := by kernel_rfl
theorem xdr_Writer_fits_v2_e (N : Nat) (x) : (xdr_Writer_fits_v2_g N).F x = fnStep Γ (xdr_Writer_fits_v2_C N) (xdr_Writer_fits_v2_J N) 18 Try.f57.results.toList (xdr_Writer_fits_v2_g N) xdr_Writer_fits_v2_o xdr_Writer_fits_v2_c x := by
  rw [← xdr_Writer_fits_v2_CE N]
  exact Eq.trans (by kernel_rfl) (xdr_Writer_fits_v2_f N (xdr_Writer_bad) x)
theorem xdr_Writer_fits_v2_y : Try.f57.body = some xdr_Writer_fits_v2_c := by kernel_rfl
theorem xdr_Writer_fits_v2_n : (Try.f57.name == "runtime.NumGoroutine") = false := by kernel_rfl
theorem xdr_Writer_fits_v2_ok (N : Nat) : FnDoes Try.prog 57 (xdr_Writer_fits_v2_g N) := fn_ok tabOK (xdr_Writer_fits_v2_t N) mixedOK (J := xdr_Writer_fits_v2_J N) (body := xdr_Writer_fits_v2_c) Try.func57 xdr_Writer_fits_v2_y xdr_Writer_fits_v2_n Try.ntmps57 (jok_from xdr_Writer_fits_v2_i ⟨trivial, trivial⟩) rfl rfl (le_of_ble rfl) (xdr_Writer_fits_v2_e N)
noncomputable def xdr_Writer_Opaque_v3_c : Code := codeOf Try.f44.body
noncomputable def xdr_Writer_Opaque_v3_J (N : Nat) : Nat → Hint := fun cx => hintOf cx [(0, { reg := fun k => assoc0 k [], cnd := fun k => assoc0 k [(10, ⟨[], [0, 1], [(.normal, ⟨[], [(.sh (.one (.const (.slw 2 1))), true), (.sh (.one (.int .i64)), false), (.sh (.arr (.int .u8) none), false)]⟩)], [[.int, .lst (.int .u8)]]⟩)], loop := fun k => assoc0 k [], nil := fun k => assoc0 k [], unr := fun k => assocN k [], blk := fun k => assoc0 k [] })]
noncomputable def xdr_Writer_Opaque_v3_C (N : Nat) : Nat → List GS := fun k => tabOf k [(57, [xdr_Writer_fits_v2_g N]), (27, [xdr_Writer_Uint_g N]), (30, [xdr_Writer_Fixed_g N])]
def xdr_Writer_Opaque_v3_o : List (Shp × List Nat) := [(⟨[(0, (.tup []))], [(.sh (.one (.const (.slw 2 1))), true), (.sh (.one (.int .i64)), false), (.sh (.arr (.int .u8) none), false)]⟩, [])]
noncomputable def xdr_Writer_Opaque_v3_g (N : Nat) : GS := { ins := ⟨[(0, (.av (.one (.const (.ptr ⟨0, 0, 0, 0⟩))))), (1, (.av (.one (.rsl (.int .u8))))), (2, (.av (.one (.int .i64))))], [(some (.one (.const .nils)), true), (some (.one (.int .i64)), false)]⟩, lend := [.keep, .lend (.int .u8), .keep], outs := xdr_Writer_Opaque_v3_o.map fun s => ssOf s.1, its := [.lst (.int .u8), .int, .int], ots := [[.int, .lst (.int .u8)]], F := xdr_Writer_Opaque_v3 N }
noncomputable def xdr_Writer_Opaque_v3_CA (N : Nat) (f0 : Int × Int × Int → Option (Bool × Int)) (f1 : Int × Int → Option (Int × (List Int))) (f2 : (List Int) × Int × (List Int) → Option (Int × (List Int))) : Nat → List GS := fun k => tabOf k [(57, [{ xdr_Writer_fits_v2_g N with F := f0 }]), (27, [{ xdr_Writer_Uint_g N with F := f1 }]), (30, [{ xdr_Writer_Fixed_g N with F := f2 }])]
theorem xdr_Writer_Opaque_v3_CE (N : Nat) : xdr_Writer_Opaque_v3_CA N (xdr_Writer_fits_v2) (xdr_Writer_Uint N) (xdr_Writer_Fixed N) = xdr_Writer_Opaque_v3_C N := by kernel_rfl
theorem xdr_Writer_Opaque_v3_t (N : Nat) : TabC Try.prog (xdr_Writer_Opaque_v3_C N) := tab_ok ⟨⟨xdr_Writer_fits_v2_ok N, trivial⟩, ⟨xdr_Writer_Uint_ok N, trivial⟩, ⟨xdr_Writer_Fixed_ok N, trivial⟩, trivial⟩
theorem xdr_Writer_Opaque_v3_i : loopsOf xdr_Writer_Opaque_v3_c = [] := by kernel_rfl
noncomputable def xdr_Writer_Opaque_v3_a (N : Nat) (f0 : Int × Int × Int → Option (Bool × Int)) (f1 : Int × Int → Option (Int × (List Int))) (f2 : (List Int) × Int × (List Int) → Option (Int × (List Int))) (x : (List Int) × Int × Int) : Option (Int × (List Int)) :=
  (Option.bind (f0 ((((List.length x.1) : Nat) : Int), x.2.1, x.2.2)) fun r2 =>
  (Option.bind
  (cond r2.1
  (Option.bind (f1 ((wrapF .u32 (((List.length x.1) : Nat) : Int)), r2.2)) fun r5 =>
  (Option.bind (f2 (x.1, r5.1, r5.2)) fun r6 =>
  (some (r6.1, r6.2))))
  (some (r2.2, ([] : List Int))))
  fun r7 =>
  (some (r7.1, r7.2))))
theorem xdr_Writer_Opaque_v3_f (N : Nat) (f0 : Int × Int × Int → Option (Bool × Int)) (f1 : Int × Int → Option (Int × (List Int))) (f2 : (List Int) × Int × (List Int) → Option (Int × (List Int))) (x) : xdr_Writer_Opaque_v3_a N f0 f1 f2 x = fnStep Γ (xdr_Writer_Opaque_v3_CA N f0 f1 f2) (xdr_Writer_Opaque_v3_J N) 19 Try.f44.results.toList (xdr_Writer_Opaque_v3_g N) xdr_Writer_Opaque_v3_o xdr_Writer_Opaque_v3_c x := by kernel_rfl
theorem xdr_Writer_Opaque_v3_e (N : Nat) (x) : (xdr_Writer_Opaque_v3_g N).F x = fnStep Γ (xdr_Writer_Opaque_v3_C N) (xdr_Writer_Opaque_v3_J N) 19 Try.f44.results.toList (xdr_Writer_Opaque_v3_g N) xdr_Writer_Opaque_v3_o xdr_Writer_Opaque_v3_c x := by
  rw [← xdr_Writer_Opaque_v3_CE N]
  exact Eq.trans (by kernel_rfl) (xdr_Writer_Opaque_v3_f N (xdr_Writer_fits_v2) (xdr_Writer_Uint N) (xdr_Writer_Fixed N) x)
theorem xdr_Writer_Opaque_v3_y : Try.f44.body = some xdr_Writer_Opaque_v3_c := by kernel_rfl
theorem xdr_Writer_Opaque_v3_n : (Try.f44.name == "runtime.NumGoroutine") = false := by kernel_rfl
theorem xdr_Writer_Opaque_v3_ok (N : Nat) : FnDoes Try.prog 44 (xdr_Writer_Opaque_v3_g N) := fn_ok tabOK (xdr_Writer_Opaque_v3_t N) mixedOK (J := xdr_Writer_Opaque_v3_J N) (body := xdr_Writer_Opaque_v3_c) Try.func44 xdr_Writer_Opaque_v3_y xdr_Writer_Opaque_v3_n Try.ntmps44 (jok_from xdr_Writer_Opaque_v3_i ⟨trivial, trivial⟩) rfl rfl (le_of_ble rfl) (xdr_Writer_Opaque_v3_e N)
noncomputable def xdr_Writer_Text_v2_c : Code := codeOf Try.f18.body
noncomputable def xdr_Writer_Text_v2_J (N : Nat) : Nat → Hint := fun cx => hintOf cx []
noncomputable def xdr_Writer_Text_v2_C (N : Nat) : Nat → List GS := fun k => tabOf k [(44, [xdr_Writer_Opaque_v3_g N])]
def xdr_Writer_Text_v2_o : List (Shp × List Nat) := [(⟨[(0, (.tup []))], [(.sh (.one (.const (.slw 2 1))), true), (.sh (.one (.int .i64)), false), (.sh (.arr (.int .u8) none), false)]⟩, [])]
noncomputable def xdr_Writer_Text_v2_g (N : Nat) : GS := { ins := ⟨[(0, (.av (.one (.const (.ptr ⟨0, 0, 0, 0⟩))))), (1, (.av (.one .str))), (2, (.av (.one (.int .i64))))], [(some (.one (.const .nils)), true), (some (.one (.int .i64)), false)]⟩, lend := [.keep, .keep, .keep], outs := xdr_Writer_Text_v2_o.map fun s => ssOf s.1, its := [.str, .int, .int], ots := [[.int, .lst (.int .u8)]], F := xdr_Writer_Text_v2 N }
noncomputable def xdr_Writer_Text_v2_CA (N : Nat) (f0 : (List Int) × Int × Int → Option (Int × (List Int))) : Nat → List GS := fun k => tabOf k [(44, [{ xdr_Writer_Opaque_v3_g N with F := f0 }])]
theorem xdr_Writer_Text_v2_CE (N : Nat) : xdr_Writer_Text_v2_CA N (xdr_Writer_Opaque_v3 N) = xdr_Writer_Text_v2_C N := by kernel_rfl
theorem xdr_Writer_Text_v2_t (N : Nat) : TabC Try.prog (xdr_Writer_Text_v2_C N) := tab_ok ⟨⟨xdr_Writer_Opaque_v3_ok N, trivial⟩, trivial⟩
theorem xdr_Writer_Text_v2_i : loopsOf xdr_Writer_Text_v2_c = [] := by kernel_rfl
noncomputable def xdr_Writer_Text_v2_a (N : Nat) (f0 : (List Int) × Int × Int → Option (Int × (List Int))) (x : (List UInt8) × Int × Int) : Option (Int × (List Int)) :=
  (Option.bind (f0 ((List.map (fun b => (b.toNat : Int)) x.1), x.2.1, x.2.2)) fun r2 =>
  (some (r2.1, r2.2)))
theorem xdr_Writer_Text_v2_f (N : Nat) (f0 : (List Int) × Int × Int → Option (Int × (List Int))) (x) : xdr_Writer_Text_v2_a N f0 x = fnStep Γ (xdr_Writer_Text_v2_CA N f0) (xdr_Writer_Text_v2_J N) 11 Try.f18.results.toList (xdr_Writer_Text_v2_g N) xdr_Writer_Text_v2_o xdr_Writer_Text_v2_c x := by kernel_rfl
theorem xdr_Writer_Text_v2_e (N : Nat) (x) : (xdr_Writer_Text_v2_g N).F x = fnStep Γ (xdr_Writer_Text_v2_C N) (xdr_Writer_Text_v2_J N) 11 Try.f18.results.toList (xdr_Writer_Text_v2_g N) xdr_Writer_Text_v2_o xdr_Writer_Text_v2_c x := by
  rw [← xdr_Writer_Text_v2_CE N]
  exact Eq.trans (by kernel_rfl) (xdr_Writer_Text_v2_f N (xdr_Writer_Opaque_v3 N) x)
theorem xdr_Writer_Text_v2_y : Try.f18.body = some xdr_Writer_Text_v2_c := by kernel_rfl
theorem xdr_Writer_Text_v2_n : (Try.f18.name == "runtime.NumGoroutine") = false := by kernel_rfl
theorem xdr_Writer_Text_v2_ok (N : Nat) : FnDoes Try.prog 18 (xdr_Writer_Text_v2_g N) := fn_ok tabOK (xdr_Writer_Text_v2_t N) mixedOK (J := xdr_Writer_Text_v2_J N) (body := xdr_Writer_Text_v2_c) Try.func18 xdr_Writer_Text_v2_y xdr_Writer_Text_v2_n Try.ntmps18 (jok_from xdr_Writer_Text_v2_i trivial) rfl rfl (le_of_ble rfl) (xdr_Writer_Text_v2_e N)
noncomputable def granarylaw01_putText_c : Code := codeOf Try.f22.body
noncomputable def granarylaw01_putText_J (N : Nat) : Nat → Hint := fun cx => hintOf cx []
noncomputable def granarylaw01_putText_C (N : Nat) : Nat → List GS := fun k => tabOf k [(18, [xdr_Writer_Text_g N])]
def granarylaw01_putText_o : List (Shp × List Nat) := [(⟨[(0, (.tup []))], [(.sh (.one (.const (.slw 3 1))), true), (.sh (.one (.int .i64)), false), (.dead, false), (.sh (.arr (.int .u8) none), false)]⟩, [])]
noncomputable def granarylaw01_putText_g (N : Nat) : GS := { ins := ⟨[(0, (.av (.one (.const (.ptr ⟨0, 0, 0, 0⟩))))), (1, (.av (.one .str)))], [(some (.one (.const (.slw 2 1))), true), (some (.one (.int .i64)), false), (some (.arr (.int .u8) none), false)]⟩, lend := [.keep, .keep], outs := granarylaw01_putText_o.map fun s => ssOf s.1, its := [.str, .int, .lst (.int .u8)], ots := [[.int, .lst (.int .u8)]], F := granarylaw01_putText N }
noncomputable def granarylaw01_putText_CA (N : Nat) (f0 : (List UInt8) × Int × Int × (List Int) → Option (Int × (List Int))) : Nat → List GS := fun k => tabOf k [(18, [{ xdr_Writer_Text_g N with F := f0 }])]
theorem granarylaw01_putText_CE (N : Nat) : granarylaw01_putText_CA N (xdr_Writer_Text N) = granarylaw01_putText_C N := by kernel_rfl
theorem granarylaw01_putText_t (N : Nat) : TabC Try.prog (granarylaw01_putText_C N) := tab_ok ⟨⟨xdr_Writer_Text_ok N, trivial⟩, trivial⟩
theorem granarylaw01_putText_i : loopsOf granarylaw01_putText_c = [] := by kernel_rfl
noncomputable def granarylaw01_putText_a (N : Nat) (f0 : (List UInt8) × Int × Int × (List Int) → Option (Int × (List Int))) (x : (List UInt8) × Int × (List Int)) : Option (Int × (List Int)) :=
  (Option.bind (f0 (x.1, (7 : Int), x.2.1, x.2.2)) fun r1 =>
  (some (r1.1, r1.2)))
theorem granarylaw01_putText_f (N : Nat) (f0 : (List UInt8) × Int × Int × (List Int) → Option (Int × (List Int))) (x) : granarylaw01_putText_a N f0 x = fnStep Γ (granarylaw01_putText_CA N f0) (granarylaw01_putText_J N) 7 Try.f22.results.toList (granarylaw01_putText_g N) granarylaw01_putText_o granarylaw01_putText_c x := by kernel_rfl
theorem granarylaw01_putText_e (N : Nat) (x) : (granarylaw01_putText_g N).F x = fnStep Γ (granarylaw01_putText_C N) (granarylaw01_putText_J N) 7 Try.f22.results.toList (granarylaw01_putText_g N) granarylaw01_putText_o granarylaw01_putText_c x := by
  rw [← granarylaw01_putText_CE N]
  exact Eq.trans (by kernel_rfl) (granarylaw01_putText_f N (xdr_Writer_Text N) x)
theorem granarylaw01_putText_y : Try.f22.body = some granarylaw01_putText_c := by kernel_rfl
theorem granarylaw01_putText_n : (Try.f22.name == "runtime.NumGoroutine") = false := by kernel_rfl
theorem granarylaw01_putText_ok (N : Nat) : FnDoes Try.prog 22 (granarylaw01_putText_g N) := fn_ok tabOK (granarylaw01_putText_t N) mixedOK (J := granarylaw01_putText_J N) (body := granarylaw01_putText_c) Try.func22 granarylaw01_putText_y granarylaw01_putText_n Try.ntmps22 (jok_from granarylaw01_putText_i trivial) rfl rfl (le_of_ble rfl) (granarylaw01_putText_e N)
noncomputable def xdr_Writer_Bool_v2_c : Code := codeOf Try.f15.body
noncomputable def xdr_Writer_Bool_v2_J (N : Nat) : Nat → Hint := fun cx => hintOf cx []
noncomputable def xdr_Writer_Bool_v2_C (N : Nat) : Nat → List GS := fun k => tabOf k [(27, [xdr_Writer_Uint_v1_g N])]
def xdr_Writer_Bool_v2_o : List (Shp × List Nat) := [(⟨[(0, (.tup []))], [(.sh (.one (.const (.slw 3 1))), true), (.sh (.one (.int .i64)), false), (.dead, false), (.sh (.arr (.int .u8) none), false)]⟩, [])]
noncomputable def xdr_Writer_Bool_v2_g (N : Nat) : GS := { ins := ⟨[(0, (.av (.one (.const (.ptr ⟨0, 0, 0, 0⟩))))), (1, (.av (.one .bool)))], [(some (.one (.const (.slw 2 1))), true), (some (.one (.int .i64)), false), (some (.arr (.int .u8) none), false)]⟩, lend := [.keep, .keep], outs := xdr_Writer_Bool_v2_o.map fun s => ssOf s.1, its := [.bool, .int, .lst (.int .u8)], ots := [[.int, .lst (.int .u8)]], F := xdr_Writer_Bool_v2 N }
noncomputable def xdr_Writer_Bool_v2_CA (N : Nat) (f0 : Int × Int × (List Int) → Option (Int × (List Int))) : Nat → List GS := fun k => tabOf k [(27, [{ xdr_Writer_Uint_v1_g N with F := f0 }])]
theorem xdr_Writer_Bool_v2_CE (N : Nat) : xdr_Writer_Bool_v2_CA N (xdr_Writer_Uint_v1 N) = xdr_Writer_Bool_v2_C N := by kernel_rfl
theorem xdr_Writer_Bool_v2_t (N : Nat) : TabC Try.prog (xdr_Writer_Bool_v2_C N) := tab_ok ⟨⟨xdr_Writer_Uint_v1_ok N, trivial⟩, trivial⟩
theorem xdr_Writer_Bool_v2_i : loopsOf xdr_Writer_Bool_v2_c = [] := by kernel_rfl
noncomputable def xdr_Writer_Bool_v2_a (N : Nat) (f0 : Int × Int × (List Int) → Option (Int × (List Int))) (x : Bool × Int × (List Int)) : Option (Int × (List Int)) :=
  (cond x.1
  (Option.bind (f0 ((1 : Int), x.2.1, x.2.2)) fun r1 =>
  (some (r1.1, r1.2)))
  (Option.bind (f0 ((0 : Int), x.2.1, x.2.2)) fun r2 =>
  (some (r2.1, r2.2))))
theorem xdr_Writer_Bool_v2_f (N : Nat) (f0 : Int × Int × (List Int) → Option (Int × (List Int))) (x) : xdr_Writer_Bool_v2_a N f0 x = fnStep Γ (xdr_Writer_Bool_v2_CA N f0) (xdr_Writer_Bool_v2_J N) 9 Try.f15.results.toList (xdr_Writer_Bool_v2_g N) xdr_Writer_Bool_v2_o xdr_Writer_Bool_v2_c x := by kernel_rfl
theorem xdr_Writer_Bool_v2_e (N : Nat) (x) : (xdr_Writer_Bool_v2_g N).F x = fnStep Γ (xdr_Writer_Bool_v2_C N) (xdr_Writer_Bool_v2_J N) 9 Try.f15.results.toList (xdr_Writer_Bool_v2_g N) xdr_Writer_Bool_v2_o xdr_Writer_Bool_v2_c x := by
  rw [← xdr_Writer_Bool_v2_CE N]
  exact Eq.trans (by kernel_rfl) (xdr_Writer_Bool_v2_f N (xdr_Writer_Uint_v1 N) x)
theorem xdr_Writer_Bool_v2_y : Try.f15.body = some xdr_Writer_Bool_v2_c := by kernel_rfl
theorem xdr_Writer_Bool_v2_n : (Try.f15.name == "runtime.NumGoroutine") = false := by kernel_rfl
theorem xdr_Writer_Bool_v2_ok (N : Nat) : FnDoes Try.prog 15 (xdr_Writer_Bool_v2_g N) := fn_ok tabOK (xdr_Writer_Bool_v2_t N) mixedOK (J := xdr_Writer_Bool_v2_J N) (body := xdr_Writer_Bool_v2_c) Try.func15 xdr_Writer_Bool_v2_y xdr_Writer_Bool_v2_n Try.ntmps15 (jok_from xdr_Writer_Bool_v2_i trivial) rfl rfl (le_of_ble rfl) (xdr_Writer_Bool_v2_e N)
noncomputable def xdr_Writer_Int_v1_c : Code := codeOf Try.f28.body
noncomputable def xdr_Writer_Int_v1_J (N : Nat) : Nat → Hint := fun cx => hintOf cx []
noncomputable def xdr_Writer_Int_v1_C (N : Nat) : Nat → List GS := fun k => tabOf k [(27, [xdr_Writer_Uint_v1_g N])]
def xdr_Writer_Int_v1_o : List (Shp × List Nat) := [(⟨[(0, (.tup []))], [(.sh (.one (.const (.slw 3 1))), true), (.sh (.one (.int .i64)), false), (.dead, false), (.sh (.arr (.int .u8) none), false)]⟩, [])]
noncomputable def xdr_Writer_Int_v1_g (N : Nat) : GS := { ins := ⟨[(0, (.av (.one (.const (.ptr ⟨0, 0, 0, 0⟩))))), (1, (.av (.one (.int .i32))))], [(some (.one (.const (.slw 2 1))), true), (some (.one (.int .i64)), false), (some (.arr (.int .u8) none), false)]⟩, lend := [.keep, .keep], outs := xdr_Writer_Int_v1_o.map fun s => ssOf s.1, its := [.int, .int, .lst (.int .u8)], ots := [[.int, .lst (.int .u8)]], F := xdr_Writer_Int_v1 N }
noncomputable def xdr_Writer_Int_v1_CA (N : Nat) (f0 : Int × Int × (List Int) → Option (Int × (List Int))) : Nat → List GS := fun k => tabOf k [(27, [{ xdr_Writer_Uint_v1_g N with F := f0 }])]
theorem xdr_Writer_Int_v1_CE (N : Nat) : xdr_Writer_Int_v1_CA N (xdr_Writer_Uint_v1 N) = xdr_Writer_Int_v1_C N := by kernel_rfl
theorem xdr_Writer_Int_v1_t (N : Nat) : TabC Try.prog (xdr_Writer_Int_v1_C N) := tab_ok ⟨⟨xdr_Writer_Uint_v1_ok N, trivial⟩, trivial⟩
theorem xdr_Writer_Int_v1_i : loopsOf xdr_Writer_Int_v1_c = [] := by kernel_rfl
noncomputable def xdr_Writer_Int_v1_a (N : Nat) (f0 : Int × Int × (List Int) → Option (Int × (List Int))) (x : Int × Int × (List Int)) : Option (Int × (List Int)) :=
  (Option.bind (f0 ((wrapF .u32 x.1), x.2.1, x.2.2)) fun r2 =>
  (some (r2.1, r2.2)))
theorem xdr_Writer_Int_v1_f (N : Nat) (f0 : Int × Int × (List Int) → Option (Int × (List Int))) (x) : xdr_Writer_Int_v1_a N f0 x = fnStep Γ (xdr_Writer_Int_v1_CA N f0) (xdr_Writer_Int_v1_J N) 8 Try.f28.results.toList (xdr_Writer_Int_v1_g N) xdr_Writer_Int_v1_o xdr_Writer_Int_v1_c x := by kernel_rfl
theorem xdr_Writer_Int_v1_e (N : Nat) (x) : (xdr_Writer_Int_v1_g N).F x = fnStep Γ (xdr_Writer_Int_v1_C N) (xdr_Writer_Int_v1_J N) 8 Try.f28.results.toList (xdr_Writer_Int_v1_g N) xdr_Writer_Int_v1_o xdr_Writer_Int_v1_c x := by
  rw [← xdr_Writer_Int_v1_CE N]
  exact Eq.trans (by kernel_rfl) (xdr_Writer_Int_v1_f N (xdr_Writer_Uint_v1 N) x)
theorem xdr_Writer_Int_v1_y : Try.f28.body = some xdr_Writer_Int_v1_c := by kernel_rfl
theorem xdr_Writer_Int_v1_n : (Try.f28.name == "runtime.NumGoroutine") = false := by kernel_rfl
theorem xdr_Writer_Int_v1_ok (N : Nat) : FnDoes Try.prog 28 (xdr_Writer_Int_v1_g N) := fn_ok tabOK (xdr_Writer_Int_v1_t N) mixedOK (J := xdr_Writer_Int_v1_J N) (body := xdr_Writer_Int_v1_c) Try.func28 xdr_Writer_Int_v1_y xdr_Writer_Int_v1_n Try.ntmps28 (jok_from xdr_Writer_Int_v1_i trivial) rfl rfl (le_of_ble rfl) (xdr_Writer_Int_v1_e N)
noncomputable def xdr_Writer_Hyper_v1_c : Code := codeOf Try.f29.body
noncomputable def xdr_Writer_Hyper_v1_J (N : Nat) : Nat → Hint := fun cx => hintOf cx [(0, { reg := fun k => assoc0 k [], cnd := fun k => assoc0 k [(6, ⟨[2], [0], [(.normal, ⟨[], [(.sh (.one (.const (.slw 3 1))), true), (.keep, false), (.dead, false), (.sh (.arr (.int .u8) none), false)]⟩)], [[.lst (.int .u8)]]⟩)], loop := fun k => assoc0 k [], nil := fun k => assoc0 k [], unr := fun k => assocN k [], blk := fun k => assoc0 k [] })]
noncomputable def xdr_Writer_Hyper_v1_C (N : Nat) : Nat → List GS := fun k => tabOf k [(58, [xdr_Writer_bad_v1_g N]), (60, [octet_Put_v1_g N])]
def xdr_Writer_Hyper_v1_o : List (Shp × List Nat) := [(⟨[(0, (.tup []))], [(.sh (.one (.const (.slw 3 1))), true), (.sh (.one (.int .i64)), false), (.dead, false), (.sh (.arr (.int .u8) none), false)]⟩, [])]
noncomputable def xdr_Writer_Hyper_v1_g (N : Nat) : GS := { ins := ⟨[(0, (.av (.one (.const (.ptr ⟨0, 0, 0, 0⟩))))), (1, (.av (.one (.int .u64))))], [(some (.one (.const (.slw 2 1))), true), (some (.one (.int .i64)), false), (some (.arr (.int .u8) none), false)]⟩, lend := [.keep, .keep], outs := xdr_Writer_Hyper_v1_o.map fun s => ssOf s.1, its := [.int, .int, .lst (.int .u8)], ots := [[.int, .lst (.int .u8)]], F := xdr_Writer_Hyper_v1 N }
noncomputable def xdr_Writer_Hyper_v1_CA (N : Nat) (f0 : Int × (List Int) → Option (Bool × Int × (List Int))) (f1 : Int × Int × (List Int) → Option ((List Int))) : Nat → List GS := fun k => tabOf k [(58, [{ xdr_Writer_bad_v1_g N with F := f0 }]), (60, [{ octet_Put_v1_g N with F := f1 }])]
theorem xdr_Writer_Hyper_v1_CE (N : Nat) : xdr_Writer_Hyper_v1_CA N (xdr_Writer_bad_v1) (octet_Put_v1 N) = xdr_Writer_Hyper_v1_C N := by kernel_rfl
theorem xdr_Writer_Hyper_v1_t (N : Nat) : TabC Try.prog (xdr_Writer_Hyper_v1_C N) := tab_ok ⟨⟨xdr_Writer_bad_v1_ok N, trivial⟩, ⟨octet_Put_v1_ok N, trivial⟩, trivial⟩
theorem xdr_Writer_Hyper_v1_i : loopsOf xdr_Writer_Hyper_v1_c = [] := by kernel_rfl
noncomputable def xdr_Writer_Hyper_v1_a (N : Nat) (f0 : Int × (List Int) → Option (Bool × Int × (List Int))) (f1 : Int × Int × (List Int) → Option ((List Int))) (x : Int × Int × (List Int)) : Option (Int × (List Int)) :=
  (Option.bind (f0 (x.2.1, x.2.2)) fun r1 =>
  (Option.bind
  (cond (!r1.1)
  (Option.bind (f1 (x.1, (8 : Int), r1.2.2)) fun r3 =>
  (some r3))
  (some r1.2.2))
  fun r4 =>
  (some (r1.2.1, r4))))
theorem xdr_Writer_Hyper_v1_f (N : Nat) (f0 : Int × (List Int) → Option (Bool × Int × (List Int))) (f1 : Int × Int × (List Int) → Option ((List Int))) (x) : xdr_Writer_Hyper_v1_a N f0 f1 x = fnStep Γ (xdr_Writer_Hyper_v1_CA N f0 f1) (xdr_Writer_Hyper_v1_J N) 16 Try.f29.results.toList (xdr_Writer_Hyper_v1_g N) xdr_Writer_Hyper_v1_o xdr_Writer_Hyper_v1_c x := by kernel_rfl
theorem xdr_Writer_Hyper_v1_e (N : Nat) (x) : (xdr_Writer_Hyper_v1_g N).F x = fnStep Γ (xdr_Writer_Hyper_v1_C N) (xdr_Writer_Hyper_v1_J N) 16 Try.f29.results.toList (xdr_Writer_Hyper_v1_g N) xdr_Writer_Hyper_v1_o xdr_Writer_Hyper_v1_c x := by
  rw [← xdr_Writer_Hyper_v1_CE N]
  exact Eq.trans (by kernel_rfl) (xdr_Writer_Hyper_v1_f N (xdr_Writer_bad_v1) (octet_Put_v1 N) x)
theorem xdr_Writer_Hyper_v1_y : Try.f29.body = some xdr_Writer_Hyper_v1_c := by kernel_rfl
theorem xdr_Writer_Hyper_v1_n : (Try.f29.name == "runtime.NumGoroutine") = false := by kernel_rfl
theorem xdr_Writer_Hyper_v1_ok (N : Nat) : FnDoes Try.prog 29 (xdr_Writer_Hyper_v1_g N) := fn_ok tabOK (xdr_Writer_Hyper_v1_t N) mixedOK (J := xdr_Writer_Hyper_v1_J N) (body := xdr_Writer_Hyper_v1_c) Try.func29 xdr_Writer_Hyper_v1_y xdr_Writer_Hyper_v1_n Try.ntmps29 (jok_from xdr_Writer_Hyper_v1_i ⟨trivial, trivial⟩) rfl rfl (le_of_ble rfl) (xdr_Writer_Hyper_v1_e N)
noncomputable def granarylaw01_putNum_c : Code := codeOf Try.f32.body
noncomputable def granarylaw01_putNum_J (N : Nat) : Nat → Hint := fun cx => hintOf cx []
noncomputable def granarylaw01_putNum_C (N : Nat) : Nat → List GS := fun k => tabOf k [(27, [xdr_Writer_Uint_v1_g N])]
def granarylaw01_putNum_o : List (Shp × List Nat) := [(⟨[(0, (.tup []))], [(.sh (.one (.const (.slw 3 1))), true), (.sh (.one (.int .i64)), false), (.dead, false), (.sh (.arr (.int .u8) none), false)]⟩, [])]
noncomputable def granarylaw01_putNum_g (N : Nat) : GS := { ins := ⟨[(0, (.av (.one (.const (.ptr ⟨0, 0, 0, 0⟩))))), (1, (.av (.one (.int .u32))))], [(some (.one (.const (.slw 2 1))), true), (some (.one (.int .i64)), false), (some (.arr (.int .u8) none), false)]⟩, lend := [.keep, .keep], outs := granarylaw01_putNum_o.map fun s => ssOf s.1, its := [.int, .int, .lst (.int .u8)], ots := [[.int, .lst (.int .u8)]], F := granarylaw01_putNum N }
noncomputable def granarylaw01_putNum_CA (N : Nat) (f0 : Int × Int × (List Int) → Option (Int × (List Int))) : Nat → List GS := fun k => tabOf k [(27, [{ xdr_Writer_Uint_v1_g N with F := f0 }])]
theorem granarylaw01_putNum_CE (N : Nat) : granarylaw01_putNum_CA N (xdr_Writer_Uint_v1 N) = granarylaw01_putNum_C N := by kernel_rfl
theorem granarylaw01_putNum_t (N : Nat) : TabC Try.prog (granarylaw01_putNum_C N) := tab_ok ⟨⟨xdr_Writer_Uint_v1_ok N, trivial⟩, trivial⟩
theorem granarylaw01_putNum_i : loopsOf granarylaw01_putNum_c = [] := by kernel_rfl
noncomputable def granarylaw01_putNum_a (N : Nat) (f0 : Int × Int × (List Int) → Option (Int × (List Int))) (x : Int × Int × (List Int)) : Option (Int × (List Int)) :=
  (Option.bind (f0 (x.1, x.2.1, x.2.2)) fun r1 =>
  (some (r1.1, r1.2)))
theorem granarylaw01_putNum_f (N : Nat) (f0 : Int × Int × (List Int) → Option (Int × (List Int))) (x) : granarylaw01_putNum_a N f0 x = fnStep Γ (granarylaw01_putNum_CA N f0) (granarylaw01_putNum_J N) 7 Try.f32.results.toList (granarylaw01_putNum_g N) granarylaw01_putNum_o granarylaw01_putNum_c x := by kernel_rfl
theorem granarylaw01_putNum_e (N : Nat) (x) : (granarylaw01_putNum_g N).F x = fnStep Γ (granarylaw01_putNum_C N) (granarylaw01_putNum_J N) 7 Try.f32.results.toList (granarylaw01_putNum_g N) granarylaw01_putNum_o granarylaw01_putNum_c x := by
  rw [← granarylaw01_putNum_CE N]
  exact Eq.trans (by kernel_rfl) (granarylaw01_putNum_f N (xdr_Writer_Uint_v1 N) x)
theorem granarylaw01_putNum_y : Try.f32.body = some granarylaw01_putNum_c := by kernel_rfl
theorem granarylaw01_putNum_n : (Try.f32.name == "runtime.NumGoroutine") = false := by kernel_rfl
theorem granarylaw01_putNum_ok (N : Nat) : FnDoes Try.prog 32 (granarylaw01_putNum_g N) := fn_ok tabOK (granarylaw01_putNum_t N) mixedOK (J := granarylaw01_putNum_J N) (body := granarylaw01_putNum_c) Try.func32 granarylaw01_putNum_y granarylaw01_putNum_n Try.ntmps32 (jok_from granarylaw01_putNum_i trivial) rfl rfl (le_of_ble rfl) (granarylaw01_putNum_e N)
noncomputable def xdr_PutList_uint32_v1_c : Code := codeOf Try.f31.body
noncomputable def xdr_PutList_uint32_v1_c0 : Code := codeOf (getLoop 0 xdr_PutList_uint32_v1_c)
def xdr_PutList_uint32_v1_d0 : LD := { ins := ⟨[(0, (.av (.one (.const (.ptr ⟨0, 0, 0, 0⟩))))), (3, (.av (.one (.const (.fn 32 []))))), (21, (.av (.one (.rsl (.int .u32))))), (22, (.av (.one (.int .i64)))), (23, (.av (.one (.int .i64))))], [(.sh (.one (.const (.slw 3 1))), true), (.sh (.one (.int .i64)), false), (.keep, false), (.sh (.arr (.int .u8) none), false)]⟩, mov := [3], wr := [0, 1], outs := [(.exit 0, ⟨[], [(.sh (.one (.const (.slw 4 1))), true), (.sh (.one (.int .i64)), false), (.keep, false), (.dead, false), (.sh (.arr (.int .u8) none), false)]⟩)], its := [.lst (.int .u32), .int, .int, .int, .lst (.int .u8)], ots := [[.int, .lst (.int .u8)]] }
noncomputable def xdr_PutList_uint32_v1_J (N : Nat) : Nat → Hint := fun cx => hintOf cx [(0, { reg := fun k => assoc0 k [], cnd := fun k => assoc0 k [], loop := fun k => assoc0 k [(0, ⟨xdr_PutList_uint32_v1_d0, loopF (xdr_PutList_uint32_v1_b0 N) N⟩)], nil := fun k => assoc0 k [], unr := fun k => assocN k [], blk := fun k => assoc0 k [] })]
noncomputable def xdr_PutList_uint32_v1_C (N : Nat) : Nat → List GS := fun k => tabOf k [(57, [xdr_Writer_fits_g N]), (27, [xdr_Writer_Uint_v1_g N]), (32, [granarylaw01_putNum_g N])]
def xdr_PutList_uint32_v1_o : List (Shp × List Nat) := [(⟨[(0, (.tup []))], [(.sh (.one (.const (.slw 3 1))), true), (.sh (.one (.int .i64)), false), (.dead, false), (.sh (.arr (.int .u8) none), false)]⟩, [2])]
noncomputable def xdr_PutList_uint32_v1_g (N : Nat) : GS := { ins := ⟨[(0, (.av (.one (.const (.ptr ⟨0, 0, 0, 0⟩))))), (1, (.av (.one (.rsl (.int .u32))))), (2, (.av (.one (.int .i64)))), (3, (.av (.one (.const (.fn 32 [])))))], [(some (.one (.const (.slw 2 1))), true), (some (.one (.int .i64)), false), (some (.arr (.int .u8) none), false)]⟩, lend := [.keep, .keep, .keep, .keep], outs := xdr_PutList_uint32_v1_o.map fun s => ssOf s.1, its := [.lst (.int .u32), .int, .int, .lst (.int .u8)], ots := [[.int, .lst (.int .u8)]], F := xdr_PutList_uint32_v1 N }
noncomputable def xdr_PutList_uint32_v1_CA (N : Nat) (f0 : Int × Int × Int × (List Int) → Option (Bool × Int × (List Int))) (f1 : Int × Int × (List Int) → Option (Int × (List Int))) (f2 : Int × Int × (List Int) → Option (Int × (List Int))) : Nat → List GS := fun k => tabOf k [(57, [{ xdr_Writer_fits_g N with F := f0 }]), (27, [{ xdr_Writer_Uint_v1_g N with F := f1 }]), (32, [{ granarylaw01_putNum_g N with F := f2 }])]
theorem xdr_PutList_uint32_v1_CE (N : Nat) : xdr_PutList_uint32_v1_CA N (xdr_Writer_fits) (xdr_Writer_Uint_v1 N) (granarylaw01_putNum N) = xdr_PutList_uint32_v1_C N := by kernel_rfl
theorem xdr_PutList_uint32_v1_t (N : Nat) : TabC Try.prog (xdr_PutList_uint32_v1_C N) := tab_ok ⟨⟨xdr_Writer_fits_ok N, trivial⟩, ⟨xdr_Writer_Uint_v1_ok N, trivial⟩, ⟨granarylaw01_putNum_ok N, trivial⟩, trivial⟩
theorem xdr_PutList_uint32_v1_i0 : loopsOf xdr_PutList_uint32_v1_c0 = [] := by kernel_rfl
noncomputable def xdr_PutList_uint32_v1_a0 (N : Nat) (f0 : Int × Int × Int × (List Int) → Option (Bool × Int × (List Int))) (f1 : Int × Int × (List Int) → Option (Int × (List Int))) (f2 : Int × Int × (List Int) → Option (Int × (List Int))) (next : (List Int) × Int × Int × Int × (List Int) → Option ((Int × (List Int)))) (x : (List Int) × Int × Int × Int × (List Int)) : Option ((Int × (List Int))) :=
  (cond (decide (x.2.2.1 < x.2.1))
  (cond ((decide ((0 : Int) ≤ x.2.2.1)) && (decide (x.2.2.1 < (((List.length x.1) : Nat) : Int))))
  ((Option.bind (f2 ((List.getD x.1 (Int.toNat x.2.2.1) (EK.dflt (.int .u32))), x.2.2.2.1, x.2.2.2.2)) fun r3 =>
  (next (x.1, x.2.1, (wrapF .i64 (x.2.2.1 + (1 : Int))), r3.1, r3.2))))
  none)
  (some (x.2.2.2.1, x.2.2.2.2)))
theorem xdr_PutList_uint32_v1_f0 (N : Nat) (f0 : Int × Int × Int × (List Int) → Option (Bool × Int × (List Int))) (f1 : Int × Int × (List Int) → Option (Int × (List Int))) (f2 : Int × Int × (List Int) → Option (Int × (List Int))) (next) (x) : xdr_PutList_uint32_v1_a0 N f0 f1 f2 next x = loopStep Γ (xdr_PutList_uint32_v1_CA N f0 f1 f2) (xdr_PutList_uint32_v1_J N) 0 32 xdr_PutList_uint32_v1_d0 xdr_PutList_uint32_v1_c0 next x := by kernel_rfl
theorem xdr_PutList_uint32_v1_e0 (N : Nat) (next) (x) : xdr_PutList_uint32_v1_b0 N next x = loopStep Γ (xdr_PutList_uint32_v1_C N) (xdr_PutList_uint32_v1_J N) 0 32 xdr_PutList_uint32_v1_d0 xdr_PutList_uint32_v1_c0 next x := by
  rw [← xdr_PutList_uint32_v1_CE N]
  exact Eq.trans (by kernel_rfl) (xdr_PutList_uint32_v1_f0 N (xdr_Writer_fits) (xdr_Writer_Uint_v1 N) (granarylaw01_putNum N) next x)
theorem xdr_PutList_uint32_v1_k0 (N : Nat) : LoopOK Try.prog 32 xdr_PutList_uint32_v1_c0 ⟨xdr_PutList_uint32_v1_d0, loopF (xdr_PutList_uint32_v1_b0 N) N⟩ := loop_ok tabOK (xdr_PutList_uint32_v1_t N) mixedOK (J := xdr_PutList_uint32_v1_J N) (cx := 0) (body := xdr_PutList_uint32_v1_c0) (nt := 32) (l := xdr_PutList_uint32_v1_d0) (b := xdr_PutList_uint32_v1_b0 N) (jok_from xdr_PutList_uint32_v1_i0 ⟨trivial, trivial⟩) (xdr_PutList_uint32_v1_e0 N) N
theorem xdr_PutList_uint32_v1_i : loopsOf xdr_PutList_uint32_v1_c = [(0, xdr_PutList_uint32_v1_c0)] := by kernel_rfl
noncomputable def xdr_PutList_uint32_v1_a (N : Nat) (f0 : Int × Int × Int × (List Int) → Option (Bool × Int × (List Int))) (f1 : Int × Int × (List Int) → Option (Int × (List Int))) (f2 : Int × Int × (List Int) → Option (Int × (List Int))) (x : (List Int) × Int × Int × (List Int)) : Option (Int × (List Int)) :=
  (Option.bind (f0 ((((List.length x.1) : Nat) : Int), x.2.1, x.2.2.1, x.2.2.2)) fun r2 =>
  (cond (!r2.1)
  (some (r2.2.1, r2.2.2))
  (Option.bind (f1 ((wrapF .u32 (((List.length x.1) : Nat) : Int)), r2.2.1, r2.2.2)) fun r6 =>
  (Option.bind (xdr_PutList_uint32_v1_l0 N (x.1, (((List.length x.1) : Nat) : Int), (0 : Int), r6.1, r6.2)) fun r8 =>
  (some (r8.1, r8.2))))))
theorem xdr_PutList_uint32_v1_f (N : Nat) (f0 : Int × Int × Int × (List Int) → Option (Bool × Int × (List Int))) (f1 : Int × Int × (List Int) → Option (Int × (List Int))) (f2 : Int × Int × (List Int) → Option (Int × (List Int))) (x) : xdr_PutList_uint32_v1_a N f0 f1 f2 x = fnStep Γ (xdr_PutList_uint32_v1_CA N f0 f1 f2) (xdr_PutList_uint32_v1_J N) 32 Try.f31.results.toList (xdr_PutList_uint32_v1_g N) xdr_PutList_uint32_v1_o xdr_PutList_uint32_v1_c x := by kernel_rfl
theorem xdr_PutList_uint32_v1_e (N : Nat) (x) : (xdr_PutList_uint32_v1_g N).F x = fnStep Γ (xdr_PutList_uint32_v1_C N) (xdr_PutList_uint32_v1_J N) 32 Try.f31.results.toList (xdr_PutList_uint32_v1_g N) xdr_PutList_uint32_v1_o xdr_PutList_uint32_v1_c x := by
  rw [← xdr_PutList_uint32_v1_CE N]
  exact Eq.trans (by kernel_rfl) (xdr_PutList_uint32_v1_f N (xdr_Writer_fits) (xdr_Writer_Uint_v1 N) (granarylaw01_putNum N) x)
theorem xdr_PutList_uint32_v1_y : Try.f31.body = some xdr_PutList_uint32_v1_c := by kernel_rfl
theorem xdr_PutList_uint32_v1_n : (Try.f31.name == "runtime.NumGoroutine") = false := by kernel_rfl
theorem xdr_PutList_uint32_v1_ok (N : Nat) : FnDoes Try.prog 31 (xdr_PutList_uint32_v1_g N) := fn_ok tabOK (xdr_PutList_uint32_v1_t N) mixedOK (J := xdr_PutList_uint32_v1_J N) (body := xdr_PutList_uint32_v1_c) Try.func31 xdr_PutList_uint32_v1_y xdr_PutList_uint32_v1_n Try.ntmps31 (jok_from xdr_PutList_uint32_v1_i ⟨⟨.inr ⟨_, rfl, xdr_PutList_uint32_v1_k0 N⟩, trivial⟩, trivial⟩) rfl rfl (le_of_ble rfl) (xdr_PutList_uint32_v1_e N)
end Go.Rf.W
