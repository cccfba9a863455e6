/-
  The printed functions are what the program does.
-/
import Derived.Test.YtabkbpilajgcnaaXdrK0
set_option linter.unusedVariables false
set_option maxRecDepth 100000
namespace Go.Rf.W
open Go Go.Rf Go.Proofs
noncomputable def xdr_Reader_bad_v1_c : Code := codeOf Try.f56.body
noncomputable def xdr_Reader_bad_v1_J (N : Nat) : Nat → Hint := fun cx => hintOf cx [(0, { reg := fun k => assoc0 k [], cnd := fun k => assoc0 k [], loop := fun k => assoc0 k [], nil := fun k => assoc0 k [], unr := fun k => assocN k [], blk := fun k => assoc0 k [] })]
noncomputable def xdr_Reader_bad_v1_C (N : Nat) : Nat → List GS := fun k => tabOf k []
def xdr_Reader_bad_v1_o : List (Shp × List Nat) := [(⟨[(0, (.av (.one (.const (.bool true)))))], []⟩, [])]
noncomputable def xdr_Reader_bad_v1_g (N : Nat) : GS := { ins := ⟨[(0, (.av (.one (.const .nilp))))], []⟩, lend := [.keep], outs := xdr_Reader_bad_v1_o.map fun s => ssOf s.1, its := [], ots := [[]], F := xdr_Reader_bad_v1 }
theorem xdr_Reader_bad_v1_t (N : Nat) : TabC Try.prog (xdr_Reader_bad_v1_C N) := tab_ok trivial
theorem xdr_Reader_bad_v1_i : loopsOf xdr_Reader_bad_v1_c = [] := by kernel_rfl
theorem xdr_Reader_bad_v1_e (N : Nat) (x) : (xdr_Reader_bad_v1_g N).F x = fnStep Γ (xdr_Reader_bad_v1_C N) (xdr_Reader_bad_v1_J N) 12 Try.f56.results.toList (xdr_Reader_bad_v1_g N) xdr_Reader_bad_v1_o xdr_Reader_bad_v1_c x := by kernel_rfl
theorem xdr_Reader_bad_v1_y : Try.f56.body = some xdr_Reader_bad_v1_c := by kernel_rfl
theorem xdr_Reader_bad_v1_n : (Try.f56.name == "runtime.NumGoroutine") = false := by kernel_rfl
theorem xdr_Reader_bad_v1_ok (N : Nat) : FnDoes Try.prog 56 (xdr_Reader_bad_v1_g N) := fn_ok tabOK (xdr_Reader_bad_v1_t N) mixedOK (J := xdr_Reader_bad_v1_J N) (body := xdr_Reader_bad_v1_c) Try.func56 xdr_Reader_bad_v1_y xdr_Reader_bad_v1_n Try.ntmps56 (jok_from xdr_Reader_bad_v1_i ⟨trivial, trivial⟩) rfl rfl (le_of_ble rfl) (xdr_Reader_bad_v1_e N)
noncomputable def xdr_Reader_take_v1_c : Code := codeOf Try.f62.body
noncomputable def xdr_Reader_take_v1_J (N : Nat) : Nat → Hint := fun cx => hintOf cx []
noncomputable def xdr_Reader_take_v1_C (N : Nat) : Nat → List GS := fun k => tabOf k [(56, [xdr_Reader_bad_v1_g N])]
def xdr_Reader_take_v1_o : List (Shp × List Nat) := [(⟨[(0, (.av (.one (.const .nils))))], []⟩, [])]
noncomputable def xdr_Reader_take_v1_g (N : Nat) : GS := { ins := ⟨[(0, (.av (.one (.const .nilp)))), (1, (.av (.one (.int .i64)))), (2, (.av (.one (.int .i64))))], []⟩, lend := [.keep, .keep, .keep], outs := xdr_Reader_take_v1_o.map fun s => ssOf s.1, its := [.int, .int], ots := [[]], F := xdr_Reader_take_v1 }
noncomputable def xdr_Reader_take_v1_CA (N : Nat) (f0 : Unit → Option (Unit)) : Nat → List GS := fun k => tabOf k [(56, [{ xdr_Reader_bad_v1_g N with F := f0 }])]
theorem xdr_Reader_take_v1_CE (N : Nat) : xdr_Reader_take_v1_CA N (xdr_Reader_bad_v1) = xdr_Reader_take_v1_C N := by kernel_rfl
theorem xdr_Reader_take_v1_t (N : Nat) : TabC Try.prog (xdr_Reader_take_v1_C N) := tab_ok ⟨⟨xdr_Reader_bad_v1_ok N, trivial⟩, trivial⟩
theorem xdr_Reader_take_v1_i : loopsOf xdr_Reader_take_v1_c = [] := by kernel_rfl
noncomputable def xdr_Reader_take_v1_a (N : Nat) (f0 : Unit → Option (Unit)) (x : Int × Int) : Option (Unit) :=
  (Option.bind (f0 ()) fun r1 =>
  (some ()))
theorem xdr_Reader_take_v1_f (N : Nat) (f0 : Unit → Option (Unit)) (x) : xdr_Reader_take_v1_a N f0 x = fnStep Γ (xdr_Reader_take_v1_CA N f0) (xdr_Reader_take_v1_J N) 51 Try.f62.results.toList (xdr_Reader_take_v1_g N) xdr_Reader_take_v1_o xdr_Reader_take_v1_c x := by kernel_rfl
theorem xdr_Reader_take_v1_e (N : Nat) (x) : (xdr_Reader_take_v1_g N).F x = fnStep Γ (xdr_Reader_take_v1_C N) (xdr_Reader_take_v1_J N) 51 Try.f62.results.toList (xdr_Reader_take_v1_g N) xdr_Reader_take_v1_o xdr_Reader_take_v1_c x := by
  rw [← xdr_Reader_take_v1_CE N]
  exact Eq.trans (by kernel_rfl) (xdr_Reader_take_v1_f N (xdr_Reader_bad_v1) x)
theorem xdr_Reader_take_v1_y : Try.f62.body = some xdr_Reader_take_v1_c := by kernel_rfl
theorem xdr_Reader_take_v1_n : (Try.f62.name == "runtime.NumGoroutine") = false := by kernel_rfl
theorem xdr_Reader_take_v1_ok (N : Nat) : FnDoes Try.prog 62 (xdr_Reader_take_v1_g N) := fn_ok tabOK (xdr_Reader_take_v1_t N) mixedOK (J := xdr_Reader_take_v1_J N) (body := xdr_Reader_take_v1_c) Try.func62 xdr_Reader_take_v1_y xdr_Reader_take_v1_n Try.ntmps62 (jok_from xdr_Reader_take_v1_i trivial) rfl rfl (le_of_ble rfl) (xdr_Reader_take_v1_e N)
noncomputable def xdr_Reader_Uint_v1_c : Code := codeOf Try.f34.body
noncomputable def xdr_Reader_Uint_v1_J (N : Nat) : Nat → Hint := fun cx => hintOf cx []
noncomputable def xdr_Reader_Uint_v1_C (N : Nat) : Nat → List GS := fun k => tabOf k [(26, [xdr_Reader_At_v1_g N]), (62, [xdr_Reader_take_v1_g N])]
def xdr_Reader_Uint_v1_o : List (Shp × List Nat) := [(⟨[(0, (.av (.one (.const (.int .u32 (0 : Int))))))], []⟩, [])]
noncomputable def xdr_Reader_Uint_v1_g (N : Nat) : GS := { ins := ⟨[(0, (.av (.one (.const .nilp))))], []⟩, lend := [.keep], outs := xdr_Reader_Uint_v1_o.map fun s => ssOf s.1, its := [], ots := [[]], F := xdr_Reader_Uint_v1 }
noncomputable def xdr_Reader_Uint_v1_CA (N : Nat) (f0 : Unit → Option (Unit)) (f1 : Int × Int → Option (Unit)) : Nat → List GS := fun k => tabOf k [(26, [{ xdr_Reader_At_v1_g N with F := f0 }]), (62, [{ xdr_Reader_take_v1_g N with F := f1 }])]
theorem xdr_Reader_Uint_v1_CE (N : Nat) : xdr_Reader_Uint_v1_CA N (xdr_Reader_At_v1) (xdr_Reader_take_v1) = xdr_Reader_Uint_v1_C N := by kernel_rfl
theorem xdr_Reader_Uint_v1_t (N : Nat) : TabC Try.prog (xdr_Reader_Uint_v1_C N) := tab_ok ⟨⟨xdr_Reader_At_v1_ok N, trivial⟩, ⟨xdr_Reader_take_v1_ok N, trivial⟩, trivial⟩
theorem xdr_Reader_Uint_v1_i : loopsOf xdr_Reader_Uint_v1_c = [] := by kernel_rfl
noncomputable def xdr_Reader_Uint_v1_a (N : Nat) (f0 : Unit → Option (Unit)) (f1 : Int × Int → Option (Unit)) (x : Unit) : Option (Unit) :=
  (Option.bind (f0 ()) fun r1 =>
  (Option.bind (f1 ((4 : Int), (0 : Int))) fun r2 =>
  (some ())))
theorem xdr_Reader_Uint_v1_f (N : Nat) (f0 : Unit → Option (Unit)) (f1 : Int × Int → Option (Unit)) (x) : xdr_Reader_Uint_v1_a N f0 f1 x = fnStep Γ (xdr_Reader_Uint_v1_CA N f0 f1) (xdr_Reader_Uint_v1_J N) 14 Try.f34.results.toList (xdr_Reader_Uint_v1_g N) xdr_Reader_Uint_v1_o xdr_Reader_Uint_v1_c x := by kernel_rfl
theorem xdr_Reader_Uint_v1_e (N : Nat) (x) : (xdr_Reader_Uint_v1_g N).F x = fnStep Γ (xdr_Reader_Uint_v1_C N) (xdr_Reader_Uint_v1_J N) 14 Try.f34.results.toList (xdr_Reader_Uint_v1_g N) xdr_Reader_Uint_v1_o xdr_Reader_Uint_v1_c x := by
  rw [← xdr_Reader_Uint_v1_CE N]
  exact Eq.trans (by kernel_rfl) (xdr_Reader_Uint_v1_f N (xdr_Reader_At_v1) (xdr_Reader_take_v1) x)
theorem xdr_Reader_Uint_v1_y : Try.f34.body = some xdr_Reader_Uint_v1_c := by kernel_rfl
theorem xdr_Reader_Uint_v1_n : (Try.f34.name == "runtime.NumGoroutine") = false := by kernel_rfl
theorem xdr_Reader_Uint_v1_ok (N : Nat) : FnDoes Try.prog 34 (xdr_Reader_Uint_v1_g N) := fn_ok tabOK (xdr_Reader_Uint_v1_t N) mixedOK (J := xdr_Reader_Uint_v1_J N) (body := xdr_Reader_Uint_v1_c) Try.func34 xdr_Reader_Uint_v1_y xdr_Reader_Uint_v1_n Try.ntmps34 (jok_from xdr_Reader_Uint_v1_i trivial) rfl rfl (le_of_ble rfl) (xdr_Reader_Uint_v1_e N)
noncomputable def xdr_Reader_Int_c : Code := codeOf Try.f35.body
noncomputable def xdr_Reader_Int_J (N : Nat) : Nat → Hint := fun cx => hintOf cx []
noncomputable def xdr_Reader_Int_C (N : Nat) : Nat → List GS := fun k => tabOf k [(34, [xdr_Reader_Uint_v1_g N])]
def xdr_Reader_Int_o : List (Shp × List Nat) := [(⟨[(0, (.av (.one (.const (.int .i32 (0 : Int))))))], []⟩, [])]
noncomputable def xdr_Reader_Int_g (N : Nat) : GS := { ins := ⟨[(0, (.av (.one (.const .nilp))))], []⟩, lend := [.keep], outs := xdr_Reader_Int_o.map fun s => ssOf s.1, its := [], ots := [[]], F := xdr_Reader_Int }
noncomputable def xdr_Reader_Int_CA (N : Nat) (f0 : Unit → Option (Unit)) : Nat → List GS := fun k => tabOf k [(34, [{ xdr_Reader_Uint_v1_g N with F := f0 }])]
theorem xdr_Reader_Int_CE (N : Nat) : xdr_Reader_Int_CA N (xdr_Reader_Uint_v1) = xdr_Reader_Int_C N := by kernel_rfl
theorem xdr_Reader_Int_t (N : Nat) : TabC Try.prog (xdr_Reader_Int_C N) := tab_ok ⟨⟨xdr_Reader_Uint_v1_ok N, trivial⟩, trivial⟩
theorem xdr_Reader_Int_i : loopsOf xdr_Reader_Int_c = [] := by kernel_rfl
noncomputable def xdr_Reader_Int_a (N : Nat) (f0 : Unit → Option (Unit)) (x : Unit) : Option (Unit) :=
  (Option.bind (f0 ()) fun r1 =>
  (some ()))
theorem xdr_Reader_Int_f (N : Nat) (f0 : Unit → Option (Unit)) (x) : xdr_Reader_Int_a N f0 x = fnStep Γ (xdr_Reader_Int_CA N f0) (xdr_Reader_Int_J N) 6 Try.f35.results.toList (xdr_Reader_Int_g N) xdr_Reader_Int_o xdr_Reader_Int_c x := by kernel_rfl
theorem xdr_Reader_Int_e (N : Nat) (x) : (xdr_Reader_Int_g N).F x = fnStep Γ (xdr_Reader_Int_C N) (xdr_Reader_Int_J N) 6 Try.f35.results.toList (xdr_Reader_Int_g N) xdr_Reader_Int_o xdr_Reader_Int_c x := by
  rw [← xdr_Reader_Int_CE N]
  exact Eq.trans (by kernel_rfl) (xdr_Reader_Int_f N (xdr_Reader_Uint_v1) x)
theorem xdr_Reader_Int_y : Try.f35.body = some xdr_Reader_Int_c := by kernel_rfl
theorem xdr_Reader_Int_n : (Try.f35.name == "runtime.NumGoroutine") = false := by kernel_rfl
theorem xdr_Reader_Int_ok (N : Nat) : FnDoes Try.prog 35 (xdr_Reader_Int_g N) := fn_ok tabOK (xdr_Reader_Int_t N) mixedOK (J := xdr_Reader_Int_J N) (body := xdr_Reader_Int_c) Try.func35 xdr_Reader_Int_y xdr_Reader_Int_n Try.ntmps35 (jok_from xdr_Reader_Int_i trivial) rfl rfl (le_of_ble rfl) (xdr_Reader_Int_e N)
noncomputable def xdr_Reader_Hyper_c : Code := codeOf Try.f36.body
noncomputable def xdr_Reader_Hyper_J (N : Nat) : Nat → Hint := fun cx => hintOf cx []
noncomputable def xdr_Reader_Hyper_C (N : Nat) : Nat → List GS := fun k => tabOf k [(26, [xdr_Reader_At_v1_g N]), (62, [xdr_Reader_take_v1_g N])]
def xdr_Reader_Hyper_o : List (Shp × List Nat) := [(⟨[(0, (.av (.one (.const (.int .u64 (0 : Int))))))], []⟩, [])]
noncomputable def xdr_Reader_Hyper_g (N : Nat) : GS := { ins := ⟨[(0, (.av (.one (.const .nilp))))], []⟩, lend := [.keep], outs := xdr_Reader_Hyper_o.map fun s => ssOf s.1, its := [], ots := [[]], F := xdr_Reader_Hyper }
noncomputable def xdr_Reader_Hyper_CA (N : Nat) (f0 : Unit → Option (Unit)) (f1 : Int × Int → Option (Unit)) : Nat → List GS := fun k => tabOf k [(26, [{ xdr_Reader_At_v1_g N with F := f0 }]), (62, [{ xdr_Reader_take_v1_g N with F := f1 }])]
theorem xdr_Reader_Hyper_CE (N : Nat) : xdr_Reader_Hyper_CA N (xdr_Reader_At_v1) (xdr_Reader_take_v1) = xdr_Reader_Hyper_C N := by kernel_rfl
theorem xdr_Reader_Hyper_t (N : Nat) : TabC Try.prog (xdr_Reader_Hyper_C N) := tab_ok ⟨⟨xdr_Reader_At_v1_ok N, trivial⟩, ⟨xdr_Reader_take_v1_ok N, trivial⟩, trivial⟩
theorem xdr_Reader_Hyper_i : loopsOf xdr_Reader_Hyper_c = [] := by kernel_rfl
noncomputable def xdr_Reader_Hyper_a (N : Nat) (f0 : Unit → Option (Unit)) (f1 : Int × Int → Option (Unit)) (x : Unit) : Option (Unit) :=
  (Option.bind (f0 ()) fun r1 =>
  (Option.bind (f1 ((8 : Int), (0 : Int))) fun r2 =>
  (some ())))
theorem xdr_Reader_Hyper_f (N : Nat) (f0 : Unit → Option (Unit)) (f1 : Int × Int → Option (Unit)) (x) : xdr_Reader_Hyper_a N f0 f1 x = fnStep Γ (xdr_Reader_Hyper_CA N f0 f1) (xdr_Reader_Hyper_J N) 13 Try.f36.results.toList (xdr_Reader_Hyper_g N) xdr_Reader_Hyper_o xdr_Reader_Hyper_c x := by kernel_rfl
theorem xdr_Reader_Hyper_e (N : Nat) (x) : (xdr_Reader_Hyper_g N).F x = fnStep Γ (xdr_Reader_Hyper_C N) (xdr_Reader_Hyper_J N) 13 Try.f36.results.toList (xdr_Reader_Hyper_g N) xdr_Reader_Hyper_o xdr_Reader_Hyper_c x := by
  rw [← xdr_Reader_Hyper_CE N]
  exact Eq.trans (by kernel_rfl) (xdr_Reader_Hyper_f N (xdr_Reader_At_v1) (xdr_Reader_take_v1) x)
theorem xdr_Reader_Hyper_y : Try.f36.body = some xdr_Reader_Hyper_c := by kernel_rfl
theorem xdr_Reader_Hyper_n : (Try.f36.name == "runtime.NumGoroutine") = false := by kernel_rfl
theorem xdr_Reader_Hyper_ok (N : Nat) : FnDoes Try.prog 36 (xdr_Reader_Hyper_g N) := fn_ok tabOK (xdr_Reader_Hyper_t N) mixedOK (J := xdr_Reader_Hyper_J N) (body := xdr_Reader_Hyper_c) Try.func36 xdr_Reader_Hyper_y xdr_Reader_Hyper_n Try.ntmps36 (jok_from xdr_Reader_Hyper_i trivial) rfl rfl (le_of_ble rfl) (xdr_Reader_Hyper_e N)
noncomputable def xdr_Reader_fails_v1_c : Code := codeOf Try.f59.body
noncomputable def xdr_Reader_fails_v1_J (N : Nat) : Nat → Hint := fun cx => hintOf cx []
noncomputable def xdr_Reader_fails_v1_C (N : Nat) : Nat → List GS := fun k => tabOf k [(56, [xdr_Reader_bad_v1_g N])]
def xdr_Reader_fails_v1_o : List (Shp × List Nat) := [(⟨[(0, (.tup []))], []⟩, [])]
noncomputable def xdr_Reader_fails_v1_g (N : Nat) : GS := { ins := ⟨[(0, (.av (.one (.const .nilp)))), (1, (.av (.one (.int .i64)))), (2, (.av (.one (.int .i64))))], []⟩, lend := [.keep, .keep, .keep], outs := xdr_Reader_fails_v1_o.map fun s => ssOf s.1, its := [.int, .int], ots := [[]], F := xdr_Reader_fails_v1 }
noncomputable def xdr_Reader_fails_v1_CA (N : Nat) (f0 : Unit → Option (Unit)) : Nat → List GS := fun k => tabOf k [(56, [{ xdr_Reader_bad_v1_g N with F := f0 }])]
theorem xdr_Reader_fails_v1_CE (N : Nat) : xdr_Reader_fails_v1_CA N (xdr_Reader_bad_v1) = xdr_Reader_fails_v1_C N := by kernel_rfl
theorem xdr_Reader_fails_v1_t (N : Nat) : TabC Try.prog (xdr_Reader_fails_v1_C N) := tab_ok ⟨⟨xdr_Reader_bad_v1_ok N, trivial⟩, trivial⟩
theorem xdr_Reader_fails_v1_i : loopsOf xdr_Reader_fails_v1_c = [] := by kernel_rfl
noncomputable def xdr_Reader_fails_v1_a (N : Nat) (f0 : Unit → Option (Unit)) (x : Int × Int) : Option (Unit) :=
  (Option.bind (f0 ()) fun r1 =>
  (some ()))
theorem xdr_Reader_fails_v1_f (N : Nat) (f0 : Unit → Option (Unit)) (x) : xdr_Reader_fails_v1_a N f0 x = fnStep Γ (xdr_Reader_fails_v1_CA N f0) (xdr_Reader_fails_v1_J N) 21 Try.f59.results.toList (xdr_Reader_fails_v1_g N) xdr_Reader_fails_v1_o xdr_Reader_fails_v1_c x := by kernel_rfl
theorem xdr_Reader_fails_v1_e (N : Nat) (x) : (xdr_Reader_fails_v1_g N).F x = fnStep Γ (xdr_Reader_fails_v1_C N) (xdr_Reader_fails_v1_J N) 21 Try.f59.results.toList (xdr_Reader_fails_v1_g N) xdr_Reader_fails_v1_o xdr_Reader_fails_v1_c x := by
  rw [← xdr_Reader_fails_v1_CE N]
  exact Eq.trans (by kernel_rfl) (xdr_Reader_fails_v1_f N (xdr_Reader_bad_v1) x)
theorem xdr_Reader_fails_v1_y : Try.f59.body = some xdr_Reader_fails_v1_c := by kernel_rfl
theorem xdr_Reader_fails_v1_n : (Try.f59.name == "runtime.NumGoroutine") = false := by kernel_rfl
theorem xdr_Reader_fails_v1_ok (N : Nat) : FnDoes Try.prog 59 (xdr_Reader_fails_v1_g N) := fn_ok tabOK (xdr_Reader_fails_v1_t N) mixedOK (J := xdr_Reader_fails_v1_J N) (body := xdr_Reader_fails_v1_c) Try.func59 xdr_Reader_fails_v1_y xdr_Reader_fails_v1_n Try.ntmps59 (jok_from xdr_Reader_fails_v1_i trivial) rfl rfl (le_of_ble rfl) (xdr_Reader_fails_v1_e N)
noncomputable def xdr_Reader_most_v1_c : Code := codeOf Try.f54.body
noncomputable def xdr_Reader_most_v1_J (N : Nat) : Nat → Hint := fun cx => hintOf cx []
noncomputable def xdr_Reader_most_v1_C (N : Nat) : Nat → List GS := fun k => tabOf k [(26, [xdr_Reader_At_v1_g N]), (34, [xdr_Reader_Uint_v1_g N]), (59, [xdr_Reader_fails_v1_g N])]
def xdr_Reader_most_v1_o : List (Shp × List Nat) := [(⟨[(0, (.av (.one (.const (.int .u32 (0 : Int))))))], []⟩, [])]
noncomputable def xdr_Reader_most_v1_g (N : Nat) : GS := { ins := ⟨[(0, (.av (.one (.const .nilp)))), (1, (.av (.one (.int .u32)))), (2, (.av (.one (.int .i64))))], []⟩, lend := [.keep, .keep, .keep], outs := xdr_Reader_most_v1_o.map fun s => ssOf s.1, its := [.int, .int], ots := [[]], F := xdr_Reader_most_v1 }
noncomputable def xdr_Reader_most_v1_CA (N : Nat) (f0 : Unit → Option (Unit)) (f1 : Unit → Option (Unit)) (f2 : Int × Int → Option (Unit)) : Nat → List GS := fun k => tabOf k [(26, [{ xdr_Reader_At_v1_g N with F := f0 }]), (34, [{ xdr_Reader_Uint_v1_g N with F := f1 }]), (59, [{ xdr_Reader_fails_v1_g N with F := f2 }])]
theorem xdr_Reader_most_v1_CE (N : Nat) : xdr_Reader_most_v1_CA N (xdr_Reader_At_v1) (xdr_Reader_Uint_v1) (xdr_Reader_fails_v1) = xdr_Reader_most_v1_C N := by kernel_rfl
theorem xdr_Reader_most_v1_t (N : Nat) : TabC Try.prog (xdr_Reader_most_v1_C N) := tab_ok ⟨⟨xdr_Reader_At_v1_ok N, trivial⟩, ⟨xdr_Reader_Uint_v1_ok N, trivial⟩, ⟨xdr_Reader_fails_v1_ok N, trivial⟩, trivial⟩
theorem xdr_Reader_most_v1_i : loopsOf xdr_Reader_most_v1_c = [] := by kernel_rfl
noncomputable def xdr_Reader_most_v1_a (N : Nat) (f0 : Unit → Option (Unit)) (f1 : Unit → Option (Unit)) (f2 : Int × Int → Option (Unit)) (x : Int × Int) : Option (Unit) :=
  (Option.bind (f0 ()) fun r1 =>
  (Option.bind (f1 ()) fun r2 =>
  (cond (decide (x.1 < (0 : Int)))
  (Option.bind (f2 (x.2, (0 : Int))) fun r4 =>
  (some ()))
  (some ()))))
theorem xdr_Reader_most_v1_f (N : Nat) (f0 : Unit → Option (Unit)) (f1 : Unit → Option (Unit)) (f2 : Int × Int → Option (Unit)) (x) : xdr_Reader_most_v1_a N f0 f1 f2 x = fnStep Γ (xdr_Reader_most_v1_CA N f0 f1 f2) (xdr_Reader_most_v1_J N) 21 Try.f54.results.toList (xdr_Reader_most_v1_g N) xdr_Reader_most_v1_o xdr_Reader_most_v1_c x := by kernel_rfl
theorem xdr_Reader_most_v1_e (N : Nat) (x) : (xdr_Reader_most_v1_g N).F x = fnStep Γ (xdr_Reader_most_v1_C N) (xdr_Reader_most_v1_J N) 21 Try.f54.results.toList (xdr_Reader_most_v1_g N) xdr_Reader_most_v1_o xdr_Reader_most_v1_c x := by
  rw [← xdr_Reader_most_v1_CE N]
  exact Eq.trans (by kernel_rfl) (xdr_Reader_most_v1_f N (xdr_Reader_At_v1) (xdr_Reader_Uint_v1) (xdr_Reader_fails_v1) x)
theorem xdr_Reader_most_v1_y : Try.f54.body = some xdr_Reader_most_v1_c := by kernel_rfl
theorem xdr_Reader_most_v1_n : (Try.f54.name == "runtime.NumGoroutine") = false := by kernel_rfl
theorem xdr_Reader_most_v1_ok (N : Nat) : FnDoes Try.prog 54 (xdr_Reader_most_v1_g N) := fn_ok tabOK (xdr_Reader_most_v1_t N) mixedOK (J := xdr_Reader_most_v1_J N) (body := xdr_Reader_most_v1_c) Try.func54 xdr_Reader_most_v1_y xdr_Reader_most_v1_n Try.ntmps54 (jok_from xdr_Reader_most_v1_i trivial) rfl rfl (le_of_ble rfl) (xdr_Reader_most_v1_e N)
noncomputable def xdr_Reader_Bool_v1_c : Code := codeOf Try.f16.body
noncomputable def xdr_Reader_Bool_v1_J (N : Nat) : Nat → Hint := fun cx => hintOf cx []
noncomputable def xdr_Reader_Bool_v1_C (N : Nat) : Nat → List GS := fun k => tabOf k [(54, [xdr_Reader_most_v1_g N])]
def xdr_Reader_Bool_v1_o : List (Shp × List Nat) := [(⟨[(0, (.av (.one (.const (.bool false)))))], []⟩, [])]
noncomputable def xdr_Reader_Bool_v1_g (N : Nat) : GS := { ins := ⟨[(0, (.av (.one (.const .nilp))))], []⟩, lend := [.keep], outs := xdr_Reader_Bool_v1_o.map fun s => ssOf s.1, its := [], ots := [[]], F := xdr_Reader_Bool_v1 }
noncomputable def xdr_Reader_Bool_v1_CA (N : Nat) (f0 : Int × Int → Option (Unit)) : Nat → List GS := fun k => tabOf k [(54, [{ xdr_Reader_most_v1_g N with F := f0 }])]
theorem xdr_Reader_Bool_v1_CE (N : Nat) : xdr_Reader_Bool_v1_CA N (xdr_Reader_most_v1) = xdr_Reader_Bool_v1_C N := by kernel_rfl
theorem xdr_Reader_Bool_v1_t (N : Nat) : TabC Try.prog (xdr_Reader_Bool_v1_C N) := tab_ok ⟨⟨xdr_Reader_most_v1_ok N, trivial⟩, trivial⟩
theorem xdr_Reader_Bool_v1_i : loopsOf xdr_Reader_Bool_v1_c = [] := by kernel_rfl
noncomputable def xdr_Reader_Bool_v1_a (N : Nat) (f0 : Int × Int → Option (Unit)) (x : Unit) : Option (Unit) :=
  (Option.bind (f0 ((1 : Int), (10 : Int))) fun r1 =>
  (some ()))
theorem xdr_Reader_Bool_v1_f (N : Nat) (f0 : Int × Int → Option (Unit)) (x) : xdr_Reader_Bool_v1_a N f0 x = fnStep Γ (xdr_Reader_Bool_v1_CA N f0) (xdr_Reader_Bool_v1_J N) 6 Try.f16.results.toList (xdr_Reader_Bool_v1_g N) xdr_Reader_Bool_v1_o xdr_Reader_Bool_v1_c x := by kernel_rfl
theorem xdr_Reader_Bool_v1_e (N : Nat) (x) : (xdr_Reader_Bool_v1_g N).F x = fnStep Γ (xdr_Reader_Bool_v1_C N) (xdr_Reader_Bool_v1_J N) 6 Try.f16.results.toList (xdr_Reader_Bool_v1_g N) xdr_Reader_Bool_v1_o xdr_Reader_Bool_v1_c x := by
  rw [← xdr_Reader_Bool_v1_CE N]
  exact Eq.trans (by kernel_rfl) (xdr_Reader_Bool_v1_f N (xdr_Reader_most_v1) x)
theorem xdr_Reader_Bool_v1_y : Try.f16.body = some xdr_Reader_Bool_v1_c := by kernel_rfl
theorem xdr_Reader_Bool_v1_n : (Try.f16.name == "runtime.NumGoroutine") = false := by kernel_rfl
theorem xdr_Reader_Bool_v1_ok (N : Nat) : FnDoes Try.prog 16 (xdr_Reader_Bool_v1_g N) := fn_ok tabOK (xdr_Reader_Bool_v1_t N) mixedOK (J := xdr_Reader_Bool_v1_J N) (body := xdr_Reader_Bool_v1_c) Try.func16 xdr_Reader_Bool_v1_y xdr_Reader_Bool_v1_n Try.ntmps16 (jok_from xdr_Reader_Bool_v1_i trivial) rfl rfl (le_of_ble rfl) (xdr_Reader_Bool_v1_e N)
noncomputable def xdr_Reader_Enum_c : Code := codeOf Try.f45.body
noncomputable def xdr_Reader_Enum_J (N : Nat) : Nat → Hint := fun cx => hintOf cx []
noncomputable def xdr_Reader_Enum_C (N : Nat) : Nat → List GS := fun k => tabOf k [(54, [xdr_Reader_most_v1_g N])]
def xdr_Reader_Enum_o : List (Shp × List Nat) := [(⟨[(0, (.av (.one (.const (.int .u32 (0 : Int))))))], []⟩, [])]
noncomputable def xdr_Reader_Enum_g (N : Nat) : GS := { ins := ⟨[(0, (.av (.one (.const .nilp)))), (1, (.av (.one (.int .u32))))], []⟩, lend := [.keep, .keep], outs := xdr_Reader_Enum_o.map fun s => ssOf s.1, its := [.int], ots := [[]], F := xdr_Reader_Enum }
noncomputable def xdr_Reader_Enum_CA (N : Nat) (f0 : Int × Int → Option (Unit)) : Nat → List GS := fun k => tabOf k [(54, [{ xdr_Reader_most_v1_g N with F := f0 }])]
theorem xdr_Reader_Enum_CE (N : Nat) : xdr_Reader_Enum_CA N (xdr_Reader_most_v1) = xdr_Reader_Enum_C N := by kernel_rfl
theorem xdr_Reader_Enum_t (N : Nat) : TabC Try.prog (xdr_Reader_Enum_C N) := tab_ok ⟨⟨xdr_Reader_most_v1_ok N, trivial⟩, trivial⟩
theorem xdr_Reader_Enum_i : loopsOf xdr_Reader_Enum_c = [] := by kernel_rfl
noncomputable def xdr_Reader_Enum_a (N : Nat) (f0 : Int × Int → Option (Unit)) (x : Int) : Option (Unit) :=
  (Option.bind (f0 (x, (12 : Int))) fun r1 =>
  (some ()))
theorem xdr_Reader_Enum_f (N : Nat) (f0 : Int × Int → Option (Unit)) (x) : xdr_Reader_Enum_a N f0 x = fnStep Γ (xdr_Reader_Enum_CA N f0) (xdr_Reader_Enum_J N) 8 Try.f45.results.toList (xdr_Reader_Enum_g N) xdr_Reader_Enum_o xdr_Reader_Enum_c x := by kernel_rfl
theorem xdr_Reader_Enum_e (N : Nat) (x) : (xdr_Reader_Enum_g N).F x = fnStep Γ (xdr_Reader_Enum_C N) (xdr_Reader_Enum_J N) 8 Try.f45.results.toList (xdr_Reader_Enum_g N) xdr_Reader_Enum_o xdr_Reader_Enum_c x := by
  rw [← xdr_Reader_Enum_CE N]
  exact Eq.trans (by kernel_rfl) (xdr_Reader_Enum_f N (xdr_Reader_most_v1) x)
theorem xdr_Reader_Enum_y : Try.f45.body = some xdr_Reader_Enum_c := by kernel_rfl
theorem xdr_Reader_Enum_n : (Try.f45.name == "runtime.NumGoroutine") = false := by kernel_rfl
theorem xdr_Reader_Enum_ok (N : Nat) : FnDoes Try.prog 45 (xdr_Reader_Enum_g N) := fn_ok tabOK (xdr_Reader_Enum_t N) mixedOK (J := xdr_Reader_Enum_J N) (body := xdr_Reader_Enum_c) Try.func45 xdr_Reader_Enum_y xdr_Reader_Enum_n Try.ntmps45 (jok_from xdr_Reader_Enum_i trivial) rfl rfl (le_of_ble rfl) (xdr_Reader_Enum_e N)
noncomputable def xdr_Reader_fixed_v1_c : Code := codeOf Try.f64.body
noncomputable def xdr_Reader_fixed_v1_J (N : Nat) : Nat → Hint := fun cx => hintOf cx [(0, { reg := fun k => assoc0 k [], cnd := fun k => assoc0 k [], loop := fun k => assoc0 k [], nil := fun k => assoc0 k [], unr := fun k => assocN k [], blk := fun k => assoc0 k [] })]
noncomputable def xdr_Reader_fixed_v1_C (N : Nat) : Nat → List GS := fun k => tabOf k [(56, [xdr_Reader_bad_v1_g N])]
def xdr_Reader_fixed_v1_o : List (Shp × List Nat) := [(⟨[(0, (.av (.one (.const .nils))))], []⟩, [])]
noncomputable def xdr_Reader_fixed_v1_g (N : Nat) : GS := { ins := ⟨[(0, (.av (.one (.const .nilp)))), (1, (.av (.one (.int .i64)))), (2, (.av (.one (.int .i64))))], []⟩, lend := [.keep, .keep, .keep], outs := xdr_Reader_fixed_v1_o.map fun s => ssOf s.1, its := [.int, .int], ots := [[]], F := xdr_Reader_fixed_v1 }
noncomputable def xdr_Reader_fixed_v1_CA (N : Nat) (f0 : Unit → Option (Unit)) : Nat → List GS := fun k => tabOf k [(56, [{ xdr_Reader_bad_v1_g N with F := f0 }])]
theorem xdr_Reader_fixed_v1_CE (N : Nat) : xdr_Reader_fixed_v1_CA N (xdr_Reader_bad_v1) = xdr_Reader_fixed_v1_C N := by kernel_rfl
theorem xdr_Reader_fixed_v1_t (N : Nat) : TabC Try.prog (xdr_Reader_fixed_v1_C N) := tab_ok ⟨⟨xdr_Reader_bad_v1_ok N, trivial⟩, trivial⟩
theorem xdr_Reader_fixed_v1_i : loopsOf xdr_Reader_fixed_v1_c = [(0, codeOf (getLoop 0 xdr_Reader_fixed_v1_c))] := by kernel_rfl
noncomputable def xdr_Reader_fixed_v1_a (N : Nat) (f0 : Unit → Option (Unit)) (x : Int × Int) : Option (Unit) :=
  (Option.bind (f0 ()) fun r1 =>
  (some ()))
theorem xdr_Reader_fixed_v1_f (N : Nat) (f0 : Unit → Option (Unit)) (x) : xdr_Reader_fixed_v1_a N f0 x = fnStep Γ (xdr_Reader_fixed_v1_CA N f0) (xdr_Reader_fixed_v1_J N) 53 Try.f64.results.toList (xdr_Reader_fixed_v1_g N) xdr_Reader_fixed_v1_o xdr_Reader_fixed_v1_c x := by kernel_rfl
theorem xdr_Reader_fixed_v1_e (N : Nat) (x) : (xdr_Reader_fixed_v1_g N).F x = fnStep Γ (xdr_Reader_fixed_v1_C N) (xdr_Reader_fixed_v1_J N) 53 Try.f64.results.toList (xdr_Reader_fixed_v1_g N) xdr_Reader_fixed_v1_o xdr_Reader_fixed_v1_c x := by
  rw [← xdr_Reader_fixed_v1_CE N]
  exact Eq.trans (by kernel_rfl) (xdr_Reader_fixed_v1_f N (xdr_Reader_bad_v1) x)
theorem xdr_Reader_fixed_v1_y : Try.f64.body = some xdr_Reader_fixed_v1_c := by kernel_rfl
theorem xdr_Reader_fixed_v1_n : (Try.f64.name == "runtime.NumGoroutine") = false := by kernel_rfl
theorem xdr_Reader_fixed_v1_ok (N : Nat) : FnDoes Try.prog 64 (xdr_Reader_fixed_v1_g N) := fn_ok tabOK (xdr_Reader_fixed_v1_t N) mixedOK (J := xdr_Reader_fixed_v1_J N) (body := xdr_Reader_fixed_v1_c) Try.func64 xdr_Reader_fixed_v1_y xdr_Reader_fixed_v1_n Try.ntmps64 (jok_from xdr_Reader_fixed_v1_i ⟨⟨.inl rfl, trivial⟩, trivial⟩) rfl rfl (le_of_ble rfl) (xdr_Reader_fixed_v1_e N)
noncomputable def xdr_Reader_Fixed_c : Code := codeOf Try.f37.body
noncomputable def xdr_Reader_Fixed_J (N : Nat) : Nat → Hint := fun cx => hintOf cx []
noncomputable def xdr_Reader_Fixed_C (N : Nat) : Nat → List GS := fun k => tabOf k [(26, [xdr_Reader_At_v1_g N]), (64, [xdr_Reader_fixed_v1_g N])]
def xdr_Reader_Fixed_o : List (Shp × List Nat) := [(⟨[(0, (.av (.one (.const .nils))))], []⟩, [])]
noncomputable def xdr_Reader_Fixed_g (N : Nat) : GS := { ins := ⟨[(0, (.av (.one (.const .nilp)))), (1, (.av (.one (.int .i64))))], []⟩, lend := [.keep, .keep], outs := xdr_Reader_Fixed_o.map fun s => ssOf s.1, its := [.int], ots := [[]], F := xdr_Reader_Fixed }
noncomputable def xdr_Reader_Fixed_CA (N : Nat) (f0 : Unit → Option (Unit)) (f1 : Int × Int → Option (Unit)) : Nat → List GS := fun k => tabOf k [(26, [{ xdr_Reader_At_v1_g N with F := f0 }]), (64, [{ xdr_Reader_fixed_v1_g N with F := f1 }])]
theorem xdr_Reader_Fixed_CE (N : Nat) : xdr_Reader_Fixed_CA N (xdr_Reader_At_v1) (xdr_Reader_fixed_v1) = xdr_Reader_Fixed_C N := by kernel_rfl
theorem xdr_Reader_Fixed_t (N : Nat) : TabC Try.prog (xdr_Reader_Fixed_C N) := tab_ok ⟨⟨xdr_Reader_At_v1_ok N, trivial⟩, ⟨xdr_Reader_fixed_v1_ok N, trivial⟩, trivial⟩
theorem xdr_Reader_Fixed_i : loopsOf xdr_Reader_Fixed_c = [] := by kernel_rfl
noncomputable def xdr_Reader_Fixed_a (N : Nat) (f0 : Unit → Option (Unit)) (f1 : Int × Int → Option (Unit)) (x : Int) : Option (Unit) :=
  (Option.bind (f0 ()) fun r1 =>
  (Option.bind (f1 (x, (0 : Int))) fun r2 =>
  (some ())))
theorem xdr_Reader_Fixed_f (N : Nat) (f0 : Unit → Option (Unit)) (f1 : Int × Int → Option (Unit)) (x) : xdr_Reader_Fixed_a N f0 f1 x = fnStep Γ (xdr_Reader_Fixed_CA N f0 f1) (xdr_Reader_Fixed_J N) 10 Try.f37.results.toList (xdr_Reader_Fixed_g N) xdr_Reader_Fixed_o xdr_Reader_Fixed_c x := by kernel_rfl
theorem xdr_Reader_Fixed_e (N : Nat) (x) : (xdr_Reader_Fixed_g N).F x = fnStep Γ (xdr_Reader_Fixed_C N) (xdr_Reader_Fixed_J N) 10 Try.f37.results.toList (xdr_Reader_Fixed_g N) xdr_Reader_Fixed_o xdr_Reader_Fixed_c x := by
  rw [← xdr_Reader_Fixed_CE N]
  exact Eq.trans (by kernel_rfl) (xdr_Reader_Fixed_f N (xdr_Reader_At_v1) (xdr_Reader_fixed_v1) x)
theorem xdr_Reader_Fixed_y : Try.f37.body = some xdr_Reader_Fixed_c := by kernel_rfl
theorem xdr_Reader_Fixed_n : (Try.f37.name == "runtime.NumGoroutine") = false := by kernel_rfl
theorem xdr_Reader_Fixed_ok (N : Nat) : FnDoes Try.prog 37 (xdr_Reader_Fixed_g N) := fn_ok tabOK (xdr_Reader_Fixed_t N) mixedOK (J := xdr_Reader_Fixed_J N) (body := xdr_Reader_Fixed_c) Try.func37 xdr_Reader_Fixed_y xdr_Reader_Fixed_n Try.ntmps37 (jok_from xdr_Reader_Fixed_i trivial) rfl rfl (le_of_ble rfl) (xdr_Reader_Fixed_e N)
noncomputable def xdr_Reader_length_v1_c : Code := codeOf Try.f55.body
noncomputable def xdr_Reader_length_v1_J (N : Nat) : Nat → Hint := fun cx => hintOf cx [(0, { reg := fun k => assoc0 k [], cnd := fun k => assoc0 k [], loop := fun k => assoc0 k [], nil := fun k => assoc0 k [], unr := fun k => assocN k [], blk := fun k => assoc0 k [] })]
noncomputable def xdr_Reader_length_v1_C (N : Nat) : Nat → List GS := fun k => tabOf k [(26, [xdr_Reader_At_v1_g N]), (34, [xdr_Reader_Uint_v1_g N]), (56, [xdr_Reader_bad_v1_g N])]
def xdr_Reader_length_v1_o : List (Shp × List Nat) := [(⟨[(0, (.av (.one (.const (.int .i64 (0 : Int))))))], []⟩, [])]
noncomputable def xdr_Reader_length_v1_g (N : Nat) : GS := { ins := ⟨[(0, (.av (.one (.const .nilp)))), (1, (.av (.one (.int .i64))))], []⟩, lend := [.keep, .keep], outs := xdr_Reader_length_v1_o.map fun s => ssOf s.1, its := [.int], ots := [[]], F := xdr_Reader_length_v1 }
noncomputable def xdr_Reader_length_v1_CA (N : Nat) (f0 : Unit → Option (Unit)) (f1 : Unit → Option (Unit)) (f2 : Unit → Option (Unit)) : Nat → List GS := fun k => tabOf k [(26, [{ xdr_Reader_At_v1_g N with F := f0 }]), (34, [{ xdr_Reader_Uint_v1_g N with F := f1 }]), (56, [{ xdr_Reader_bad_v1_g N with F := f2 }])]
theorem xdr_Reader_length_v1_CE (N : Nat) : xdr_Reader_length_v1_CA N (xdr_Reader_At_v1) (xdr_Reader_Uint_v1) (xdr_Reader_bad_v1) = xdr_Reader_length_v1_C N := by kernel_rfl
theorem xdr_Reader_length_v1_t (N : Nat) : TabC Try.prog (xdr_Reader_length_v1_C N) := tab_ok ⟨⟨xdr_Reader_At_v1_ok N, trivial⟩, ⟨xdr_Reader_Uint_v1_ok N, trivial⟩, ⟨xdr_Reader_bad_v1_ok N, trivial⟩, trivial⟩
theorem xdr_Reader_length_v1_i : loopsOf xdr_Reader_length_v1_c = [] := by kernel_rfl
noncomputable def xdr_Reader_length_v1_a (N : Nat) (f0 : Unit → Option (Unit)) (f1 : Unit → Option (Unit)) (f2 : Unit → Option (Unit)) (x : Int) : Option (Unit) :=
  (Option.bind (f0 ()) fun r1 =>
  (Option.bind (f1 ()) fun r2 =>
  (Option.bind (f2 ()) fun r3 =>
  (some ()))))
theorem xdr_Reader_length_v1_f (N : Nat) (f0 : Unit → Option (Unit)) (f1 : Unit → Option (Unit)) (f2 : Unit → Option (Unit)) (x) : xdr_Reader_length_v1_a N f0 f1 f2 x = fnStep Γ (xdr_Reader_length_v1_CA N f0 f1 f2) (xdr_Reader_length_v1_J N) 24 Try.f55.results.toList (xdr_Reader_length_v1_g N) xdr_Reader_length_v1_o xdr_Reader_length_v1_c x := by kernel_rfl
theorem xdr_Reader_length_v1_e (N : Nat) (x) : (xdr_Reader_length_v1_g N).F x = fnStep Γ (xdr_Reader_length_v1_C N) (xdr_Reader_length_v1_J N) 24 Try.f55.results.toList (xdr_Reader_length_v1_g N) xdr_Reader_length_v1_o xdr_Reader_length_v1_c x := by
  rw [← xdr_Reader_length_v1_CE N]
  exact Eq.trans (by kernel_rfl) (xdr_Reader_length_v1_f N (xdr_Reader_At_v1) (xdr_Reader_Uint_v1) (xdr_Reader_bad_v1) x)
theorem xdr_Reader_length_v1_y : Try.f55.body = some xdr_Reader_length_v1_c := by kernel_rfl
theorem xdr_Reader_length_v1_n : (Try.f55.name == "runtime.NumGoroutine") = false := by kernel_rfl
theorem xdr_Reader_length_v1_ok (N : Nat) : FnDoes Try.prog 55 (xdr_Reader_length_v1_g N) := fn_ok tabOK (xdr_Reader_length_v1_t N) mixedOK (J := xdr_Reader_length_v1_J N) (body := xdr_Reader_length_v1_c) Try.func55 xdr_Reader_length_v1_y xdr_Reader_length_v1_n Try.ntmps55 (jok_from xdr_Reader_length_v1_i ⟨trivial, trivial⟩) rfl rfl (le_of_ble rfl) (xdr_Reader_length_v1_e N)
noncomputable def xdr_Reader_Opaque_v1_c : Code := codeOf Try.f46.body
noncomputable def xdr_Reader_Opaque_v1_J (N : Nat) : Nat → Hint := fun cx => hintOf cx []
noncomputable def xdr_Reader_Opaque_v1_C (N : Nat) : Nat → List GS := fun k => tabOf k [(26, [xdr_Reader_At_v1_g N]), (55, [xdr_Reader_length_v1_g N]), (64, [xdr_Reader_fixed_v1_g N])]
def xdr_Reader_Opaque_v1_o : List (Shp × List Nat) := [(⟨[(0, (.av (.one (.const .nils))))], []⟩, [])]
noncomputable def xdr_Reader_Opaque_v1_g (N : Nat) : GS := { ins := ⟨[(0, (.av (.one (.const .nilp)))), (1, (.av (.one (.int .i64))))], []⟩, lend := [.keep, .keep], outs := xdr_Reader_Opaque_v1_o.map fun s => ssOf s.1, its := [.int], ots := [[]], F := xdr_Reader_Opaque_v1 }
noncomputable def xdr_Reader_Opaque_v1_CA (N : Nat) (f0 : Unit → Option (Unit)) (f1 : Int → Option (Unit)) (f2 : Int × Int → Option (Unit)) : Nat → List GS := fun k => tabOf k [(26, [{ xdr_Reader_At_v1_g N with F := f0 }]), (55, [{ xdr_Reader_length_v1_g N with F := f1 }]), (64, [{ xdr_Reader_fixed_v1_g N with F := f2 }])]
theorem xdr_Reader_Opaque_v1_CE (N : Nat) : xdr_Reader_Opaque_v1_CA N (xdr_Reader_At_v1) (xdr_Reader_length_v1) (xdr_Reader_fixed_v1) = xdr_Reader_Opaque_v1_C N := by kernel_rfl
theorem xdr_Reader_Opaque_v1_t (N : Nat) : TabC Try.prog (xdr_Reader_Opaque_v1_C N) := tab_ok ⟨⟨xdr_Reader_At_v1_ok N, trivial⟩, ⟨xdr_Reader_length_v1_ok N, trivial⟩, ⟨xdr_Reader_fixed_v1_ok N, trivial⟩, trivial⟩
theorem xdr_Reader_Opaque_v1_i : loopsOf xdr_Reader_Opaque_v1_c = [] := by kernel_rfl
noncomputable def xdr_Reader_Opaque_v1_a (N : Nat) (f0 : Unit → Option (Unit)) (f1 : Int → Option (Unit)) (f2 : Int × Int → Option (Unit)) (x : Int) : Option (Unit) :=
  (Option.bind (f0 ()) fun r1 =>
  (Option.bind (f1 x) fun r2 =>
  (Option.bind (f2 ((0 : Int), (0 : Int))) fun r3 =>
  (some ()))))
theorem xdr_Reader_Opaque_v1_f (N : Nat) (f0 : Unit → Option (Unit)) (f1 : Int → Option (Unit)) (f2 : Int × Int → Option (Unit)) (x) : xdr_Reader_Opaque_v1_a N f0 f1 f2 x = fnStep Γ (xdr_Reader_Opaque_v1_CA N f0 f1 f2) (xdr_Reader_Opaque_v1_J N) 14 Try.f46.results.toList (xdr_Reader_Opaque_v1_g N) xdr_Reader_Opaque_v1_o xdr_Reader_Opaque_v1_c x := by kernel_rfl
theorem xdr_Reader_Opaque_v1_e (N : Nat) (x) : (xdr_Reader_Opaque_v1_g N).F x = fnStep Γ (xdr_Reader_Opaque_v1_C N) (xdr_Reader_Opaque_v1_J N) 14 Try.f46.results.toList (xdr_Reader_Opaque_v1_g N) xdr_Reader_Opaque_v1_o xdr_Reader_Opaque_v1_c x := by
  rw [← xdr_Reader_Opaque_v1_CE N]
  exact Eq.trans (by kernel_rfl) (xdr_Reader_Opaque_v1_f N (xdr_Reader_At_v1) (xdr_Reader_length_v1) (xdr_Reader_fixed_v1) x)
theorem xdr_Reader_Opaque_v1_y : Try.f46.body = some xdr_Reader_Opaque_v1_c := by kernel_rfl
theorem xdr_Reader_Opaque_v1_n : (Try.f46.name == "runtime.NumGoroutine") = false := by kernel_rfl
theorem xdr_Reader_Opaque_v1_ok (N : Nat) : FnDoes Try.prog 46 (xdr_Reader_Opaque_v1_g N) := fn_ok tabOK (xdr_Reader_Opaque_v1_t N) mixedOK (J := xdr_Reader_Opaque_v1_J N) (body := xdr_Reader_Opaque_v1_c) Try.func46 xdr_Reader_Opaque_v1_y xdr_Reader_Opaque_v1_n Try.ntmps46 (jok_from xdr_Reader_Opaque_v1_i trivial) rfl rfl (le_of_ble rfl) (xdr_Reader_Opaque_v1_e N)
noncomputable def xdr_Reader_Text_v1_c : Code := codeOf Try.f17.body
noncomputable def xdr_Reader_Text_v1_J (N : Nat) : Nat → Hint := fun cx => hintOf cx []
noncomputable def xdr_Reader_Text_v1_C (N : Nat) : Nat → List GS := fun k => tabOf k [(46, [xdr_Reader_Opaque_v1_g N])]
def xdr_Reader_Text_v1_o : List (Shp × List Nat) := [(⟨[(0, (.av (.one .str)))], []⟩, [])]
noncomputable def xdr_Reader_Text_v1_g (N : Nat) : GS := { ins := ⟨[(0, (.av (.one (.const .nilp)))), (1, (.av (.one (.int .i64))))], []⟩, lend := [.keep, .keep], outs := xdr_Reader_Text_v1_o.map fun s => ssOf s.1, its := [.int], ots := [[.str]], F := xdr_Reader_Text_v1 }
noncomputable def xdr_Reader_Text_v1_CA (N : Nat) (f0 : Int → Option (Unit)) : Nat → List GS := fun k => tabOf k [(46, [{ xdr_Reader_Opaque_v1_g N with F := f0 }])]
theorem xdr_Reader_Text_v1_CE (N : Nat) : xdr_Reader_Text_v1_CA N (xdr_Reader_Opaque_v1) = xdr_Reader_Text_v1_C N := by kernel_rfl
theorem xdr_Reader_Text_v1_t (N : Nat) : TabC Try.prog (xdr_Reader_Text_v1_C N) := tab_ok ⟨⟨xdr_Reader_Opaque_v1_ok N, trivial⟩, trivial⟩
theorem xdr_Reader_Text_v1_i : loopsOf xdr_Reader_Text_v1_c = [] := by kernel_rfl
noncomputable def xdr_Reader_Text_v1_a (N : Nat) (f0 : Int → Option (Unit)) (x : Int) : Option ((List UInt8)) :=
  (Option.bind (f0 x) fun r2 =>
  (some (List.map (fun (n : Int) => UInt8.ofNat n.toNat) ([] : List Int))))
theorem xdr_Reader_Text_v1_f (N : Nat) (f0 : Int → Option (Unit)) (x) : xdr_Reader_Text_v1_a N f0 x = fnStep Γ (xdr_Reader_Text_v1_CA N f0) (xdr_Reader_Text_v1_J N) 9 Try.f17.results.toList (xdr_Reader_Text_v1_g N) xdr_Reader_Text_v1_o xdr_Reader_Text_v1_c x := by kernel_rfl
theorem xdr_Reader_Text_v1_e (N : Nat) (x) : (xdr_Reader_Text_v1_g N).F x = fnStep Γ (xdr_Reader_Text_v1_C N) (xdr_Reader_Text_v1_J N) 9 Try.f17.results.toList (xdr_Reader_Text_v1_g N) xdr_Reader_Text_v1_o xdr_Reader_Text_v1_c x := by
  rw [← xdr_Reader_Text_v1_CE N]
  exact Eq.trans (by kernel_rfl) (xdr_Reader_Text_v1_f N (xdr_Reader_Opaque_v1) x)
theorem xdr_Reader_Text_v1_y : Try.f17.body = some xdr_Reader_Text_v1_c := by kernel_rfl
theorem xdr_Reader_Text_v1_n : (Try.f17.name == "runtime.NumGoroutine") = false := by kernel_rfl
theorem xdr_Reader_Text_v1_ok (N : Nat) : FnDoes Try.prog 17 (xdr_Reader_Text_v1_g N) := fn_ok tabOK (xdr_Reader_Text_v1_t N) mixedOK (J := xdr_Reader_Text_v1_J N) (body := xdr_Reader_Text_v1_c) Try.func17 xdr_Reader_Text_v1_y xdr_Reader_Text_v1_n Try.ntmps17 (jok_from xdr_Reader_Text_v1_i trivial) rfl rfl (le_of_ble rfl) (xdr_Reader_Text_v1_e N)
noncomputable def xdr_Reader_Left_c : Code := codeOf Try.f47.body
noncomputable def xdr_Reader_Left_J (N : Nat) : Nat → Hint := fun cx => hintOf cx []
noncomputable def xdr_Reader_Left_C (N : Nat) : Nat → List GS := fun k => tabOf k []
def xdr_Reader_Left_o : List (Shp × List Nat) := [(⟨[(0, (.av (.one (.const (.int .i64 (0 : Int))))))], []⟩, [])]
noncomputable def xdr_Reader_Left_g (N : Nat) : GS := { ins := ⟨[(0, (.av (.one (.const .nilp))))], []⟩, lend := [.keep], outs := xdr_Reader_Left_o.map fun s => ssOf s.1, its := [], ots := [[]], F := xdr_Reader_Left }
theorem xdr_Reader_Left_t (N : Nat) : TabC Try.prog (xdr_Reader_Left_C N) := tab_ok trivial
theorem xdr_Reader_Left_i : loopsOf xdr_Reader_Left_c = [] := by kernel_rfl
theorem xdr_Reader_Left_e (N : Nat) (x) : (xdr_Reader_Left_g N).F x = fnStep Γ (xdr_Reader_Left_C N) (xdr_Reader_Left_J N) 15 Try.f47.results.toList (xdr_Reader_Left_g N) xdr_Reader_Left_o xdr_Reader_Left_c x := by kernel_rfl
theorem xdr_Reader_Left_y : Try.f47.body = some xdr_Reader_Left_c := by kernel_rfl
theorem xdr_Reader_Left_n : (Try.f47.name == "runtime.NumGoroutine") = false := by kernel_rfl
theorem xdr_Reader_Left_ok (N : Nat) : FnDoes Try.prog 47 (xdr_Reader_Left_g N) := fn_ok tabOK (xdr_Reader_Left_t N) mixedOK (J := xdr_Reader_Left_J N) (body := xdr_Reader_Left_c) Try.func47 xdr_Reader_Left_y xdr_Reader_Left_n Try.ntmps47 (jok_from xdr_Reader_Left_i trivial) rfl rfl (le_of_ble rfl) (xdr_Reader_Left_e N)
noncomputable def xdr_Reader_Done_v1_c : Code := codeOf Try.f43.body
noncomputable def xdr_Reader_Done_v1_J (N : Nat) : Nat → Hint := fun cx => hintOf cx []
noncomputable def xdr_Reader_Done_v1_C (N : Nat) : Nat → List GS := fun k => tabOf k []
def xdr_Reader_Done_v1_o : List (Shp × List Nat) := [(⟨[(0, (.av (.one (.const (.int .i64 (0 : Int))))))], []⟩, [])]
noncomputable def xdr_Reader_Done_v1_g (N : Nat) : GS := { ins := ⟨[(0, (.av (.one (.const .nilp))))], []⟩, lend := [.keep], outs := xdr_Reader_Done_v1_o.map fun s => ssOf s.1, its := [], ots := [[]], F := xdr_Reader_Done_v1 }
theorem xdr_Reader_Done_v1_t (N : Nat) : TabC Try.prog (xdr_Reader_Done_v1_C N) := tab_ok trivial
theorem xdr_Reader_Done_v1_i : loopsOf xdr_Reader_Done_v1_c = [] := by kernel_rfl
theorem xdr_Reader_Done_v1_e (N : Nat) (x) : (xdr_Reader_Done_v1_g N).F x = fnStep Γ (xdr_Reader_Done_v1_C N) (xdr_Reader_Done_v1_J N) 28 Try.f43.results.toList (xdr_Reader_Done_v1_g N) xdr_Reader_Done_v1_o xdr_Reader_Done_v1_c x := by kernel_rfl
theorem xdr_Reader_Done_v1_y : Try.f43.body = some xdr_Reader_Done_v1_c := by kernel_rfl
theorem xdr_Reader_Done_v1_n : (Try.f43.name == "runtime.NumGoroutine") = false := by kernel_rfl
theorem xdr_Reader_Done_v1_ok (N : Nat) : FnDoes Try.prog 43 (xdr_Reader_Done_v1_g N) := fn_ok tabOK (xdr_Reader_Done_v1_t N) mixedOK (J := xdr_Reader_Done_v1_J N) (body := xdr_Reader_Done_v1_c) Try.func43 xdr_Reader_Done_v1_y xdr_Reader_Done_v1_n Try.ntmps43 (jok_from xdr_Reader_Done_v1_i trivial) rfl rfl (le_of_ble rfl) (xdr_Reader_Done_v1_e N)
noncomputable def xdr_List_uint32_c : Code := codeOf Try.f39.body
noncomputable def xdr_List_uint32_c0 : Code := codeOf (getLoop 0 xdr_List_uint32_c)
def xdr_List_uint32_d0 : LD := { ins := ⟨[(0, (.av (.one (.const .nilp)))), (2, (.av (.one (.const (.fn 40 []))))), (7, (.av (.one (.const .nils)))), (12, (.av (.one (.const (.int .i64 (0 : Int)))))), (13, (.av (.one (.const (.int .i64 (0 : Int))))))], []⟩, mov := [], wr := [], outs := [(.exit 0, ⟨[(7, (.av (.one (.const .nils))))], []⟩)], its := [], ots := [[]] }
noncomputable def xdr_List_uint32_J (N : Nat) : Nat → Hint := fun cx => hintOf cx [(0, { reg := fun k => assoc0 k [], cnd := fun k => assoc0 k [], loop := fun k => assoc0 k [(0, ⟨xdr_List_uint32_d0, loopF (xdr_List_uint32_b0 N) N⟩)], nil := fun k => assoc0 k [], unr := fun k => assocN k [], blk := fun k => assoc0 k [] })]
noncomputable def xdr_List_uint32_C (N : Nat) : Nat → List GS := fun k => tabOf k [(55, [xdr_Reader_length_v1_g N]), (56, [xdr_Reader_bad_v1_g N])]
def xdr_List_uint32_o : List (Shp × List Nat) := [(⟨[(0, (.av (.one (.const .nils))))], []⟩, [])]
noncomputable def xdr_List_uint32_g (N : Nat) : GS := { ins := ⟨[(0, (.av (.one (.const .nilp)))), (1, (.av (.one (.int .i64)))), (2, (.av (.one (.const (.fn 40 [])))))], []⟩, lend := [.keep, .keep, .keep], outs := xdr_List_uint32_o.map fun s => ssOf s.1, its := [.int], ots := [[]], F := xdr_List_uint32 N }
noncomputable def xdr_List_uint32_CA (N : Nat) (f0 : Int → Option (Unit)) (f1 : Unit → Option (Unit)) : Nat → List GS := fun k => tabOf k [(55, [{ xdr_Reader_length_v1_g N with F := f0 }]), (56, [{ xdr_Reader_bad_v1_g N with F := f1 }])]
theorem xdr_List_uint32_CE (N : Nat) : xdr_List_uint32_CA N (xdr_Reader_length_v1) (xdr_Reader_bad_v1) = xdr_List_uint32_C N := by kernel_rfl
theorem xdr_List_uint32_t (N : Nat) : TabC Try.prog (xdr_List_uint32_C N) := tab_ok ⟨⟨xdr_Reader_length_v1_ok N, trivial⟩, ⟨xdr_Reader_bad_v1_ok N, trivial⟩, trivial⟩
theorem xdr_List_uint32_i0 : loopsOf xdr_List_uint32_c0 = [] := by kernel_rfl
noncomputable def xdr_List_uint32_a0 (N : Nat) (f0 : Int → Option (Unit)) (f1 : Unit → Option (Unit)) (next : Unit → Option (Unit)) (x : Unit) : Option (Unit) :=
  (some ())
theorem xdr_List_uint32_f0 (N : Nat) (f0 : Int → Option (Unit)) (f1 : Unit → Option (Unit)) (next) (x) : xdr_List_uint32_a0 N f0 f1 next x = loopStep Γ (xdr_List_uint32_CA N f0 f1) (xdr_List_uint32_J N) 0 27 xdr_List_uint32_d0 xdr_List_uint32_c0 next x := by kernel_rfl
theorem xdr_List_uint32_e0 (N : Nat) (next) (x) : xdr_List_uint32_b0 N next x = loopStep Γ (xdr_List_uint32_C N) (xdr_List_uint32_J N) 0 27 xdr_List_uint32_d0 xdr_List_uint32_c0 next x := by
  rw [← xdr_List_uint32_CE N]
  exact Eq.trans (by kernel_rfl) (xdr_List_uint32_f0 N (xdr_Reader_length_v1) (xdr_Reader_bad_v1) next x)
theorem xdr_List_uint32_k0 (N : Nat) : LoopOK Try.prog 27 xdr_List_uint32_c0 ⟨xdr_List_uint32_d0, loopF (xdr_List_uint32_b0 N) N⟩ := loop_ok tabOK (xdr_List_uint32_t N) mixedOK (J := xdr_List_uint32_J N) (cx := 0) (body := xdr_List_uint32_c0) (nt := 27) (l := xdr_List_uint32_d0) (b := xdr_List_uint32_b0 N) (jok_from xdr_List_uint32_i0 ⟨trivial, trivial⟩) (xdr_List_uint32_e0 N) N
theorem xdr_List_uint32_i : loopsOf xdr_List_uint32_c = [(0, xdr_List_uint32_c0)] := by kernel_rfl
noncomputable def xdr_List_uint32_a (N : Nat) (f0 : Int → Option (Unit)) (f1 : Unit → Option (Unit)) (x : Int) : Option (Unit) :=
  (Option.bind (f0 x) fun r1 =>
  (Option.bind (xdr_List_uint32_l0 N ()) fun r2 =>
  (Option.bind (f1 ()) fun r3 =>
  (some ()))))
theorem xdr_List_uint32_f (N : Nat) (f0 : Int → Option (Unit)) (f1 : Unit → Option (Unit)) (x) : xdr_List_uint32_a N f0 f1 x = fnStep Γ (xdr_List_uint32_CA N f0 f1) (xdr_List_uint32_J N) 27 Try.f39.results.toList (xdr_List_uint32_g N) xdr_List_uint32_o xdr_List_uint32_c x := by kernel_rfl
theorem xdr_List_uint32_e (N : Nat) (x) : (xdr_List_uint32_g N).F x = fnStep Γ (xdr_List_uint32_C N) (xdr_List_uint32_J N) 27 Try.f39.results.toList (xdr_List_uint32_g N) xdr_List_uint32_o xdr_List_uint32_c x := by
  rw [← xdr_List_uint32_CE N]
  exact Eq.trans (by kernel_rfl) (xdr_List_uint32_f N (xdr_Reader_length_v1) (xdr_Reader_bad_v1) x)
theorem xdr_List_uint32_y : Try.f39.body = some xdr_List_uint32_c := by kernel_rfl
theorem xdr_List_uint32_n : (Try.f39.name == "runtime.NumGoroutine") = false := by kernel_rfl
theorem xdr_List_uint32_ok (N : Nat) : FnDoes Try.prog 39 (xdr_List_uint32_g N) := fn_ok tabOK (xdr_List_uint32_t N) mixedOK (J := xdr_List_uint32_J N) (body := xdr_List_uint32_c) Try.func39 xdr_List_uint32_y xdr_List_uint32_n Try.ntmps39 (jok_from xdr_List_uint32_i ⟨⟨.inr ⟨_, rfl, xdr_List_uint32_k0 N⟩, trivial⟩, trivial⟩) rfl rfl (le_of_ble rfl) (xdr_List_uint32_e N)
noncomputable def xdr_Chain_string_c : Code := codeOf Try.f24.body
noncomputable def xdr_Chain_string_c0 : Code := codeOf (getLoop 0 xdr_Chain_string_c)
def xdr_Chain_string_d0 : LD := { ins := ⟨[(0, (.av (.one (.const .nilp)))), (1, (.av (.one (.int .i64)))), (2, (.av (.one (.const (.fn 20 []))))), (7, (.av (.one (.const .nils))))], []⟩, mov := [], wr := [], outs := [(.ret, ⟨[(6, (.av (.one (.const .nils))))], []⟩)], its := [.int], ots := [[]] }
noncomputable def xdr_Chain_string_J (N : Nat) : Nat → Hint := fun cx => hintOf cx [(0, { reg := fun k => assoc0 k [], cnd := fun k => assoc0 k [], loop := fun k => assoc0 k [(0, ⟨xdr_Chain_string_d0, loopF (xdr_Chain_string_b0 N) N⟩)], nil := fun k => assoc0 k [], unr := fun k => assocN k [], blk := fun k => assoc0 k [] })]
noncomputable def xdr_Chain_string_C (N : Nat) : Nat → List GS := fun k => tabOf k [(26, [xdr_Reader_At_v1_g N]), (16, [xdr_Reader_Bool_v1_g N]), (56, [xdr_Reader_bad_v1_g N])]
def xdr_Chain_string_o : List (Shp × List Nat) := [(⟨[(0, (.av (.one (.const .nils))))], []⟩, [])]
noncomputable def xdr_Chain_string_g (N : Nat) : GS := { ins := ⟨[(0, (.av (.one (.const .nilp)))), (1, (.av (.one (.int .i64)))), (2, (.av (.one (.const (.fn 20 [])))))], []⟩, lend := [.keep, .keep, .keep], outs := xdr_Chain_string_o.map fun s => ssOf s.1, its := [.int], ots := [[]], F := xdr_Chain_string N }
noncomputable def xdr_Chain_string_CA (N : Nat) (f0 : Unit → Option (Unit)) (f1 : Unit → Option (Unit)) (f2 : Unit → Option (Unit)) : Nat → List GS := fun k => tabOf k [(26, [{ xdr_Reader_At_v1_g N with F := f0 }]), (16, [{ xdr_Reader_Bool_v1_g N with F := f1 }]), (56, [{ xdr_Reader_bad_v1_g N with F := f2 }])]
theorem xdr_Chain_string_CE (N : Nat) : xdr_Chain_string_CA N (xdr_Reader_At_v1) (xdr_Reader_Bool_v1) (xdr_Reader_bad_v1) = xdr_Chain_string_C N := by kernel_rfl
theorem xdr_Chain_string_t (N : Nat) : TabC Try.prog (xdr_Chain_string_C N) := tab_ok ⟨⟨xdr_Reader_At_v1_ok N, trivial⟩, ⟨xdr_Reader_Bool_v1_ok N, trivial⟩, ⟨xdr_Reader_bad_v1_ok N, trivial⟩, trivial⟩
theorem xdr_Chain_string_i0 : loopsOf xdr_Chain_string_c0 = [] := by kernel_rfl
noncomputable def xdr_Chain_string_a0 (N : Nat) (f0 : Unit → Option (Unit)) (f1 : Unit → Option (Unit)) (f2 : Unit → Option (Unit)) (next : Int → Option (Unit)) (x : Int) : Option (Unit) :=
  (Option.bind (f0 ()) fun r1 =>
  (Option.bind (f1 ()) fun r2 =>
  (Option.bind (f2 ()) fun r3 =>
  (some ()))))
theorem xdr_Chain_string_f0 (N : Nat) (f0 : Unit → Option (Unit)) (f1 : Unit → Option (Unit)) (f2 : Unit → Option (Unit)) (next) (x) : xdr_Chain_string_a0 N f0 f1 f2 next x = loopStep Γ (xdr_Chain_string_CA N f0 f1 f2) (xdr_Chain_string_J N) 0 35 xdr_Chain_string_d0 xdr_Chain_string_c0 next x := by kernel_rfl
theorem xdr_Chain_string_e0 (N : Nat) (next) (x) : xdr_Chain_string_b0 N next x = loopStep Γ (xdr_Chain_string_C N) (xdr_Chain_string_J N) 0 35 xdr_Chain_string_d0 xdr_Chain_string_c0 next x := by
  rw [← xdr_Chain_string_CE N]
  exact Eq.trans (by kernel_rfl) (xdr_Chain_string_f0 N (xdr_Reader_At_v1) (xdr_Reader_Bool_v1) (xdr_Reader_bad_v1) next x)
theorem xdr_Chain_string_k0 (N : Nat) : LoopOK Try.prog 35 xdr_Chain_string_c0 ⟨xdr_Chain_string_d0, loopF (xdr_Chain_string_b0 N) N⟩ := loop_ok tabOK (xdr_Chain_string_t N) mixedOK (J := xdr_Chain_string_J N) (cx := 0) (body := xdr_Chain_string_c0) (nt := 35) (l := xdr_Chain_string_d0) (b := xdr_Chain_string_b0 N) (jok_from xdr_Chain_string_i0 ⟨trivial, trivial⟩) (xdr_Chain_string_e0 N) N
theorem xdr_Chain_string_i : loopsOf xdr_Chain_string_c = [(0, xdr_Chain_string_c0)] := by kernel_rfl
noncomputable def xdr_Chain_string_a (N : Nat) (f0 : Unit → Option (Unit)) (f1 : Unit → Option (Unit)) (f2 : Unit → Option (Unit)) (x : Int) : Option (Unit) :=
  (Option.bind (xdr_Chain_string_l0 N x) fun r1 =>
  (some ()))
theorem xdr_Chain_string_f (N : Nat) (f0 : Unit → Option (Unit)) (f1 : Unit → Option (Unit)) (f2 : Unit → Option (Unit)) (x) : xdr_Chain_string_a N f0 f1 f2 x = fnStep Γ (xdr_Chain_string_CA N f0 f1 f2) (xdr_Chain_string_J N) 35 Try.f24.results.toList (xdr_Chain_string_g N) xdr_Chain_string_o xdr_Chain_string_c x := by kernel_rfl
theorem xdr_Chain_string_e (N : Nat) (x) : (xdr_Chain_string_g N).F x = fnStep Γ (xdr_Chain_string_C N) (xdr_Chain_string_J N) 35 Try.f24.results.toList (xdr_Chain_string_g N) xdr_Chain_string_o xdr_Chain_string_c x := by
  rw [← xdr_Chain_string_CE N]
  exact Eq.trans (by kernel_rfl) (xdr_Chain_string_f N (xdr_Reader_At_v1) (xdr_Reader_Bool_v1) (xdr_Reader_bad_v1) x)
theorem xdr_Chain_string_y : Try.f24.body = some xdr_Chain_string_c := by kernel_rfl
theorem xdr_Chain_string_n : (Try.f24.name == "runtime.NumGoroutine") = false := by kernel_rfl
theorem xdr_Chain_string_ok (N : Nat) : FnDoes Try.prog 24 (xdr_Chain_string_g N) := fn_ok tabOK (xdr_Chain_string_t N) mixedOK (J := xdr_Chain_string_J N) (body := xdr_Chain_string_c) Try.func24 xdr_Chain_string_y xdr_Chain_string_n Try.ntmps24 (jok_from xdr_Chain_string_i ⟨⟨.inr ⟨_, rfl, xdr_Chain_string_k0 N⟩, trivial⟩, trivial⟩) rfl rfl (le_of_ble rfl) (xdr_Chain_string_e N)
noncomputable def xdr_Option_uint32_c : Code := codeOf Try.f42.body
noncomputable def xdr_Option_uint32_J (N : Nat) : Nat → Hint := fun cx => hintOf cx []
noncomputable def xdr_Option_uint32_C (N : Nat) : Nat → List GS := fun k => tabOf k [(16, [xdr_Reader_Bool_v1_g N])]
def xdr_Option_uint32_o : List (Shp × List Nat) := [(⟨[(0, (.av (.one (.const .nilp))))], []⟩, [])]
noncomputable def xdr_Option_uint32_g (N : Nat) : GS := { ins := ⟨[(0, (.av (.one (.const .nilp)))), (1, (.av (.one (.const (.fn 40 [])))))], []⟩, lend := [.keep, .keep], outs := xdr_Option_uint32_o.map fun s => ssOf s.1, its := [], ots := [[]], F := xdr_Option_uint32 }
noncomputable def xdr_Option_uint32_CA (N : Nat) (f0 : Unit → Option (Unit)) : Nat → List GS := fun k => tabOf k [(16, [{ xdr_Reader_Bool_v1_g N with F := f0 }])]
theorem xdr_Option_uint32_CE (N : Nat) : xdr_Option_uint32_CA N (xdr_Reader_Bool_v1) = xdr_Option_uint32_C N := by kernel_rfl
theorem xdr_Option_uint32_t (N : Nat) : TabC Try.prog (xdr_Option_uint32_C N) := tab_ok ⟨⟨xdr_Reader_Bool_v1_ok N, trivial⟩, trivial⟩
theorem xdr_Option_uint32_i : loopsOf xdr_Option_uint32_c = [] := by kernel_rfl
noncomputable def xdr_Option_uint32_a (N : Nat) (f0 : Unit → Option (Unit)) (x : Unit) : Option (Unit) :=
  (Option.bind (f0 ()) fun r1 =>
  (some ()))
theorem xdr_Option_uint32_f (N : Nat) (f0 : Unit → Option (Unit)) (x) : xdr_Option_uint32_a N f0 x = fnStep Γ (xdr_Option_uint32_CA N f0) (xdr_Option_uint32_J N) 14 Try.f42.results.toList (xdr_Option_uint32_g N) xdr_Option_uint32_o xdr_Option_uint32_c x := by kernel_rfl
theorem xdr_Option_uint32_e (N : Nat) (x) : (xdr_Option_uint32_g N).F x = fnStep Γ (xdr_Option_uint32_C N) (xdr_Option_uint32_J N) 14 Try.f42.results.toList (xdr_Option_uint32_g N) xdr_Option_uint32_o xdr_Option_uint32_c x := by
  rw [← xdr_Option_uint32_CE N]
  exact Eq.trans (by kernel_rfl) (xdr_Option_uint32_f N (xdr_Reader_Bool_v1) x)
theorem xdr_Option_uint32_y : Try.f42.body = some xdr_Option_uint32_c := by kernel_rfl
theorem xdr_Option_uint32_n : (Try.f42.name == "runtime.NumGoroutine") = false := by kernel_rfl
theorem xdr_Option_uint32_ok (N : Nat) : FnDoes Try.prog 42 (xdr_Option_uint32_g N) := fn_ok tabOK (xdr_Option_uint32_t N) mixedOK (J := xdr_Option_uint32_J N) (body := xdr_Option_uint32_c) Try.func42 xdr_Option_uint32_y xdr_Option_uint32_n Try.ntmps42 (jok_from xdr_Option_uint32_i trivial) rfl rfl (le_of_ble rfl) (xdr_Option_uint32_e N)
noncomputable def xdr_NewReader_v1_c : Code := codeOf Try.f14.body
noncomputable def xdr_NewReader_v1_J (N : Nat) : Nat → Hint := fun cx => hintOf cx []
noncomputable def xdr_NewReader_v1_C (N : Nat) : Nat → List GS := fun k => tabOf k [(53, [slices_Clone_byte_byte_v1_g N])]
def xdr_NewReader_v1_o : List (Shp × List Nat) := [(⟨[(0, (.av (.one (.const (.ptr ⟨0, 0, 0, 0⟩)))))], [(.sh (.one (.const (.slw 4 1))), true), (.sh (.one (.const (.int .i64 (0 : Int)))), true), (.sh (.one (.const (.int .i64 (0 : Int)))), true), (.sh (.one (.const (.int .i64 (0 : Int)))), false), (.sh (.arr (.int .u8) none), false)]⟩, [])]
noncomputable def xdr_NewReader_v1_g (N : Nat) : GS := { ins := ⟨[(0, (.av (.one (.rsl (.int .u8)))))], []⟩, lend := [.keep], outs := xdr_NewReader_v1_o.map fun s => ssOf s.1, its := [.lst (.int .u8)], ots := [[.lst (.int .u8)]], F := xdr_NewReader_v1 }
noncomputable def xdr_NewReader_v1_CA (N : Nat) (f0 : (List Int) → Option ((List Int))) : Nat → List GS := fun k => tabOf k [(53, [{ slices_Clone_byte_byte_v1_g N with F := f0 }])]
theorem xdr_NewReader_v1_CE (N : Nat) : xdr_NewReader_v1_CA N (slices_Clone_byte_byte_v1) = xdr_NewReader_v1_C N := by kernel_rfl
theorem xdr_NewReader_v1_t (N : Nat) : TabC Try.prog (xdr_NewReader_v1_C N) := tab_ok ⟨⟨slices_Clone_byte_byte_v1_ok N, trivial⟩, trivial⟩
theorem xdr_NewReader_v1_i : loopsOf xdr_NewReader_v1_c = [] := by kernel_rfl
noncomputable def xdr_NewReader_v1_a (N : Nat) (f0 : (List Int) → Option ((List Int))) (x : (List Int)) : Option ((List Int)) :=
  (Option.bind (f0 x) fun r1 =>
  (some r1))
theorem xdr_NewReader_v1_f (N : Nat) (f0 : (List Int) → Option ((List Int))) (x) : xdr_NewReader_v1_a N f0 x = fnStep Γ (xdr_NewReader_v1_CA N f0) (xdr_NewReader_v1_J N) 7 Try.f14.results.toList (xdr_NewReader_v1_g N) xdr_NewReader_v1_o xdr_NewReader_v1_c x := by kernel_rfl
theorem xdr_NewReader_v1_e (N : Nat) (x) : (xdr_NewReader_v1_g N).F x = fnStep Γ (xdr_NewReader_v1_C N) (xdr_NewReader_v1_J N) 7 Try.f14.results.toList (xdr_NewReader_v1_g N) xdr_NewReader_v1_o xdr_NewReader_v1_c x := by
  rw [← xdr_NewReader_v1_CE N]
  exact Eq.trans (by kernel_rfl) (xdr_NewReader_v1_f N (slices_Clone_byte_byte_v1) x)
theorem xdr_NewReader_v1_y : Try.f14.body = some xdr_NewReader_v1_c := by kernel_rfl
theorem xdr_NewReader_v1_n : (Try.f14.name == "runtime.NumGoroutine") = false := by kernel_rfl
theorem xdr_NewReader_v1_ok (N : Nat) : FnDoes Try.prog 14 (xdr_NewReader_v1_g N) := fn_ok tabOK (xdr_NewReader_v1_t N) mixedOK (J := xdr_NewReader_v1_J N) (body := xdr_NewReader_v1_c) Try.func14 xdr_NewReader_v1_y xdr_NewReader_v1_n Try.ntmps14 (jok_from xdr_NewReader_v1_i trivial) rfl rfl (le_of_ble rfl) (xdr_NewReader_v1_e N)
noncomputable def xdr_Writer_Bool_v1_c : Code := codeOf Try.f15.body
noncomputable def xdr_Writer_Bool_v1_J (N : Nat) : Nat → Hint := fun cx => hintOf cx []
noncomputable def xdr_Writer_Bool_v1_C (N : Nat) : Nat → List GS := fun k => tabOf k [(27, [xdr_Writer_Uint_g N])]
def xdr_Writer_Bool_v1_o : List (Shp × List Nat) := [(⟨[(0, (.tup []))], [(.sh (.one (.const (.slw 2 1))), true), (.sh (.one (.int .i64)), false), (.sh (.arr (.int .u8) none), false)]⟩, [])]
noncomputable def xdr_Writer_Bool_v1_g (N : Nat) : GS := { ins := ⟨[(0, (.av (.one (.const (.ptr ⟨0, 0, 0, 0⟩))))), (1, (.av (.one .bool)))], [(some (.one (.const .nils)), true), (some (.one (.int .i64)), false)]⟩, lend := [.keep, .keep], outs := xdr_Writer_Bool_v1_o.map fun s => ssOf s.1, its := [.bool, .int], ots := [[.int, .lst (.int .u8)]], F := xdr_Writer_Bool_v1 N }
noncomputable def xdr_Writer_Bool_v1_CA (N : Nat) (f0 : Int × Int → Option (Int × (List Int))) : Nat → List GS := fun k => tabOf k [(27, [{ xdr_Writer_Uint_g N with F := f0 }])]
theorem xdr_Writer_Bool_v1_CE (N : Nat) : xdr_Writer_Bool_v1_CA N (xdr_Writer_Uint N) = xdr_Writer_Bool_v1_C N := by kernel_rfl
theorem xdr_Writer_Bool_v1_t (N : Nat) : TabC Try.prog (xdr_Writer_Bool_v1_C N) := tab_ok ⟨⟨xdr_Writer_Uint_ok N, trivial⟩, trivial⟩
theorem xdr_Writer_Bool_v1_i : loopsOf xdr_Writer_Bool_v1_c = [] := by kernel_rfl
noncomputable def xdr_Writer_Bool_v1_a (N : Nat) (f0 : Int × Int → Option (Int × (List Int))) (x : Bool × Int) : Option (Int × (List Int)) :=
  (cond x.1
  (Option.bind (f0 ((1 : Int), x.2)) fun r1 =>
  (some (r1.1, r1.2)))
  (Option.bind (f0 ((0 : Int), x.2)) fun r2 =>
  (some (r2.1, r2.2))))
theorem xdr_Writer_Bool_v1_f (N : Nat) (f0 : Int × Int → Option (Int × (List Int))) (x) : xdr_Writer_Bool_v1_a N f0 x = fnStep Γ (xdr_Writer_Bool_v1_CA N f0) (xdr_Writer_Bool_v1_J N) 9 Try.f15.results.toList (xdr_Writer_Bool_v1_g N) xdr_Writer_Bool_v1_o xdr_Writer_Bool_v1_c x := by kernel_rfl
theorem xdr_Writer_Bool_v1_e (N : Nat) (x) : (xdr_Writer_Bool_v1_g N).F x = fnStep Γ (xdr_Writer_Bool_v1_C N) (xdr_Writer_Bool_v1_J N) 9 Try.f15.results.toList (xdr_Writer_Bool_v1_g N) xdr_Writer_Bool_v1_o xdr_Writer_Bool_v1_c x := by
  rw [← xdr_Writer_Bool_v1_CE N]
  exact Eq.trans (by kernel_rfl) (xdr_Writer_Bool_v1_f N (xdr_Writer_Uint N) x)
theorem xdr_Writer_Bool_v1_y : Try.f15.body = some xdr_Writer_Bool_v1_c := by kernel_rfl
theorem xdr_Writer_Bool_v1_n : (Try.f15.name == "runtime.NumGoroutine") = false := by kernel_rfl
theorem xdr_Writer_Bool_v1_ok (N : Nat) : FnDoes Try.prog 15 (xdr_Writer_Bool_v1_g N) := fn_ok tabOK (xdr_Writer_Bool_v1_t N) mixedOK (J := xdr_Writer_Bool_v1_J N) (body := xdr_Writer_Bool_v1_c) Try.func15 xdr_Writer_Bool_v1_y xdr_Writer_Bool_v1_n Try.ntmps15 (jok_from xdr_Writer_Bool_v1_i trivial) rfl rfl (le_of_ble rfl) (xdr_Writer_Bool_v1_e N)
noncomputable def xdr_Writer_Why_v1_c : Code := codeOf Try.f13.body
noncomputable def xdr_Writer_Why_v1_J (N : Nat) : Nat → Hint := fun cx => hintOf cx []
noncomputable def xdr_Writer_Why_v1_C (N : Nat) : Nat → List GS := fun k => tabOf k []
def xdr_Writer_Why_v1_o : List (Shp × List Nat) := [(⟨[(0, (.av (.one (.int .i64))))], [(.sh (.one (.const (.slw 2 1))), true), (.sh (.one (.int .i64)), false), (.sh (.arr (.int .u8) none), false)]⟩, [])]
noncomputable def xdr_Writer_Why_v1_g (N : Nat) : GS := { ins := ⟨[(0, (.av (.one (.const (.ptr ⟨0, 0, 0, 0⟩)))))], [(some (.one (.const (.slw 2 1))), true), (some (.one (.int .i64)), false), (some (.arr (.int .u8) none), false)]⟩, lend := [.keep], outs := xdr_Writer_Why_v1_o.map fun s => ssOf s.1, its := [.int, .lst (.int .u8)], ots := [[.int, .int, .lst (.int .u8)]], F := xdr_Writer_Why_v1 }
theorem xdr_Writer_Why_v1_t (N : Nat) : TabC Try.prog (xdr_Writer_Why_v1_C N) := tab_ok trivial
theorem xdr_Writer_Why_v1_i : loopsOf xdr_Writer_Why_v1_c = [] := by kernel_rfl
theorem xdr_Writer_Why_v1_e (N : Nat) (x) : (xdr_Writer_Why_v1_g N).F x = fnStep Γ (xdr_Writer_Why_v1_C N) (xdr_Writer_Why_v1_J N) 9 Try.f13.results.toList (xdr_Writer_Why_v1_g N) xdr_Writer_Why_v1_o xdr_Writer_Why_v1_c x := by kernel_rfl
theorem xdr_Writer_Why_v1_y : Try.f13.body = some xdr_Writer_Why_v1_c := by kernel_rfl
theorem xdr_Writer_Why_v1_n : (Try.f13.name == "runtime.NumGoroutine") = false := by kernel_rfl
theorem xdr_Writer_Why_v1_ok (N : Nat) : FnDoes Try.prog 13 (xdr_Writer_Why_v1_g N) := fn_ok tabOK (xdr_Writer_Why_v1_t N) mixedOK (J := xdr_Writer_Why_v1_J N) (body := xdr_Writer_Why_v1_c) Try.func13 xdr_Writer_Why_v1_y xdr_Writer_Why_v1_n Try.ntmps13 (jok_from xdr_Writer_Why_v1_i trivial) rfl rfl (le_of_ble rfl) (xdr_Writer_Why_v1_e N)
noncomputable def xdr_Writer_fits_v2_c : Code := codeOf Try.f57.body
noncomputable def xdr_Writer_fits_v2_J (N : Nat) : Nat → Hint := fun cx => hintOf cx [(0, { reg := fun k => assoc0 k [], cnd := fun k => assoc0 k [(11, ⟨[], [1], [(.normal, ⟨[], [(.keep, true), (.sh (.one (.int .i64)), false)]⟩)], [[.int]]⟩)], loop := fun k => assoc0 k [], nil := fun k => assoc0 k [], unr := fun k => assocN k [], blk := fun k => assoc0 k [] })]
noncomputable def xdr_Writer_fits_v2_C (N : Nat) : Nat → List GS := fun k => tabOf k [(58, [xdr_Writer_bad_g N])]
def xdr_Writer_fits_v2_o : List (Shp × List Nat) := [(⟨[(0, (.av (.one .bool)))], [(.sh (.one (.const .nils)), true), (.sh (.one (.int .i64)), false)]⟩, [])]
noncomputable def xdr_Writer_fits_v2_g (N : Nat) : GS := { ins := ⟨[(0, (.av (.one (.const (.ptr ⟨0, 0, 0, 0⟩))))), (1, (.av (.one (.int .i64)))), (2, (.av (.one (.int .i64))))], [(some (.one (.const .nils)), true), (some (.one (.int .i64)), false)]⟩, lend := [.keep, .keep, .keep], outs := xdr_Writer_fits_v2_o.map fun s => ssOf s.1, its := [.int, .int, .int], ots := [[.bool, .int]], F := xdr_Writer_fits_v2 }
noncomputable def xdr_Writer_fits_v2_CA (N : Nat) (f0 : Int → Option (Bool × Int)) : Nat → List GS := fun k => tabOf k [(58, [{ xdr_Writer_bad_g N with F := f0 }])]
theorem xdr_Writer_fits_v2_CE (N : Nat) : xdr_Writer_fits_v2_CA N (xdr_Writer_bad) = xdr_Writer_fits_v2_C N := by kernel_rfl
theorem xdr_Writer_fits_v2_t (N : Nat) : TabC Try.prog (xdr_Writer_fits_v2_C N) := tab_ok ⟨⟨xdr_Writer_bad_ok N, trivial⟩, trivial⟩
theorem xdr_Writer_fits_v2_i : loopsOf xdr_Writer_fits_v2_c = [] := by kernel_rfl
noncomputable def xdr_Writer_fits_v2_a (N : Nat) (f0 : Int → Option (Bool × Int)) (x : Int × Int × Int) : Option (Bool × Int) :=
  (Option.bind (f0 x.2.2) fun r1 =>
  (cond r1.1
  (some (false, r1.2))
  (Option.bind
  (cond (decide (x.2.1 < x.1))
  (some (1 : Int))
  (some r1.2))
  fun r3 =>
  (some ((decide (x.1 ≤ x.2.1)), r3)))))
theorem xdr_Writer_fits_v2_f (N : Nat) (f0 : Int → Option (Bool × Int)) (x) : xdr_Writer_fits_v2_a N f0 x = fnStep Γ (xdr_Writer_fits_v2_CA N f0) (xdr_Writer_fits_v2_J N) 18 Try.f57.results.toList (xdr_Writer_fits_v2_g N) xdr_Writer_fits_v2_o xdr_Writer_fits_v2_c x := by kernel_rfl
theorem xdr_Writer_fits_v2_e (N : Nat) (x) : (xdr_Writer_fits_v2_g N).F x = fnStep Γ (xdr_Writer_fits_v2_C N) (xdr_Writer_fits_v2_J N) 18 Try.f57.results.toList (xdr_Writer_fits_v2_g N) xdr_Writer_fits_v2_o xdr_Writer_fits_v2_c x := by
  rw [← xdr_Writer_fits_v2_CE N]
  exact Eq.trans (by kernel_rfl) (xdr_Writer_fits_v2_f N (xdr_Writer_bad) x)
theorem xdr_Writer_fits_v2_y : Try.f57.body = some xdr_Writer_fits_v2_c := by kernel_rfl
theorem xdr_Writer_fits_v2_n : (Try.f57.name == "runtime.NumGoroutine") = false := by kernel_rfl
theorem xdr_Writer_fits_v2_ok (N : Nat) : FnDoes Try.prog 57 (xdr_Writer_fits_v2_g N) := fn_ok tabOK (xdr_Writer_fits_v2_t N) mixedOK (J := xdr_Writer_fits_v2_J N) (body := xdr_Writer_fits_v2_c) Try.func57 xdr_Writer_fits_v2_y xdr_Writer_fits_v2_n Try.ntmps57 (jok_from xdr_Writer_fits_v2_i ⟨trivial, trivial⟩) rfl rfl (le_of_ble rfl) (xdr_Writer_fits_v2_e N)
noncomputable def xdr_Writer_Opaque_v3_c : Code := codeOf Try.f44.body
noncomputable def xdr_Writer_Opaque_v3_J (N : Nat) : Nat → Hint := fun cx => hintOf cx [(0, { reg := fun k => assoc0 k [], cnd := fun k => assoc0 k [(10, ⟨[], [0, 1], [(.normal, ⟨[], [(.sh (.one (.const (.slw 2 1))), true), (.sh (.one (.int .i64)), false), (.sh (.arr (.int .u8) none), false)]⟩)], [[.int, .lst (.int .u8)]]⟩)], loop := fun k => assoc0 k [], nil := fun k => assoc0 k [], unr := fun k => assocN k [], blk := fun k => assoc0 k [] })]
noncomputable def xdr_Writer_Opaque_v3_C (N : Nat) : Nat → List GS := fun k => tabOf k [(57, [xdr_Writer_fits_v2_g N]), (27, [xdr_Writer_Uint_g N]), (30, [xdr_Writer_Fixed_g N])]
def xdr_Writer_Opaque_v3_o : List (Shp × List Nat) := [(⟨[(0, (.tup []))], [(.sh (.one (.const (.slw 2 1))), true), (.sh (.one (.int .i64)), false), (.sh (.arr (.int .u8) none), false)]⟩, [])]
noncomputable def xdr_Writer_Opaque_v3_g (N : Nat) : GS := { ins := ⟨[(0, (.av (.one (.const (.ptr ⟨0, 0, 0, 0⟩))))), (1, (.av (.one (.rsl (.int .u8))))), (2, (.av (.one (.int .i64))))], [(some (.one (.const .nils)), true), (some (.one (.int .i64)), false)]⟩, lend := [.keep, .lend (.int .u8), .keep], outs := xdr_Writer_Opaque_v3_o.map fun s => ssOf s.1, its := [.lst (.int .u8), .int, .int], ots := [[.int, .lst (.int .u8)]], F := xdr_Writer_Opaque_v3 N }
noncomputable def xdr_Writer_Opaque_v3_CA (N : Nat) (f0 : Int × Int × Int → Option (Bool × Int)) (f1 : Int × Int → Option (Int × (List Int))) (f2 : (List Int) × Int × (List Int) → Option (Int × (List Int))) : Nat → List GS := fun k => tabOf k [(57, [{ xdr_Writer_fits_v2_g N with F := f0 }]), (27, [{ xdr_Writer_Uint_g N with F := f1 }]), (30, [{ xdr_Writer_Fixed_g N with F := f2 }])]
theorem xdr_Writer_Opaque_v3_CE (N : Nat) : xdr_Writer_Opaque_v3_CA N (xdr_Writer_fits_v2) (xdr_Writer_Uint N) (xdr_Writer_Fixed N) = xdr_Writer_Opaque_v3_C N := by kernel_rfl
theorem xdr_Writer_Opaque_v3_t (N : Nat) : TabC Try.prog (xdr_Writer_Opaque_v3_C N) := tab_ok ⟨⟨xdr_Writer_fits_v2_ok N, trivial⟩, ⟨xdr_Writer_Uint_ok N, trivial⟩, ⟨xdr_Writer_Fixed_ok N, trivial⟩, trivial⟩
theorem xdr_Writer_Opaque_v3_i : loopsOf xdr_Writer_Opaque_v3_c = [] := by kernel_rfl
noncomputable def xdr_Writer_Opaque_v3_a (N : Nat) (f0 : Int × Int × Int → Option (Bool × Int)) (f1 : Int × Int → Option (Int × (List Int))) (f2 : (List Int) × Int × (List Int) → Option (Int × (List Int))) (x : (List Int) × Int × Int) : Option (Int × (List Int)) :=
  (Option.bind (f0 ((((List.length x.1) : Nat) : Int), x.2.1, x.2.2)) fun r2 =>
  (Option.bind
  (cond r2.1
  (Option.bind (f1 ((wrapF .u32 (((List.length x.1) : Nat) : Int)), r2.2)) fun r5 =>
  (Option.bind (f2 (x.1, r5.1, r5.2)) fun r6 =>
  (some (r6.1, r6.2))))
  (some (r2.2, ([] : List Int))))
  fun r7 =>
  (some (r7.1, r7.2))))
theorem xdr_Writer_Opaque_v3_f (N : Nat) (f0 : Int × Int × Int → Option (Bool × Int)) (f1 : Int × Int → Option (Int × (List Int))) (f2 : (List Int) × Int × (List Int) → Option (Int × (List Int))) (x) : xdr_Writer_Opaque_v3_a N f0 f1 f2 x = fnStep Γ (xdr_Writer_Opaque_v3_CA N f0 f1 f2) (xdr_Writer_Opaque_v3_J N) 19 Try.f44.results.toList (xdr_Writer_Opaque_v3_g N) xdr_Writer_Opaque_v3_o xdr_Writer_Opaque_v3_c x := by kernel_rfl
theorem xdr_Writer_Opaque_v3_e (N : Nat) (x) : (xdr_Writer_Opaque_v3_g N).F x = fnStep Γ (xdr_Writer_Opaque_v3_C N) (xdr_Writer_Opaque_v3_J N) 19 Try.f44.results.toList (xdr_Writer_Opaque_v3_g N) xdr_Writer_Opaque_v3_o xdr_Writer_Opaque_v3_c x := by
  rw [← xdr_Writer_Opaque_v3_CE N]
  exact Eq.trans (by kernel_rfl) (xdr_Writer_Opaque_v3_f N (xdr_Writer_fits_v2) (xdr_Writer_Uint N) (xdr_Writer_Fixed N) x)
theorem xdr_Writer_Opaque_v3_y : Try.f44.body = some xdr_Writer_Opaque_v3_c := by kernel_rfl
theorem xdr_Writer_Opaque_v3_n : (Try.f44.name == "runtime.NumGoroutine") = false := by kernel_rfl
theorem xdr_Writer_Opaque_v3_ok (N : Nat) : FnDoes Try.prog 44 (xdr_Writer_Opaque_v3_g N) := fn_ok tabOK (xdr_Writer_Opaque_v3_t N) mixedOK (J := xdr_Writer_Opaque_v3_J N) (body := xdr_Writer_Opaque_v3_c) Try.func44 xdr_Writer_Opaque_v3_y xdr_Writer_Opaque_v3_n Try.ntmps44 (jok_from xdr_Writer_Opaque_v3_i ⟨trivial, trivial⟩) rfl rfl (le_of_ble rfl) (xdr_Writer_Opaque_v3_e N)
noncomputable def xdr_Writer_Text_v2_c : Code := codeOf Try.f18.body
noncomputable def xdr_Writer_Text_v2_J (N : Nat) : Nat → Hint := fun cx => hintOf cx []
noncomputable def xdr_Writer_Text_v2_C (N : Nat) : Nat → List GS := fun k => tabOf k [(44, [xdr_Writer_Opaque_v3_g N])]
def xdr_Writer_Text_v2_o : List (Shp × List Nat) := [(⟨[(0, (.tup []))], [(.sh (.one (.const (.slw 2 1))), true), (.sh (.one (.int .i64)), false), (.sh (.arr (.int .u8) none), false)]⟩, [])]
noncomputable def xdr_Writer_Text_v2_g (N : Nat) : GS := { ins := ⟨[(0, (.av (.one (.const (.ptr ⟨0, 0, 0, 0⟩))))), (1, (.av (.one .str))), (2, (.av (.one (.int .i64))))], [(some (.one (.const .nils)), true), (some (.one (.int .i64)), false)]⟩, lend := [.keep, .keep, .keep], outs := xdr_Writer_Text_v2_o.map fun s => ssOf s.1, its := [.str, .int, .int], ots := [[.int, .lst (.int .u8)]], F := xdr_Writer_Text_v2 N }
noncomputable def xdr_Writer_Text_v2_CA (N : Nat) (f0 : (List Int) × Int × Int → Option (Int × (List Int))) : Nat → List GS := fun k => tabOf k [(44, [{ xdr_Writer_Opaque_v3_g N with F := f0 }])]
theorem xdr_Writer_Text_v2_CE (N : Nat) : xdr_Writer_Text_v2_CA N (xdr_Writer_Opaque_v3 N) = xdr_Writer_Text_v2_C N := by kernel_rfl
theorem xdr_Writer_Text_v2_t (N : Nat) : TabC Try.prog (xdr_Writer_Text_v2_C N) := tab_ok ⟨⟨xdr_Writer_Opaque_v3_ok N, trivial⟩, trivial⟩
theorem xdr_Writer_Text_v2_i : loopsOf xdr_Writer_Text_v2_c = [] := by kernel_rfl
noncomputable def xdr_Writer_Text_v2_a (N : Nat) (f0 : (List Int) × Int × Int → Option (Int × (List Int))) (x : (List UInt8) × Int × Int) : Option (Int × (List Int)) :=
  (Option.bind (f0 ((List.map (fun b => (b.toNat : Int)) x.1), x.2.1, x.2.2)) fun r2 =>
  (some (r2.1, r2.2)))
theorem xdr_Writer_Text_v2_f (N : Nat) (f0 : (List Int) × Int × Int → Option (Int × (List Int))) (x) : xdr_Writer_Text_v2_a N f0 x = fnStep Γ (xdr_Writer_Text_v2_CA N f0) (xdr_Writer_Text_v2_J N) 11 Try.f18.results.toList (xdr_Writer_Text_v2_g N) xdr_Writer_Text_v2_o xdr_Writer_Text_v2_c x := by kernel_rfl
theorem xdr_Writer_Text_v2_e (N : Nat) (x) : (xdr_Writer_Text_v2_g N).F x = fnStep Γ (xdr_Writer_Text_v2_C N) (xdr_Writer_Text_v2_J N) 11 Try.f18.results.toList (xdr_Writer_Text_v2_g N) xdr_Writer_Text_v2_o xdr_Writer_Text_v2_c x := by
  rw [← xdr_Writer_Text_v2_CE N]
  exact Eq.trans (by kernel_rfl) (xdr_Writer_Text_v2_f N (xdr_Writer_Opaque_v3 N) x)
theorem xdr_Writer_Text_v2_y : Try.f18.body = some xdr_Writer_Text_v2_c := by kernel_rfl
theorem xdr_Writer_Text_v2_n : (Try.f18.name == "runtime.NumGoroutine") = false := by kernel_rfl
theorem xdr_Writer_Text_v2_ok (N : Nat) : FnDoes Try.prog 18 (xdr_Writer_Text_v2_g N) := fn_ok tabOK (xdr_Writer_Text_v2_t N) mixedOK (J := xdr_Writer_Text_v2_J N) (body := xdr_Writer_Text_v2_c) Try.func18 xdr_Writer_Text_v2_y xdr_Writer_Text_v2_n Try.ntmps18 (jok_from xdr_Writer_Text_v2_i trivial) rfl rfl (le_of_ble rfl) (xdr_Writer_Text_v2_e N)
noncomputable def granarylaw01_getText_c : Code := codeOf Try.f20.body
noncomputable def granarylaw01_getText_J (N : Nat) : Nat → Hint := fun cx => hintOf cx []
noncomputable def granarylaw01_getText_C (N : Nat) : Nat → List GS := fun k => tabOf k [(17, [xdr_Reader_Text_g N])]
def granarylaw01_getText_o : List (Shp × List Nat) := [(⟨[(0, (.av (.one .str)))], [(.sh (.one (.const (.slw 4 1))), true), (.sh (.one (.int .i64)), true), (.sh (.one (.int .i64)), true), (.sh (.one (.int .i64)), false), (.sh (.arr (.int .u8) none), false)]⟩, [])]
noncomputable def granarylaw01_getText_g (N : Nat) : GS := { ins := ⟨[(0, (.av (.one (.const (.ptr ⟨0, 0, 0, 0⟩)))))], [(some (.one (.const (.slw 4 1))), true), (some (.one (.int .i64)), true), (some (.one (.int .i64)), true), (some (.one (.int .i64)), false), (some (.arr (.int .u8) none), false)]⟩, lend := [.keep], outs := granarylaw01_getText_o.map fun s => ssOf s.1, its := [.int, .int, .int, .lst (.int .u8)], ots := [[.str, .int, .int, .int, .lst (.int .u8)]], F := granarylaw01_getText N }
noncomputable def granarylaw01_getText_CA (N : Nat) (f0 : Int × Int × Int × Int × (List Int) → Option ((List UInt8) × Int × Int × Int × (List Int))) : Nat → List GS := fun k => tabOf k [(17, [{ xdr_Reader_Text_g N with F := f0 }])]
theorem granarylaw01_getText_CE (N : Nat) : granarylaw01_getText_CA N (xdr_Reader_Text N) = granarylaw01_getText_C N := by kernel_rfl
theorem granarylaw01_getText_t (N : Nat) : TabC Try.prog (granarylaw01_getText_C N) := tab_ok ⟨⟨xdr_Reader_Text_ok N, trivial⟩, trivial⟩
theorem granarylaw01_getText_i : loopsOf granarylaw01_getText_c = [] := by kernel_rfl
noncomputable def granarylaw01_getText_a (N : Nat) (f0 : Int × Int × Int × Int × (List Int) → Option ((List UInt8) × Int × Int × Int × (List Int))) (x : Int × Int × Int × (List Int)) : Option ((List UInt8) × Int × Int × Int × (List Int)) :=
  (Option.bind (f0 ((7 : Int), x.1, x.2.1, x.2.2.1, x.2.2.2)) fun r2 =>
  (some (r2.1, r2.2.1, r2.2.2.1, r2.2.2.2.1, r2.2.2.2.2)))
theorem granarylaw01_getText_f (N : Nat) (f0 : Int × Int × Int × Int × (List Int) → Option ((List UInt8) × Int × Int × Int × (List Int))) (x) : granarylaw01_getText_a N f0 x = fnStep Γ (granarylaw01_getText_CA N f0) (granarylaw01_getText_J N) 5 Try.f20.results.toList (granarylaw01_getText_g N) granarylaw01_getText_o granarylaw01_getText_c x := by kernel_rfl
theorem granarylaw01_getText_e (N : Nat) (x) : (granarylaw01_getText_g N).F x = fnStep Γ (granarylaw01_getText_C N) (granarylaw01_getText_J N) 5 Try.f20.results.toList (granarylaw01_getText_g N) granarylaw01_getText_o granarylaw01_getText_c x := by
  rw [← granarylaw01_getText_CE N]
  exact Eq.trans (by kernel_rfl) (granarylaw01_getText_f N (xdr_Reader_Text N) x)
theorem granarylaw01_getText_y : Try.f20.body = some granarylaw01_getText_c := by kernel_rfl
theorem granarylaw01_getText_n : (Try.f20.name == "runtime.NumGoroutine") = false := by kernel_rfl
theorem granarylaw01_getText_ok (N : Nat) : FnDoes Try.prog 20 (granarylaw01_getText_g N) := fn_ok tabOK (granarylaw01_getText_t N) mixedOK (J := granarylaw01_getText_J N) (body := granarylaw01_getText_c) Try.func20 granarylaw01_getText_y granarylaw01_getText_n Try.ntmps20 (jok_from granarylaw01_getText_i trivial) rfl rfl (le_of_ble rfl) (granarylaw01_getText_e N)
noncomputable def xdr_List_string_c : Code := codeOf Try.f19.body
noncomputable def xdr_List_string_c0 : Code := codeOf (getLoop 0 xdr_List_string_c)
def xdr_List_string_d0 : LD := { ins := ⟨[(0, (.av (.one (.const (.ptr ⟨0, 0, 0, 0⟩))))), (2, (.av (.one (.const (.fn 20 []))))), (7, (.av (.one (.const (.slw 5 1))))), (12, (.av (.one (.int .i64)))), (13, (.av (.one (.int .i64))))], [(.sh (.one (.const (.slw 4 1))), true), (.sh (.one (.int .i64)), true), (.sh (.one (.int .i64)), true), (.sh (.one (.int .i64)), false), (.sh (.arr (.int .u8) none), false), (.sh (.arr .str none), false)]⟩, mov := [5], wr := [0, 1, 2, 3, 4], outs := [(.exit 0, ⟨[(7, (.av (.one (.const (.slw 6 1)))))], [(.sh (.one (.const (.slw 4 1))), true), (.sh (.one (.int .i64)), true), (.sh (.one (.int .i64)), true), (.sh (.one (.int .i64)), false), (.sh (.arr (.int .u8) none), false), (.dead, false), (.sh (.arr .str none), false)]⟩)], its := [.int, .int, .int, .int, .int, .lst (.int .u8), .lst .str], ots := [[.int, .int, .int, .lst (.int .u8), .lst .str]] }
noncomputable def xdr_List_string_J (N : Nat) : Nat → Hint := fun cx => hintOf cx [(0, { reg := fun k => assoc0 k [], cnd := fun k => assoc0 k [], loop := fun k => assoc0 k [(0, ⟨xdr_List_string_d0, loopF (xdr_List_string_b0 N) N⟩)], nil := fun k => assoc0 k [], unr := fun k => assocN k [], blk := fun k => assoc0 k [] })]
noncomputable def xdr_List_string_C (N : Nat) : Nat → List GS := fun k => tabOf k [(55, [xdr_Reader_length_g N]), (56, [xdr_Reader_bad_g N]), (20, [granarylaw01_getText_g N])]
def xdr_List_string_o : List (Shp × List Nat) := [(⟨[(0, (.av (.one (.const (.slw 5 1)))))], [(.sh (.one (.const (.slw 4 1))), true), (.sh (.one (.int .i64)), true), (.sh (.one (.int .i64)), true), (.sh (.one (.int .i64)), false), (.sh (.arr (.int .u8) none), false), (.sh (.arr .str none), false)]⟩, [])]
noncomputable def xdr_List_string_g (N : Nat) : GS := { ins := ⟨[(0, (.av (.one (.const (.ptr ⟨0, 0, 0, 0⟩))))), (1, (.av (.one (.int .i64)))), (2, (.av (.one (.const (.fn 20 [])))))], [(some (.one (.const (.slw 4 1))), true), (some (.one (.int .i64)), true), (some (.one (.int .i64)), true), (some (.one (.int .i64)), false), (some (.arr (.int .u8) none), false)]⟩, lend := [.keep, .keep, .keep], outs := xdr_List_string_o.map fun s => ssOf s.1, its := [.int, .int, .int, .int, .lst (.int .u8)], ots := [[.int, .int, .int, .lst (.int .u8), .lst .str]], F := xdr_List_string N }
noncomputable def xdr_List_string_CA (N : Nat) (f0 : Int × Int × Int × Int × (List Int) → Option (Int × Int × Int × Int × (List Int))) (f1 : Int × Int × Int × (List Int) → Option (Bool × Int × Int × Int × (List Int))) (f2 : Int × Int × Int × (List Int) → Option ((List UInt8) × Int × Int × Int × (List Int))) : Nat → List GS := fun k => tabOf k [(55, [{ xdr_Reader_length_g N with F := f0 }]), (56, [{ xdr_Reader_bad_g N with F := f1 }]), (20, [{ granarylaw01_getText_g N with F := f2 }])]
theorem xdr_List_string_CE (N : Nat) : xdr_List_string_CA N (xdr_Reader_length N) (xdr_Reader_bad) (granarylaw01_getText N) = xdr_List_string_C N := by kernel_rfl
theorem xdr_List_string_t (N : Nat) : TabC Try.prog (xdr_List_string_C N) := tab_ok ⟨⟨xdr_Reader_length_ok N, trivial⟩, ⟨xdr_Reader_bad_ok N, trivial⟩, ⟨granarylaw01_getText_ok N, trivial⟩, trivial⟩
theorem xdr_List_string_i0 : loopsOf xdr_List_string_c0 = [] := by kernel_rfl
noncomputable def xdr_List_string_a0 (N : Nat) (f0 : Int × Int × Int × Int × (List Int) → Option (Int × Int × Int × Int × (List Int))) (f1 : Int × Int × Int × (List Int) → Option (Bool × Int × Int × Int × (List Int))) (f2 : Int × Int × Int × (List Int) → Option ((List UInt8) × Int × Int × Int × (List Int))) (next : Int × Int × Int × Int × Int × (List Int) × (List (List UInt8)) → Option ((Int × Int × Int × (List Int) × (List (List UInt8))))) (x : Int × Int × Int × Int × Int × (List Int) × (List (List UInt8))) : Option ((Int × Int × Int × (List Int) × (List (List UInt8)))) :=
  (cond (decide (x.2.1 < x.1))
  (Option.bind (f1 (x.2.2.1, x.2.2.2.1, x.2.2.2.2.1, x.2.2.2.2.2.1)) fun r2 =>
  (cond r2.1
  (some (r2.2.1, r2.2.2.1, r2.2.2.2.1, r2.2.2.2.2, x.2.2.2.2.2.2))
  (Option.bind (f2 (r2.2.1, r2.2.2.1, r2.2.2.2.1, r2.2.2.2.2)) fun r3 =>
  (let v4 : List (List UInt8) := ([r3.1] : List (List UInt8))
  (cond ((decide (1 ≤ (List.length v4))) && (fits 16 ((List.length x.2.2.2.2.2.2) + (List.length (List.take 1 (List.drop 0 v4))))))
  ((next (x.1, (wrapF .i64 (x.2.1 + (1 : Int))), r3.2.1, r3.2.2.1, r3.2.2.2.1, r3.2.2.2.2, (x.2.2.2.2.2.2 ++ (List.take 1 (List.drop 0 v4))))))
  none)))))
  (some (x.2.2.1, x.2.2.2.1, x.2.2.2.2.1, x.2.2.2.2.2.1, x.2.2.2.2.2.2)))
theorem xdr_List_string_f0 (N : Nat) (f0 : Int × Int × Int × Int × (List Int) → Option (Int × Int × Int × Int × (List Int))) (f1 : Int × Int × Int × (List Int) → Option (Bool × Int × Int × Int × (List Int))) (f2 : Int × Int × Int × (List Int) → Option ((List UInt8) × Int × Int × Int × (List Int))) (next) (x) : xdr_List_string_a0 N f0 f1 f2 next x = loopStep Γ (xdr_List_string_CA N f0 f1 f2) (xdr_List_string_J N) 0 27 xdr_List_string_d0 xdr_List_string_c0 next x := by kernel_rfl
theorem xdr_List_string_e0 (N : Nat) (next) (x) : xdr_List_string_b0 N next x = loopStep Γ (xdr_List_string_C N) (xdr_List_string_J N) 0 27 xdr_List_string_d0 xdr_List_string_c0 next x := by
  rw [← xdr_List_string_CE N]
  exact Eq.trans (by kernel_rfl) (xdr_List_string_f0 N (xdr_Reader_length N) (xdr_Reader_bad) (granarylaw01_getText N) next x)
theorem xdr_List_string_k0 (N : Nat) : LoopOK Try.prog 27 xdr_List_string_c0 ⟨xdr_List_string_d0, loopF (xdr_List_string_b0 N) N⟩ := loop_ok tabOK (xdr_List_string_t N) mixedOK (J := xdr_List_string_J N) (cx := 0) (body := xdr_List_string_c0) (nt := 27) (l := xdr_List_string_d0) (b := xdr_List_string_b0 N) (jok_from xdr_List_string_i0 ⟨trivial, trivial⟩) (xdr_List_string_e0 N) N
theorem xdr_List_string_i : loopsOf xdr_List_string_c = [(0, xdr_List_string_c0)] := by kernel_rfl
noncomputable def xdr_List_string_a (N : Nat) (f0 : Int × Int × Int × Int × (List Int) → Option (Int × Int × Int × Int × (List Int))) (f1 : Int × Int × Int × (List Int) → Option (Bool × Int × Int × Int × (List Int))) (f2 : Int × Int × Int × (List Int) → Option ((List UInt8) × Int × Int × Int × (List Int))) (x : Int × Int × Int × Int × (List Int)) : Option (Int × Int × Int × (List Int) × (List (List UInt8))) :=
  (Option.bind (f0 (x.1, x.2.1, x.2.2.1, x.2.2.2.1, x.2.2.2.2)) fun r1 =>
  (Option.bind (xdr_List_string_l0 N (r1.1, (0 : Int), r1.2.1, r1.2.2.1, r1.2.2.2.1, r1.2.2.2.2, ([] : List (List UInt8)))) fun r2 =>
  (Option.bind (f1 (r2.1, r2.2.1, r2.2.2.1, r2.2.2.2.1)) fun r3 =>
  (cond r3.1
  (some (r3.2.1, r3.2.2.1, r3.2.2.2.1, r3.2.2.2.2, ([] : List (List UInt8))))
  (some (r3.2.1, r3.2.2.1, r3.2.2.2.1, r3.2.2.2.2, r2.2.2.2.2))))))
theorem xdr_List_string_f (N : Nat) (f0 : Int × Int × Int × Int × (List Int) → Option (Int × Int × Int × Int × (List Int))) (f1 : Int × Int × Int × (List Int) → Option (Bool × Int × Int × Int × (List Int))) (f2 : Int × Int × Int × (List Int) → Option ((List UInt8) × Int × Int × Int × (List Int))) (x) : xdr_List_string_a N f0 f1 f2 x = fnStep Γ (xdr_List_string_CA N f0 f1 f2) (xdr_List_string_J N) 27 Try.f19.results.toList (xdr_List_string_g N) xdr_List_string_o xdr_List_string_c x := by kernel_rfl
theorem xdr_List_string_e (N : Nat) (x) : (xdr_List_string_g N).F x = fnStep Γ (xdr_List_string_C N) (xdr_List_string_J N) 27 Try.f19.results.toList (xdr_List_string_g N) xdr_List_string_o xdr_List_string_c x := by
  rw [← xdr_List_string_CE N]
  exact Eq.trans (by kernel_rfl) (xdr_List_string_f N (xdr_Reader_length N) (xdr_Reader_bad) (granarylaw01_getText N) x)
theorem xdr_List_string_y : Try.f19.body = some xdr_List_string_c := by kernel_rfl
theorem xdr_List_string_n : (Try.f19.name == "runtime.NumGoroutine") = false := by kernel_rfl
theorem xdr_List_string_ok (N : Nat) : FnDoes Try.prog 19 (xdr_List_string_g N) := fn_ok tabOK (xdr_List_string_t N) mixedOK (J := xdr_List_string_J N) (body := xdr_List_string_c) Try.func19 xdr_List_string_y xdr_List_string_n Try.ntmps19 (jok_from xdr_List_string_i ⟨⟨.inr ⟨_, rfl, xdr_List_string_k0 N⟩, trivial⟩, trivial⟩) rfl rfl (le_of_ble rfl) (xdr_List_string_e N)
noncomputable def granarylaw01_putText_c : Code := codeOf Try.f22.body
noncomputable def granarylaw01_putText_J (N : Nat) : Nat → Hint := fun cx => hintOf cx []
noncomputable def granarylaw01_putText_C (N : Nat) : Nat → List GS := fun k => tabOf k [(18, [xdr_Writer_Text_g N])]
def granarylaw01_putText_o : List (Shp × List Nat) := [(⟨[(0, (.tup []))], [(.sh (.one (.const (.slw 3 1))), true), (.sh (.one (.int .i64)), false), (.dead, false), (.sh (.arr (.int .u8) none), false)]⟩, [])]
noncomputable def granarylaw01_putText_g (N : Nat) : GS := { ins := ⟨[(0, (.av (.one (.const (.ptr ⟨0, 0, 0, 0⟩))))), (1, (.av (.one .str)))], [(some (.one (.const (.slw 2 1))), true), (some (.one (.int .i64)), false), (some (.arr (.int .u8) none), false)]⟩, lend := [.keep, .keep], outs := granarylaw01_putText_o.map fun s => ssOf s.1, its := [.str, .int, .lst (.int .u8)], ots := [[.int, .lst (.int .u8)]], F := granarylaw01_putText N }
noncomputable def granarylaw01_putText_CA (N : Nat) (f0 : (List UInt8) × Int × Int × (List Int) → Option (Int × (List Int))) : Nat → List GS := fun k => tabOf k [(18, [{ xdr_Writer_Text_g N with F := f0 }])]
theorem granarylaw01_putText_CE (N : Nat) : granarylaw01_putText_CA N (xdr_Writer_Text N) = granarylaw01_putText_C N := by kernel_rfl
theorem granarylaw01_putText_t (N : Nat) : TabC Try.prog (granarylaw01_putText_C N) := tab_ok ⟨⟨xdr_Writer_Text_ok N, trivial⟩, trivial⟩
theorem granarylaw01_putText_i : loopsOf granarylaw01_putText_c = [] := by kernel_rfl
noncomputable def granarylaw01_putText_a (N : Nat) (f0 : (List UInt8) × Int × Int × (List Int) → Option (Int × (List Int))) (x : (List UInt8) × Int × (List Int)) : Option (Int × (List Int)) :=
  (Option.bind (f0 (x.1, (7 : Int), x.2.1, x.2.2)) fun r1 =>
  (some (r1.1, r1.2)))
theorem granarylaw01_putText_f (N : Nat) (f0 : (List UInt8) × Int × Int × (List Int) → Option (Int × (List Int))) (x) : granarylaw01_putText_a N f0 x = fnStep Γ (granarylaw01_putText_CA N f0) (granarylaw01_putText_J N) 7 Try.f22.results.toList (granarylaw01_putText_g N) granarylaw01_putText_o granarylaw01_putText_c x := by kernel_rfl
theorem granarylaw01_putText_e (N : Nat) (x) : (granarylaw01_putText_g N).F x = fnStep Γ (granarylaw01_putText_C N) (granarylaw01_putText_J N) 7 Try.f22.results.toList (granarylaw01_putText_g N) granarylaw01_putText_o granarylaw01_putText_c x := by
  rw [← granarylaw01_putText_CE N]
  exact Eq.trans (by kernel_rfl) (granarylaw01_putText_f N (xdr_Writer_Text N) x)
theorem granarylaw01_putText_y : Try.f22.body = some granarylaw01_putText_c := by kernel_rfl
theorem granarylaw01_putText_n : (Try.f22.name == "runtime.NumGoroutine") = false := by kernel_rfl
theorem granarylaw01_putText_ok (N : Nat) : FnDoes Try.prog 22 (granarylaw01_putText_g N) := fn_ok tabOK (granarylaw01_putText_t N) mixedOK (J := granarylaw01_putText_J N) (body := granarylaw01_putText_c) Try.func22 granarylaw01_putText_y granarylaw01_putText_n Try.ntmps22 (jok_from granarylaw01_putText_i trivial) rfl rfl (le_of_ble rfl) (granarylaw01_putText_e N)
noncomputable def xdr_PutList_string_c : Code := codeOf Try.f21.body
noncomputable def xdr_PutList_string_c0 : Code := codeOf (getLoop 0 xdr_PutList_string_c)
def xdr_PutList_string_d0 : LD := { ins := ⟨[(0, (.av (.one (.const (.ptr ⟨0, 0, 0, 0⟩))))), (3, (.av (.one (.const (.fn 22 []))))), (21, (.av (.one (.rsl .str)))), (22, (.av (.one (.int .i64)))), (23, (.av (.one (.int .i64))))], [(.sh (.one (.const (.slw 2 1))), true), (.sh (.one (.int .i64)), false), (.sh (.arr (.int .u8) none), false)]⟩, mov := [2], wr := [0, 1], outs := [(.exit 0, ⟨[], [(.sh (.one (.const (.slw 3 1))), true), (.sh (.one (.int .i64)), false), (.dead, false), (.sh (.arr (.int .u8) none), false)]⟩)], its := [.lst .str, .int, .int, .int, .lst (.int .u8)], ots := [[.int, .lst (.int .u8)]] }
noncomputable def xdr_PutList_string_J (N : Nat) : Nat → Hint := fun cx => hintOf cx [(0, { reg := fun k => assoc0 k [], cnd := fun k => assoc0 k [], loop := fun k => assoc0 k [(0, ⟨xdr_PutList_string_d0, loopF (xdr_PutList_string_b0 N) N⟩)], nil := fun k => assoc0 k [], unr := fun k => assocN k [], blk := fun k => assoc0 k [] })]
noncomputable def xdr_PutList_string_C (N : Nat) : Nat → List GS := fun k => tabOf k [(57, [xdr_Writer_fits_v2_g N]), (27, [xdr_Writer_Uint_g N]), (22, [granarylaw01_putText_g N])]
def xdr_PutList_string_o : List (Shp × List Nat) := [(⟨[(0, (.tup []))], [(.sh (.one (.const (.slw 2 1))), true), (.sh (.one (.int .i64)), false), (.sh (.arr (.int .u8) none), false)]⟩, [])]
noncomputable def xdr_PutList_string_g (N : Nat) : GS := { ins := ⟨[(0, (.av (.one (.const (.ptr ⟨0, 0, 0, 0⟩))))), (1, (.av (.one (.rsl .str)))), (2, (.av (.one (.int .i64)))), (3, (.av (.one (.const (.fn 22 [])))))], [(some (.one (.const .nils)), true), (some (.one (.int .i64)), false)]⟩, lend := [.keep, .lend .str, .keep, .keep], outs := xdr_PutList_string_o.map fun s => ssOf s.1, its := [.lst .str, .int, .int], ots := [[.int, .lst (.int .u8)]], F := xdr_PutList_string N }
noncomputable def xdr_PutList_string_CA (N : Nat) (f0 : Int × Int × Int → Option (Bool × Int)) (f1 : Int × Int → Option (Int × (List Int))) (f2 : (List UInt8) × Int × (List Int) → Option (Int × (List Int))) : Nat → List GS := fun k => tabOf k [(57, [{ xdr_Writer_fits_v2_g N with F := f0 }]), (27, [{ xdr_Writer_Uint_g N with F := f1 }]), (22, [{ granarylaw01_putText_g N with F := f2 }])]
theorem xdr_PutList_string_CE (N : Nat) : xdr_PutList_string_CA N (xdr_Writer_fits_v2) (xdr_Writer_Uint N) (granarylaw01_putText N) = xdr_PutList_string_C N := by kernel_rfl
theorem xdr_PutList_string_t (N : Nat) : TabC Try.prog (xdr_PutList_string_C N) := tab_ok ⟨⟨xdr_Writer_fits_v2_ok N, trivial⟩, ⟨xdr_Writer_Uint_ok N, trivial⟩, ⟨granarylaw01_putText_ok N, trivial⟩, trivial⟩
theorem xdr_PutList_string_i0 : loopsOf xdr_PutList_string_c0 = [] := by kernel_rfl
noncomputable def xdr_PutList_string_a0 (N : Nat) (f0 : Int × Int × Int → Option (Bool × Int)) (f1 : Int × Int → Option (Int × (List Int))) (f2 : (List UInt8) × Int × (List Int) → Option (Int × (List Int))) (next : (List (List UInt8)) × Int × Int × Int × (List Int) → Option ((Int × (List Int)))) (x : (List (List UInt8)) × Int × Int × Int × (List Int)) : Option ((Int × (List Int))) :=
  (cond (decide (x.2.2.1 < x.2.1))
  (cond ((decide ((0 : Int) ≤ x.2.2.1)) && (decide (x.2.2.1 < (((List.length x.1) : Nat) : Int))))
  ((Option.bind (f2 ((List.getD x.1 (Int.toNat x.2.2.1) (EK.dflt .str)), x.2.2.2.1, x.2.2.2.2)) fun r3 =>
  (next (x.1, x.2.1, (wrapF .i64 (x.2.2.1 + (1 : Int))), r3.1, r3.2))))
  none)
  (some (x.2.2.2.1, x.2.2.2.2)))
theorem xdr_PutList_string_f0 (N : Nat) (f0 : Int × Int × Int → Option (Bool × Int)) (f1 : Int × Int → Option (Int × (List Int))) (f2 : (List UInt8) × Int × (List Int) → Option (Int × (List Int))) (next) (x) : xdr_PutList_string_a0 N f0 f1 f2 next x = loopStep Γ (xdr_PutList_string_CA N f0 f1 f2) (xdr_PutList_string_J N) 0 32 xdr_PutList_string_d0 xdr_PutList_string_c0 next x := by kernel_rfl
theorem xdr_PutList_string_e0 (N : Nat) (next) (x) : xdr_PutList_string_b0 N next x = loopStep Γ (xdr_PutList_string_C N) (xdr_PutList_string_J N) 0 32 xdr_PutList_string_d0 xdr_PutList_string_c0 next x := by
  rw [← xdr_PutList_string_CE N]
  exact Eq.trans (by kernel_rfl) (xdr_PutList_string_f0 N (xdr_Writer_fits_v2) (xdr_Writer_Uint N) (granarylaw01_putText N) next x)
theorem xdr_PutList_string_k0 (N : Nat) : LoopOK Try.prog 32 xdr_PutList_string_c0 ⟨xdr_PutList_string_d0, loopF (xdr_PutList_string_b0 N) N⟩ := loop_ok tabOK (xdr_PutList_string_t N) mixedOK (J := xdr_PutList_string_J N) (cx := 0) (body := xdr_PutList_string_c0) (nt := 32) (l := xdr_PutList_string_d0) (b := xdr_PutList_string_b0 N) (jok_from xdr_PutList_string_i0 ⟨trivial, trivial⟩) (xdr_PutList_string_e0 N) N
theorem xdr_PutList_string_i : loopsOf xdr_PutList_string_c = [(0, xdr_PutList_string_c0)] := by kernel_rfl
noncomputable def xdr_PutList_string_a (N : Nat) (f0 : Int × Int × Int → Option (Bool × Int)) (f1 : Int × Int → Option (Int × (List Int))) (f2 : (List UInt8) × Int × (List Int) → Option (Int × (List Int))) (x : (List (List UInt8)) × Int × Int) : Option (Int × (List Int)) :=
  (Option.bind (f0 ((((List.length x.1) : Nat) : Int), x.2.1, x.2.2)) fun r2 =>
  (cond (!r2.1)
  (some (r2.2, ([] : List Int)))
  (Option.bind (f1 ((wrapF .u32 (((List.length x.1) : Nat) : Int)), r2.2)) fun r6 =>
  (Option.bind (xdr_PutList_string_l0 N (x.1, (((List.length x.1) : Nat) : Int), (0 : Int), r6.1, r6.2)) fun r8 =>
  (some (r8.1, r8.2))))))
theorem xdr_PutList_string_f (N : Nat) (f0 : Int × Int × Int → Option (Bool × Int)) (f1 : Int × Int → Option (Int × (List Int))) (f2 : (List UInt8) × Int × (List Int) → Option (Int × (List Int))) (x) : xdr_PutList_string_a N f0 f1 f2 x = fnStep Γ (xdr_PutList_string_CA N f0 f1 f2) (xdr_PutList_string_J N) 32 Try.f21.results.toList (xdr_PutList_string_g N) xdr_PutList_string_o xdr_PutList_string_c x := by kernel_rfl
theorem xdr_PutList_string_e (N : Nat) (x) : (xdr_PutList_string_g N).F x = fnStep Γ (xdr_PutList_string_C N) (xdr_PutList_string_J N) 32 Try.f21.results.toList (xdr_PutList_string_g N) xdr_PutList_string_o xdr_PutList_string_c x := by
  rw [← xdr_PutList_string_CE N]
  exact Eq.trans (by kernel_rfl) (xdr_PutList_string_f N (xdr_Writer_fits_v2) (xdr_Writer_Uint N) (granarylaw01_putText N) x)
theorem xdr_PutList_string_y : Try.f21.body = some xdr_PutList_string_c := by kernel_rfl
theorem xdr_PutList_string_n : (Try.f21.name == "runtime.NumGoroutine") = false := by kernel_rfl
theorem xdr_PutList_string_ok (N : Nat) : FnDoes Try.prog 21 (xdr_PutList_string_g N) := fn_ok tabOK (xdr_PutList_string_t N) mixedOK (J := xdr_PutList_string_J N) (body := xdr_PutList_string_c) Try.func21 xdr_PutList_string_y xdr_PutList_string_n Try.ntmps21 (jok_from xdr_PutList_string_i ⟨⟨.inr ⟨_, rfl, xdr_PutList_string_k0 N⟩, trivial⟩, trivial⟩) rfl rfl (le_of_ble rfl) (xdr_PutList_string_e N)
noncomputable def xdr_Chain_string_v1_c : Code := codeOf Try.f24.body
noncomputable def xdr_Chain_string_v1_c0 : Code := codeOf (getLoop 0 xdr_Chain_string_v1_c)
def xdr_Chain_string_v1_d0 : LD := { ins := ⟨[(0, (.av (.one (.const (.ptr ⟨0, 0, 0, 0⟩))))), (1, (.av (.one (.int .i64)))), (2, (.av (.one (.const (.fn 20 []))))), (7, (.av (.one (.const (.slw 5 1)))))], [(.sh (.one (.const (.slw 4 1))), true), (.sh (.one (.int .i64)), true), (.sh (.one (.int .i64)), true), (.sh (.one (.int .i64)), false), (.sh (.arr (.int .u8) none), false), (.sh (.arr .str none), false)]⟩, mov := [5], wr := [0, 1, 2, 3, 4], outs := [(.ret, ⟨[(6, (.av (.one (.const .nils))))], [(.sh (.one (.const (.slw 4 1))), true), (.sh (.one (.int .i64)), true), (.sh (.one (.int .i64)), true), (.sh (.one (.int .i64)), false), (.sh (.arr (.int .u8) none), false), (.dead, false)]⟩), (.exit 0, ⟨[(7, (.av (.one (.const (.slw 6 1)))))], [(.sh (.one (.const (.slw 4 1))), true), (.sh (.one (.int .i64)), true), (.sh (.one (.int .i64)), true), (.sh (.one (.int .i64)), false), (.sh (.arr (.int .u8) none), false), (.dead, false), (.sh (.arr .str none), false)]⟩)], its := [.int, .int, .int, .int, .lst (.int .u8), .lst .str], ots := [[.int, .int, .int, .lst (.int .u8)], [.int, .int, .int, .lst (.int .u8), .lst .str]] }
noncomputable def xdr_Chain_string_v1_J (N : Nat) : Nat → Hint := fun cx => hintOf cx [(0, { reg := fun k => assoc0 k [], cnd := fun k => assoc0 k [], loop := fun k => assoc0 k [(0, ⟨xdr_Chain_string_v1_d0, loopF (xdr_Chain_string_v1_b0 N) N⟩)], nil := fun k => assoc0 k [], unr := fun k => assocN k [], blk := fun k => assoc0 k [] })]
noncomputable def xdr_Chain_string_v1_C (N : Nat) : Nat → List GS := fun k => tabOf k [(26, [xdr_Reader_At_g N]), (16, [xdr_Reader_Bool_g N]), (56, [xdr_Reader_bad_g N]), (59, [xdr_Reader_fails_g N]), (20, [granarylaw01_getText_g N])]
def xdr_Chain_string_v1_o : List (Shp × List Nat) := [(⟨[(0, (.av (.one (.const (.slw 5 1)))))], [(.sh (.one (.const (.slw 4 1))), true), (.sh (.one (.int .i64)), true), (.sh (.one (.int .i64)), true), (.sh (.one (.int .i64)), false), (.sh (.arr (.int .u8) none), false), (.sh (.arr .str none), false)]⟩, [])]
noncomputable def xdr_Chain_string_v1_g (N : Nat) : GS := { ins := ⟨[(0, (.av (.one (.const (.ptr ⟨0, 0, 0, 0⟩))))), (1, (.av (.one (.int .i64)))), (2, (.av (.one (.const (.fn 20 [])))))], [(some (.one (.const (.slw 4 1))), true), (some (.one (.int .i64)), true), (some (.one (.int .i64)), true), (some (.one (.int .i64)), false), (some (.arr (.int .u8) none), false)]⟩, lend := [.keep, .keep, .keep], outs := xdr_Chain_string_v1_o.map fun s => ssOf s.1, its := [.int, .int, .int, .int, .lst (.int .u8)], ots := [[.int, .int, .int, .lst (.int .u8), .lst .str]], F := xdr_Chain_string_v1 N }
noncomputable def xdr_Chain_string_v1_CA (N : Nat) (f0 : Int × Int × Int × (List Int) → Option (Int × Int × Int × Int × (List Int))) (f1 : Int × Int × Int × (List Int) → Option (Bool × Int × Int × Int × (List Int))) (f2 : Int × Int × Int × (List Int) → Option (Bool × Int × Int × Int × (List Int))) (f3 : Int × Int × Int × Int × Int × (List Int) → Option (Int × Int × Int × (List Int))) (f4 : Int × Int × Int × (List Int) → Option ((List UInt8) × Int × Int × Int × (List Int))) : Nat → List GS := fun k => tabOf k [(26, [{ xdr_Reader_At_g N with F := f0 }]), (16, [{ xdr_Reader_Bool_g N with F := f1 }]), (56, [{ xdr_Reader_bad_g N with F := f2 }]), (59, [{ xdr_Reader_fails_g N with F := f3 }]), (20, [{ granarylaw01_getText_g N with F := f4 }])]
theorem xdr_Chain_string_v1_CE (N : Nat) : xdr_Chain_string_v1_CA N (xdr_Reader_At) (xdr_Reader_Bool N) (xdr_Reader_bad) (xdr_Reader_fails) (granarylaw01_getText N) = xdr_Chain_string_v1_C N := by kernel_rfl
theorem xdr_Chain_string_v1_t (N : Nat) : TabC Try.prog (xdr_Chain_string_v1_C N) := tab_ok ⟨⟨xdr_Reader_At_ok N, trivial⟩, ⟨xdr_Reader_Bool_ok N, trivial⟩, ⟨xdr_Reader_bad_ok N, trivial⟩, ⟨xdr_Reader_fails_ok N, trivial⟩, ⟨granarylaw01_getText_ok N, trivial⟩, trivial⟩
theorem xdr_Chain_string_v1_i0 : loopsOf xdr_Chain_string_v1_c0 = [] := by kernel_rfl
noncomputable def xdr_Chain_string_v1_a0 (N : Nat) (f0 : Int × Int × Int × (List Int) → Option (Int × Int × Int × Int × (List Int))) (f1 : Int × Int × Int × (List Int) → Option (Bool × Int × Int × Int × (List Int))) (f2 : Int × Int × Int × (List Int) → Option (Bool × Int × Int × Int × (List Int))) (f3 : Int × Int × Int × Int × Int × (List Int) → Option (Int × Int × Int × (List Int))) (f4 : Int × Int × Int × (List Int) → Option ((List UInt8) × Int × Int × Int × (List Int))) (next : Int × Int × Int × Int × (List Int) × (List (List UInt8)) → Option ((Int × Int × Int × (List Int)) ⊕ (Int × Int × Int × (List Int) × (List (List UInt8))))) (x : Int × Int × Int × Int × (List Int) × (List (List UInt8))) : Option ((Int × Int × Int × (List Int)) ⊕ (Int × Int × Int × (List Int) × (List (List UInt8)))) :=
  (Option.bind (f0 (x.2.1, x.2.2.1, x.2.2.2.1, x.2.2.2.2.1)) fun r1 =>
  (Option.bind (f1 (r1.2.1, r1.2.2.1, r1.2.2.2.1, r1.2.2.2.2)) fun r2 =>
  (Option.bind (f2 (r2.2.1, r2.2.2.1, r2.2.2.2.1, r2.2.2.2.2)) fun r3 =>
  (cond r3.1
  (some (.inl (r3.2.1, r3.2.2.1, r3.2.2.2.1, r3.2.2.2.2)))
  (cond (!r2.1)
  (some (.inr ((r3.2.1, r3.2.2.1, r3.2.2.2.1, r3.2.2.2.2, x.2.2.2.2.2))))
  (cond (decide (x.1 ≤ (((List.length x.2.2.2.2.2) : Nat) : Int)))
  (Option.bind (f3 ((1 : Int), r1.1, r3.2.1, r3.2.2.1, r3.2.2.2.1, r3.2.2.2.2)) fun r7 =>
  (some (.inl (r7.1, r7.2.1, r7.2.2.1, r7.2.2.2))))
  (Option.bind (f4 (r3.2.1, r3.2.2.1, r3.2.2.2.1, r3.2.2.2.2)) fun r8 =>
  (let v9 : List (List UInt8) := ([r8.1] : List (List UInt8))
  (cond ((decide (1 ≤ (List.length v9))) && (fits 16 ((List.length x.2.2.2.2.2) + (List.length (List.take 1 (List.drop 0 v9))))))
  ((next (x.1, r8.2.1, r8.2.2.1, r8.2.2.2.1, r8.2.2.2.2, (x.2.2.2.2.2 ++ (List.take 1 (List.drop 0 v9))))))
  none)))))))))
theorem xdr_Chain_string_v1_f0 (N : Nat) (f0 : Int × Int × Int × (List Int) → Option (Int × Int × Int × Int × (List Int))) (f1 : Int × Int × Int × (List Int) → Option (Bool × Int × Int × Int × (List Int))) (f2 : Int × Int × Int × (List Int) → Option (Bool × Int × Int × Int × (List Int))) (f3 : Int × Int × Int × Int × Int × (List Int) → Option (Int × Int × Int × (List Int))) (f4 : Int × Int × Int × (List Int) → Option ((List UInt8) × Int × Int × Int × (List Int))) (next) (x) : xdr_Chain_string_v1_a0 N f0 f1 f2 f3 f4 next x = loopStep Γ (xdr_Chain_string_v1_CA N f0 f1 f2 f3 f4) (xdr_Chain_string_v1_J N) 0 35 xdr_Chain_string_v1_d0 xdr_Chain_string_v1_c0 next x := by kernel_rfl
theorem xdr_Chain_string_v1_e0 (N : Nat) (next) (x) : xdr_Chain_string_v1_b0 N next x = loopStep Γ (xdr_Chain_string_v1_C N) (xdr_Chain_string_v1_J N) 0 35 xdr_Chain_string_v1_d0 xdr_Chain_string_v1_c0 next x := by
  rw [← xdr_Chain_string_v1_CE N]
  exact Eq.trans (by kernel_rfl) (xdr_Chain_string_v1_f0 N (xdr_Reader_At) (xdr_Reader_Bool N) (xdr_Reader_bad) (xdr_Reader_fails) (granarylaw01_getText N) next x)
theorem xdr_Chain_string_v1_k0 (N : Nat) : LoopOK Try.prog 35 xdr_Chain_string_v1_c0 ⟨xdr_Chain_string_v1_d0, loopF (xdr_Chain_string_v1_b0 N) N⟩ := loop_ok tabOK (xdr_Chain_string_v1_t N) mixedOK (J := xdr_Chain_string_v1_J N) (cx := 0) (body := xdr_Chain_string_v1_c0) (nt := 35) (l := xdr_Chain_string_v1_d0) (b := xdr_Chain_string_v1_b0 N) (jok_from xdr_Chain_string_v1_i0 ⟨trivial, trivial⟩) (xdr_Chain_string_v1_e0 N) N
theorem xdr_Chain_string_v1_i : loopsOf xdr_Chain_string_v1_c = [(0, xdr_Chain_string_v1_c0)] := by kernel_rfl
noncomputable def xdr_Chain_string_v1_a (N : Nat) (f0 : Int × Int × Int × (List Int) → Option (Int × Int × Int × Int × (List Int))) (f1 : Int × Int × Int × (List Int) → Option (Bool × Int × Int × Int × (List Int))) (f2 : Int × Int × Int × (List Int) → Option (Bool × Int × Int × Int × (List Int))) (f3 : Int × Int × Int × Int × Int × (List Int) → Option (Int × Int × Int × (List Int))) (f4 : Int × Int × Int × (List Int) → Option ((List UInt8) × Int × Int × Int × (List Int))) (x : Int × Int × Int × Int × (List Int)) : Option (Int × Int × Int × (List Int) × (List (List UInt8))) :=
  (Option.bind (xdr_Chain_string_v1_l0 N (x.1, x.2.1, x.2.2.1, x.2.2.2.1, x.2.2.2.2, ([] : List (List UInt8)))) fun r1 =>
  (match r1 with
  | .inl y2 =>
  (some (y2.1, y2.2.1, y2.2.2.1, y2.2.2.2, ([] : List (List UInt8))))
  | .inr z3 =>
  (some (z3.1, z3.2.1, z3.2.2.1, z3.2.2.2.1, z3.2.2.2.2))))
theorem xdr_Chain_string_v1_f (N : Nat) (f0 : Int × Int × Int × (List Int) → Option (Int × Int × Int × Int × (List Int))) (f1 : Int × Int × Int × (List Int) → Option (Bool × Int × Int × Int × (List Int))) (f2 : Int × Int × Int × (List Int) → Option (Bool × Int × Int × Int × (List Int))) (f3 : Int × Int × Int × Int × Int × (List Int) → Option (Int × Int × Int × (List Int))) (f4 : Int × Int × Int × (List Int) → Option ((List UInt8) × Int × Int × Int × (List Int))) (x) : xdr_Chain_string_v1_a N f0 f1 f2 f3 f4 x = fnStep Γ (xdr_Chain_string_v1_CA N f0 f1 f2 f3 f4) (xdr_Chain_string_v1_J N) 35 Try.f24.results.toList (xdr_Chain_string_v1_g N) xdr_Chain_string_v1_o xdr_Chain_string_v1_c x := by kernel_rfl
theorem xdr_Chain_string_v1_e (N : Nat) (x) : (xdr_Chain_string_v1_g N).F x = fnStep Γ (xdr_Chain_string_v1_C N) (xdr_Chain_string_v1_J N) 35 Try.f24.results.toList (xdr_Chain_string_v1_g N) xdr_Chain_string_v1_o xdr_Chain_string_v1_c x := by
  rw [← xdr_Chain_string_v1_CE N]
  exact Eq.trans (by kernel_rfl) (xdr_Chain_string_v1_f N (xdr_Reader_At) (xdr_Reader_Bool N) (xdr_Reader_bad) (xdr_Reader_fails) (granarylaw01_getText N) x)
theorem xdr_Chain_string_v1_y : Try.f24.body = some xdr_Chain_string_v1_c := by kernel_rfl
theorem xdr_Chain_string_v1_n : (Try.f24.name == "runtime.NumGoroutine") = false := by kernel_rfl
theorem xdr_Chain_string_v1_ok (N : Nat) : FnDoes Try.prog 24 (xdr_Chain_string_v1_g N) := fn_ok tabOK (xdr_Chain_string_v1_t N) mixedOK (J := xdr_Chain_string_v1_J N) (body := xdr_Chain_string_v1_c) Try.func24 xdr_Chain_string_v1_y xdr_Chain_string_v1_n Try.ntmps24 (jok_from xdr_Chain_string_v1_i ⟨⟨.inr ⟨_, rfl, xdr_Chain_string_v1_k0 N⟩, trivial⟩, trivial⟩) rfl rfl (le_of_ble rfl) (xdr_Chain_string_v1_e N)
noncomputable def xdr_Writer_Bool_v2_c : Code := codeOf Try.f15.body
noncomputable def xdr_Writer_Bool_v2_J (N : Nat) : Nat → Hint := fun cx => hintOf cx []
noncomputable def xdr_Writer_Bool_v2_C (N : Nat) : Nat → List GS := fun k => tabOf k [(27, [xdr_Writer_Uint_v1_g N])]
def xdr_Writer_Bool_v2_o : List (Shp × List Nat) := [(⟨[(0, (.tup []))], [(.sh (.one (.const (.slw 3 1))), true), (.sh (.one (.int .i64)), false), (.dead, false), (.sh (.arr (.int .u8) none), false)]⟩, [])]
noncomputable def xdr_Writer_Bool_v2_g (N : Nat) : GS := { ins := ⟨[(0, (.av (.one (.const (.ptr ⟨0, 0, 0, 0⟩))))), (1, (.av (.one .bool)))], [(some (.one (.const (.slw 2 1))), true), (some (.one (.int .i64)), false), (some (.arr (.int .u8) none), false)]⟩, lend := [.keep, .keep], outs := xdr_Writer_Bool_v2_o.map fun s => ssOf s.1, its := [.bool, .int, .lst (.int .u8)], ots := [[.int, .lst (.int .u8)]], F := xdr_Writer_Bool_v2 N }
noncomputable def xdr_Writer_Bool_v2_CA (N : Nat) (f0 : Int × Int × (List Int) → Option (Int × (List Int))) : Nat → List GS := fun k => tabOf k [(27, [{ xdr_Writer_Uint_v1_g N with F := f0 }])]
theorem xdr_Writer_Bool_v2_CE (N : Nat) : xdr_Writer_Bool_v2_CA N (xdr_Writer_Uint_v1 N) = xdr_Writer_Bool_v2_C N := by kernel_rfl
theorem xdr_Writer_Bool_v2_t (N : Nat) : TabC Try.prog (xdr_Writer_Bool_v2_C N) := tab_ok ⟨⟨xdr_Writer_Uint_v1_ok N, trivial⟩, trivial⟩
theorem xdr_Writer_Bool_v2_i : loopsOf xdr_Writer_Bool_v2_c = [] := by kernel_rfl
noncomputable def xdr_Writer_Bool_v2_a (N : Nat) (f0 : Int × Int × (List Int) → Option (Int × (List Int))) (x : Bool × Int × (List Int)) : Option (Int × (List Int)) :=
  (cond x.1
  (Option.bind (f0 ((1 : Int), x.2.1, x.2.2)) fun r1 =>
  (some (r1.1, r1.2)))
  (Option.bind (f0 ((0 : Int), x.2.1, x.2.2)) fun r2 =>
  (some (r2.1, r2.2))))
theorem xdr_Writer_Bool_v2_f (N : Nat) (f0 : Int × Int × (List Int) → Option (Int × (List Int))) (x) : xdr_Writer_Bool_v2_a N f0 x = fnStep Γ (xdr_Writer_Bool_v2_CA N f0) (xdr_Writer_Bool_v2_J N) 9 Try.f15.results.toList (xdr_Writer_Bool_v2_g N) xdr_Writer_Bool_v2_o xdr_Writer_Bool_v2_c x := by kernel_rfl
theorem xdr_Writer_Bool_v2_e (N : Nat) (x) : (xdr_Writer_Bool_v2_g N).F x = fnStep Γ (xdr_Writer_Bool_v2_C N) (xdr_Writer_Bool_v2_J N) 9 Try.f15.results.toList (xdr_Writer_Bool_v2_g N) xdr_Writer_Bool_v2_o xdr_Writer_Bool_v2_c x := by
  rw [← xdr_Writer_Bool_v2_CE N]
  exact Eq.trans (by kernel_rfl) (xdr_Writer_Bool_v2_f N (xdr_Writer_Uint_v1 N) x)
theorem xdr_Writer_Bool_v2_y : Try.f15.body = some xdr_Writer_Bool_v2_c := by kernel_rfl
theorem xdr_Writer_Bool_v2_n : (Try.f15.name == "runtime.NumGoroutine") = false := by kernel_rfl
theorem xdr_Writer_Bool_v2_ok (N : Nat) : FnDoes Try.prog 15 (xdr_Writer_Bool_v2_g N) := fn_ok tabOK (xdr_Writer_Bool_v2_t N) mixedOK (J := xdr_Writer_Bool_v2_J N) (body := xdr_Writer_Bool_v2_c) Try.func15 xdr_Writer_Bool_v2_y xdr_Writer_Bool_v2_n Try.ntmps15 (jok_from xdr_Writer_Bool_v2_i trivial) rfl rfl (le_of_ble rfl) (xdr_Writer_Bool_v2_e N)
noncomputable def xdr_PutChain_string_v1_c : Code := codeOf Try.f23.body
noncomputable def xdr_PutChain_string_v1_c0 : Code := codeOf (getLoop 0 xdr_PutChain_string_v1_c)
def xdr_PutChain_string_v1_d0 : LD := { ins := ⟨[(0, (.av (.one (.const (.ptr ⟨0, 0, 0, 0⟩))))), (2, (.av (.one (.const (.fn 22 []))))), (10, (.av (.one (.rsl .str)))), (11, (.av (.one (.int .i64)))), (12, (.av (.one (.int .i64))))], [(.sh (.one (.const (.slw 2 1))), true), (.sh (.one (.int .i64)), false), (.sh (.arr (.int .u8) none), false)]⟩, mov := [2], wr := [0, 1], outs := [(.exit 0, ⟨[], [(.sh (.one (.const (.slw 3 1))), true), (.sh (.one (.int .i64)), false), (.dead, false), (.sh (.arr (.int .u8) none), false)]⟩)], its := [.lst .str, .int, .int, .int, .lst (.int .u8)], ots := [[.int, .lst (.int .u8)]] }
noncomputable def xdr_PutChain_string_v1_J (N : Nat) : Nat → Hint := fun cx => hintOf cx [(0, { reg := fun k => assoc0 k [], cnd := fun k => assoc0 k [], loop := fun k => assoc0 k [(0, ⟨xdr_PutChain_string_v1_d0, loopF (xdr_PutChain_string_v1_b0 N) N⟩)], nil := fun k => assoc0 k [], unr := fun k => assocN k [], blk := fun k => assoc0 k [] })]
noncomputable def xdr_PutChain_string_v1_C (N : Nat) : Nat → List GS := fun k => tabOf k [(58, [xdr_Writer_bad_g N]), (15, [xdr_Writer_Bool_v1_g N, xdr_Writer_Bool_v2_g N]), (22, [granarylaw01_putText_g N])]
def xdr_PutChain_string_v1_o : List (Shp × List Nat) := [(⟨[(0, (.tup []))], [(.sh (.one (.const (.slw 2 1))), true), (.sh (.one (.int .i64)), false), (.sh (.arr (.int .u8) none), false)]⟩, [])]
noncomputable def xdr_PutChain_string_v1_g (N : Nat) : GS := { ins := ⟨[(0, (.av (.one (.const (.ptr ⟨0, 0, 0, 0⟩))))), (1, (.av (.one (.rsl .str)))), (2, (.av (.one (.const (.fn 22 [])))))], [(some (.one (.const .nils)), true), (some (.one (.int .i64)), false)]⟩, lend := [.keep, .lend .str, .keep], outs := xdr_PutChain_string_v1_o.map fun s => ssOf s.1, its := [.lst .str, .int], ots := [[.int, .lst (.int .u8)]], F := xdr_PutChain_string_v1 N }
noncomputable def xdr_PutChain_string_v1_CA (N : Nat) (f0 : Int → Option (Bool × Int)) (f1 : Bool × Int → Option (Int × (List Int))) (f2 : Bool × Int × (List Int) → Option (Int × (List Int))) (f3 : (List UInt8) × Int × (List Int) → Option (Int × (List Int))) : Nat → List GS := fun k => tabOf k [(58, [{ xdr_Writer_bad_g N with F := f0 }]), (15, [{ xdr_Writer_Bool_v1_g N with F := f1 }, { xdr_Writer_Bool_v2_g N with F := f2 }]), (22, [{ granarylaw01_putText_g N with F := f3 }])]
theorem xdr_PutChain_string_v1_CE (N : Nat) : xdr_PutChain_string_v1_CA N (xdr_Writer_bad) (xdr_Writer_Bool_v1 N) (xdr_Writer_Bool_v2 N) (granarylaw01_putText N) = xdr_PutChain_string_v1_C N := by kernel_rfl
theorem xdr_PutChain_string_v1_t (N : Nat) : TabC Try.prog (xdr_PutChain_string_v1_C N) := tab_ok ⟨⟨xdr_Writer_bad_ok N, trivial⟩, ⟨xdr_Writer_Bool_v1_ok N, xdr_Writer_Bool_v2_ok N, trivial⟩, ⟨granarylaw01_putText_ok N, trivial⟩, trivial⟩
theorem xdr_PutChain_string_v1_i0 : loopsOf xdr_PutChain_string_v1_c0 = [] := by kernel_rfl
noncomputable def xdr_PutChain_string_v1_a0 (N : Nat) (f0 : Int → Option (Bool × Int)) (f1 : Bool × Int → Option (Int × (List Int))) (f2 : Bool × Int × (List Int) → Option (Int × (List Int))) (f3 : (List UInt8) × Int × (List Int) → Option (Int × (List Int))) (next : (List (List UInt8)) × Int × Int × Int × (List Int) → Option ((Int × (List Int)))) (x : (List (List UInt8)) × Int × Int × Int × (List Int)) : Option ((Int × (List Int))) :=
  (cond (decide (x.2.2.1 < x.2.1))
  (cond ((decide ((0 : Int) ≤ x.2.2.1)) && (decide (x.2.2.1 < (((List.length x.1) : Nat) : Int))))
  ((Option.bind (f2 (true, x.2.2.2.1, x.2.2.2.2)) fun r3 =>
  (Option.bind (f3 ((List.getD x.1 (Int.toNat x.2.2.1) (EK.dflt .str)), r3.1, r3.2)) fun r4 =>
  (next (x.1, x.2.1, (wrapF .i64 (x.2.2.1 + (1 : Int))), r4.1, r4.2)))))
  none)
  (some (x.2.2.2.1, x.2.2.2.2)))
theorem xdr_PutChain_string_v1_f0 (N : Nat) (f0 : Int → Option (Bool × Int)) (f1 : Bool × Int → Option (Int × (List Int))) (f2 : Bool × Int × (List Int) → Option (Int × (List Int))) (f3 : (List UInt8) × Int × (List Int) → Option (Int × (List Int))) (next) (x) : xdr_PutChain_string_v1_a0 N f0 f1 f2 f3 next x = loopStep Γ (xdr_PutChain_string_v1_CA N f0 f1 f2 f3) (xdr_PutChain_string_v1_J N) 0 25 xdr_PutChain_string_v1_d0 xdr_PutChain_string_v1_c0 next x := by kernel_rfl
theorem xdr_PutChain_string_v1_e0 (N : Nat) (next) (x) : xdr_PutChain_string_v1_b0 N next x = loopStep Γ (xdr_PutChain_string_v1_C N) (xdr_PutChain_string_v1_J N) 0 25 xdr_PutChain_string_v1_d0 xdr_PutChain_string_v1_c0 next x := by
  rw [← xdr_PutChain_string_v1_CE N]
  exact Eq.trans (by kernel_rfl) (xdr_PutChain_string_v1_f0 N (xdr_Writer_bad) (xdr_Writer_Bool_v1 N) (xdr_Writer_Bool_v2 N) (granarylaw01_putText N) next x)
theorem xdr_PutChain_string_v1_k0 (N : Nat) : LoopOK Try.prog 25 xdr_PutChain_string_v1_c0 ⟨xdr_PutChain_string_v1_d0, loopF (xdr_PutChain_string_v1_b0 N) N⟩ := loop_ok tabOK (xdr_PutChain_string_v1_t N) mixedOK (J := xdr_PutChain_string_v1_J N) (cx := 0) (body := xdr_PutChain_string_v1_c0) (nt := 25) (l := xdr_PutChain_string_v1_d0) (b := xdr_PutChain_string_v1_b0 N) (jok_from xdr_PutChain_string_v1_i0 ⟨trivial, trivial⟩) (xdr_PutChain_string_v1_e0 N) N
theorem xdr_PutChain_string_v1_i : loopsOf xdr_PutChain_string_v1_c = [(0, xdr_PutChain_string_v1_c0)] := by kernel_rfl
noncomputable def xdr_PutChain_string_v1_a (N : Nat) (f0 : Int → Option (Bool × Int)) (f1 : Bool × Int → Option (Int × (List Int))) (f2 : Bool × Int × (List Int) → Option (Int × (List Int))) (f3 : (List UInt8) × Int × (List Int) → Option (Int × (List Int))) (x : (List (List UInt8)) × Int) : Option (Int × (List Int)) :=
  (Option.bind (f0 x.2) fun r1 =>
  (cond r1.1
  (some (r1.2, ([] : List Int)))
  (Option.bind (xdr_PutChain_string_v1_l0 N (x.1, (((List.length x.1) : Nat) : Int), (0 : Int), r1.2, ([] : List Int))) fun r3 =>
  (Option.bind (f2 (false, r3.1, r3.2)) fun r4 =>
  (some (r4.1, r4.2))))))
theorem xdr_PutChain_string_v1_f (N : Nat) (f0 : Int → Option (Bool × Int)) (f1 : Bool × Int → Option (Int × (List Int))) (f2 : Bool × Int × (List Int) → Option (Int × (List Int))) (f3 : (List UInt8) × Int × (List Int) → Option (Int × (List Int))) (x) : xdr_PutChain_string_v1_a N f0 f1 f2 f3 x = fnStep Γ (xdr_PutChain_string_v1_CA N f0 f1 f2 f3) (xdr_PutChain_string_v1_J N) 25 Try.f23.results.toList (xdr_PutChain_string_v1_g N) xdr_PutChain_string_v1_o xdr_PutChain_string_v1_c x := by kernel_rfl
theorem xdr_PutChain_string_v1_e (N : Nat) (x) : (xdr_PutChain_string_v1_g N).F x = fnStep Γ (xdr_PutChain_string_v1_C N) (xdr_PutChain_string_v1_J N) 25 Try.f23.results.toList (xdr_PutChain_string_v1_g N) xdr_PutChain_string_v1_o xdr_PutChain_string_v1_c x := by
  rw [← xdr_PutChain_string_v1_CE N]
  exact Eq.trans (by kernel_rfl) (xdr_PutChain_string_v1_f N (xdr_Writer_bad) (xdr_Writer_Bool_v1 N) (xdr_Writer_Bool_v2 N) (granarylaw01_putText N) x)
theorem xdr_PutChain_string_v1_y : Try.f23.body = some xdr_PutChain_string_v1_c := by kernel_rfl
theorem xdr_PutChain_string_v1_n : (Try.f23.name == "runtime.NumGoroutine") = false := by kernel_rfl
theorem xdr_PutChain_string_v1_ok (N : Nat) : FnDoes Try.prog 23 (xdr_PutChain_string_v1_g N) := fn_ok tabOK (xdr_PutChain_string_v1_t N) mixedOK (J := xdr_PutChain_string_v1_J N) (body := xdr_PutChain_string_v1_c) Try.func23 xdr_PutChain_string_v1_y xdr_PutChain_string_v1_n Try.ntmps23 (jok_from xdr_PutChain_string_v1_i ⟨⟨.inr ⟨_, rfl, xdr_PutChain_string_v1_k0 N⟩, trivial⟩, trivial⟩) rfl rfl (le_of_ble rfl) (xdr_PutChain_string_v1_e N)
noncomputable def xdr_Writer_Int_v1_c : Code := codeOf Try.f28.body
noncomputable def xdr_Writer_Int_v1_J (N : Nat) : Nat → Hint := fun cx => hintOf cx []
noncomputable def xdr_Writer_Int_v1_C (N : Nat) : Nat → List GS := fun k => tabOf k [(27, [xdr_Writer_Uint_v1_g N])]
def xdr_Writer_Int_v1_o : List (Shp × List Nat) := [(⟨[(0, (.tup []))], [(.sh (.one (.const (.slw 3 1))), true), (.sh (.one (.int .i64)), false), (.dead, false), (.sh (.arr (.int .u8) none), false)]⟩, [])]
noncomputable def xdr_Writer_Int_v1_g (N : Nat) : GS := { ins := ⟨[(0, (.av (.one (.const (.ptr ⟨0, 0, 0, 0⟩))))), (1, (.av (.one (.int .i32))))], [(some (.one (.const (.slw 2 1))), true), (some (.one (.int .i64)), false), (some (.arr (.int .u8) none), false)]⟩, lend := [.keep, .keep], outs := xdr_Writer_Int_v1_o.map fun s => ssOf s.1, its := [.int, .int, .lst (.int .u8)], ots := [[.int, .lst (.int .u8)]], F := xdr_Writer_Int_v1 N }
noncomputable def xdr_Writer_Int_v1_CA (N : Nat) (f0 : Int × Int × (List Int) → Option (Int × (List Int))) : Nat → List GS := fun k => tabOf k [(27, [{ xdr_Writer_Uint_v1_g N with F := f0 }])]
theorem xdr_Writer_Int_v1_CE (N : Nat) : xdr_Writer_Int_v1_CA N (xdr_Writer_Uint_v1 N) = xdr_Writer_Int_v1_C N := by kernel_rfl
theorem xdr_Writer_Int_v1_t (N : Nat) : TabC Try.prog (xdr_Writer_Int_v1_C N) := tab_ok ⟨⟨xdr_Writer_Uint_v1_ok N, trivial⟩, trivial⟩
theorem xdr_Writer_Int_v1_i : loopsOf xdr_Writer_Int_v1_c = [] := by kernel_rfl
noncomputable def xdr_Writer_Int_v1_a (N : Nat) (f0 : Int × Int × (List Int) → Option (Int × (List Int))) (x : Int × Int × (List Int)) : Option (Int × (List Int)) :=
  (Option.bind (f0 ((wrapF .u32 x.1), x.2.1, x.2.2)) fun r2 =>
  (some (r2.1, r2.2)))
theorem xdr_Writer_Int_v1_f (N : Nat) (f0 : Int × Int × (List Int) → Option (Int × (List Int))) (x) : xdr_Writer_Int_v1_a N f0 x = fnStep Γ (xdr_Writer_Int_v1_CA N f0) (xdr_Writer_Int_v1_J N) 8 Try.f28.results.toList (xdr_Writer_Int_v1_g N) xdr_Writer_Int_v1_o xdr_Writer_Int_v1_c x := by kernel_rfl
theorem xdr_Writer_Int_v1_e (N : Nat) (x) : (xdr_Writer_Int_v1_g N).F x = fnStep Γ (xdr_Writer_Int_v1_C N) (xdr_Writer_Int_v1_J N) 8 Try.f28.results.toList (xdr_Writer_Int_v1_g N) xdr_Writer_Int_v1_o xdr_Writer_Int_v1_c x := by
  rw [← xdr_Writer_Int_v1_CE N]
  exact Eq.trans (by kernel_rfl) (xdr_Writer_Int_v1_f N (xdr_Writer_Uint_v1 N) x)
theorem xdr_Writer_Int_v1_y : Try.f28.body = some xdr_Writer_Int_v1_c := by kernel_rfl
theorem xdr_Writer_Int_v1_n : (Try.f28.name == "runtime.NumGoroutine") = false := by kernel_rfl
theorem xdr_Writer_Int_v1_ok (N : Nat) : FnDoes Try.prog 28 (xdr_Writer_Int_v1_g N) := fn_ok tabOK (xdr_Writer_Int_v1_t N) mixedOK (J := xdr_Writer_Int_v1_J N) (body := xdr_Writer_Int_v1_c) Try.func28 xdr_Writer_Int_v1_y xdr_Writer_Int_v1_n Try.ntmps28 (jok_from xdr_Writer_Int_v1_i trivial) rfl rfl (le_of_ble rfl) (xdr_Writer_Int_v1_e N)
noncomputable def xdr_Writer_Hyper_v1_c : Code := codeOf Try.f29.body
noncomputable def xdr_Writer_Hyper_v1_J (N : Nat) : Nat → Hint := fun cx => hintOf cx [(0, { reg := fun k => assoc0 k [], cnd := fun k => assoc0 k [(6, ⟨[2], [0], [(.normal, ⟨[], [(.sh (.one (.const (.slw 3 1))), true), (.keep, false), (.dead, false), (.sh (.arr (.int .u8) none), false)]⟩)], [[.lst (.int .u8)]]⟩)], loop := fun k => assoc0 k [], nil := fun k => assoc0 k [], unr := fun k => assocN k [], blk := fun k => assoc0 k [] })]
noncomputable def xdr_Writer_Hyper_v1_C (N : Nat) : Nat → List GS := fun k => tabOf k [(58, [xdr_Writer_bad_v1_g N]), (60, [octet_Put_v1_g N])]
def xdr_Writer_Hyper_v1_o : List (Shp × List Nat) := [(⟨[(0, (.tup []))], [(.sh (.one (.const (.slw 3 1))), true), (.sh (.one (.int .i64)), false), (.dead, false), (.sh (.arr (.int .u8) none), false)]⟩, [])]
noncomputable def xdr_Writer_Hyper_v1_g (N : Nat) : GS := { ins := ⟨[(0, (.av (.one (.const (.ptr ⟨0, 0, 0, 0⟩))))), (1, (.av (.one (.int .u64))))], [(some (.one (.const (.slw 2 1))), true), (some (.one (.int .i64)), false), (some (.arr (.int .u8) none), false)]⟩, lend := [.keep, .keep], outs := xdr_Writer_Hyper_v1_o.map fun s => ssOf s.1, its := [.int, .int, .lst (.int .u8)], ots := [[.int, .lst (.int .u8)]], F := xdr_Writer_Hyper_v1 N }
noncomputable def xdr_Writer_Hyper_v1_CA (N : Nat) (f0 : Int × (List Int) → Option (Bool × Int × (List Int))) (f1 : Int × Int × (List Int) → Option ((List Int))) : Nat → List GS := fun k => tabOf k [(58, [{ xdr_Writer_bad_v1_g N with F := f0 }]), (60, [{ octet_Put_v1_g N with F := f1 }])]
theorem xdr_Writer_Hyper_v1_CE (N : Nat) : xdr_Writer_Hyper_v1_CA N (xdr_Writer_bad_v1) (octet_Put_v1 N) = xdr_Writer_Hyper_v1_C N := by kernel_rfl
theorem xdr_Writer_Hyper_v1_t (N : Nat) : TabC Try.prog (xdr_Writer_Hyper_v1_C N) := tab_ok ⟨⟨xdr_Writer_bad_v1_ok N, trivial⟩, ⟨octet_Put_v1_ok N, trivial⟩, trivial⟩
theorem xdr_Writer_Hyper_v1_i : loopsOf xdr_Writer_Hyper_v1_c = [] := by kernel_rfl
noncomputable def xdr_Writer_Hyper_v1_a (N : Nat) (f0 : Int × (List Int) → Option (Bool × Int × (List Int))) (f1 : Int × Int × (List Int) → Option ((List Int))) (x : Int × Int × (List Int)) : Option (Int × (List Int)) :=
  (Option.bind (f0 (x.2.1, x.2.2)) fun r1 =>
  (Option.bind
  (cond (!r1.1)
  (Option.bind (f1 (x.1, (8 : Int), r1.2.2)) fun r3 =>
  (some r3))
  (some r1.2.2))
  fun r4 =>
  (some (r1.2.1, r4))))
theorem xdr_Writer_Hyper_v1_f (N : Nat) (f0 : Int × (List Int) → Option (Bool × Int × (List Int))) (f1 : Int × Int × (List Int) → Option ((List Int))) (x) : xdr_Writer_Hyper_v1_a N f0 f1 x = fnStep Γ (xdr_Writer_Hyper_v1_CA N f0 f1) (xdr_Writer_Hyper_v1_J N) 16 Try.f29.results.toList (xdr_Writer_Hyper_v1_g N) xdr_Writer_Hyper_v1_o xdr_Writer_Hyper_v1_c x := by kernel_rfl
theorem xdr_Writer_Hyper_v1_e (N : Nat) (x) : (xdr_Writer_Hyper_v1_g N).F x = fnStep Γ (xdr_Writer_Hyper_v1_C N) (xdr_Writer_Hyper_v1_J N) 16 Try.f29.results.toList (xdr_Writer_Hyper_v1_g N) xdr_Writer_Hyper_v1_o xdr_Writer_Hyper_v1_c x := by
  rw [← xdr_Writer_Hyper_v1_CE N]
  exact Eq.trans (by kernel_rfl) (xdr_Writer_Hyper_v1_f N (xdr_Writer_bad_v1) (octet_Put_v1 N) x)
theorem xdr_Writer_Hyper_v1_y : Try.f29.body = some xdr_Writer_Hyper_v1_c := by kernel_rfl
theorem xdr_Writer_Hyper_v1_n : (Try.f29.name == "runtime.NumGoroutine") = false := by kernel_rfl
theorem xdr_Writer_Hyper_v1_ok (N : Nat) : FnDoes Try.prog 29 (xdr_Writer_Hyper_v1_g N) := fn_ok tabOK (xdr_Writer_Hyper_v1_t N) mixedOK (J := xdr_Writer_Hyper_v1_J N) (body := xdr_Writer_Hyper_v1_c) Try.func29 xdr_Writer_Hyper_v1_y xdr_Writer_Hyper_v1_n Try.ntmps29 (jok_from xdr_Writer_Hyper_v1_i ⟨trivial, trivial⟩) rfl rfl (le_of_ble rfl) (xdr_Writer_Hyper_v1_e N)
noncomputable def xdr_Writer_Fixed_v2_c : Code := codeOf Try.f30.body
noncomputable def xdr_Writer_Fixed_v2_c0 : Code := codeOf (getLoop 0 xdr_Writer_Fixed_v2_c)
def xdr_Writer_Fixed_v2_d0 : LD := { ins := ⟨[(0, (.av (.one (.const (.ptr ⟨0, 0, 0, 0⟩))))), (17, (.av (.one (.int .i64)))), (18, (.av (.one (.int .i64))))], [(.sh (.one (.const (.slw 3 1))), true), (.keep, false), (.keep, false), (.sh (.arr (.int .u8) none), false)]⟩, mov := [3], wr := [0], outs := [(.exit 0, ⟨[], [(.sh (.one (.const (.slw 4 1))), true), (.keep, false), (.keep, false), (.dead, false), (.sh (.arr (.int .u8) none), false)]⟩)], its := [.int, .int, .lst (.int .u8)], ots := [[.lst (.int .u8)]] }
noncomputable def xdr_Writer_Fixed_v2_J (N : Nat) : Nat → Hint := fun cx => hintOf cx [(0, { reg := fun k => assoc0 k [], cnd := fun k => assoc0 k [], loop := fun k => assoc0 k [(0, ⟨xdr_Writer_Fixed_v2_d0, loopF (xdr_Writer_Fixed_v2_b0 N) N⟩)], nil := fun k => assoc0 k [], unr := fun k => assocN k [], blk := fun k => assoc0 k [] })]
noncomputable def xdr_Writer_Fixed_v2_C (N : Nat) : Nat → List GS := fun k => tabOf k [(58, [xdr_Writer_bad_v1_g N]), (61, [xdr_padding_g N])]
def xdr_Writer_Fixed_v2_o : List (Shp × List Nat) := [(⟨[(0, (.tup []))], [(.sh (.one (.const (.slw 3 1))), true), (.sh (.one (.int .i64)), false), (.dead, false), (.sh (.arr (.int .u8) none), false)]⟩, [2])]
noncomputable def xdr_Writer_Fixed_v2_g (N : Nat) : GS := { ins := ⟨[(0, (.av (.one (.const (.ptr ⟨0, 0, 0, 0⟩))))), (1, (.av (.one (.rsl (.int .u8)))))], [(some (.one (.const (.slw 2 1))), true), (some (.one (.int .i64)), false), (some (.arr (.int .u8) none), false)]⟩, lend := [.keep, .lend (.int .u8)], outs := xdr_Writer_Fixed_v2_o.map fun s => ssOf s.1, its := [.lst (.int .u8), .int, .lst (.int .u8)], ots := [[.int, .lst (.int .u8)]], F := xdr_Writer_Fixed_v2 N }
noncomputable def xdr_Writer_Fixed_v2_CA (N : Nat) (f0 : Int × (List Int) → Option (Bool × Int × (List Int))) (f1 : Int → Option (Int)) : Nat → List GS := fun k => tabOf k [(58, [{ xdr_Writer_bad_v1_g N with F := f0 }]), (61, [{ xdr_padding_g N with F := f1 }])]
theorem xdr_Writer_Fixed_v2_CE (N : Nat) : xdr_Writer_Fixed_v2_CA N (xdr_Writer_bad_v1) (xdr_padding) = xdr_Writer_Fixed_v2_C N := by kernel_rfl
theorem xdr_Writer_Fixed_v2_t (N : Nat) : TabC Try.prog (xdr_Writer_Fixed_v2_C N) := tab_ok ⟨⟨xdr_Writer_bad_v1_ok N, trivial⟩, ⟨xdr_padding_ok N, trivial⟩, trivial⟩
theorem xdr_Writer_Fixed_v2_i0 : loopsOf xdr_Writer_Fixed_v2_c0 = [] := by kernel_rfl
noncomputable def xdr_Writer_Fixed_v2_a0 (N : Nat) (f0 : Int × (List Int) → Option (Bool × Int × (List Int))) (f1 : Int → Option (Int)) (next : Int × Int × (List Int) → Option (((List Int)))) (x : Int × Int × (List Int)) : Option (((List Int))) :=
  (cond (decide (x.2.1 < x.1))
  (let v2 : List Int := ([(0 : Int)] : List Int)
  (cond ((decide (1 ≤ (List.length v2))) && (fits 1 ((List.length x.2.2) + (List.length (List.take 1 (List.drop 0 v2))))))
  ((next (x.1, (wrapF .i64 (x.2.1 + (1 : Int))), (x.2.2 ++ (List.take 1 (List.drop 0 v2))))))
  none))
  (some x.2.2))
theorem xdr_Writer_Fixed_v2_f0 (N : Nat) (f0 : Int × (List Int) → Option (Bool × Int × (List Int))) (f1 : Int → Option (Int)) (next) (x) : xdr_Writer_Fixed_v2_a0 N f0 f1 next x = loopStep Γ (xdr_Writer_Fixed_v2_CA N f0 f1) (xdr_Writer_Fixed_v2_J N) 0 30 xdr_Writer_Fixed_v2_d0 xdr_Writer_Fixed_v2_c0 next x := by kernel_rfl
theorem xdr_Writer_Fixed_v2_e0 (N : Nat) (next) (x) : xdr_Writer_Fixed_v2_b0 N next x = loopStep Γ (xdr_Writer_Fixed_v2_C N) (xdr_Writer_Fixed_v2_J N) 0 30 xdr_Writer_Fixed_v2_d0 xdr_Writer_Fixed_v2_c0 next x := by
  rw [← xdr_Writer_Fixed_v2_CE N]
  exact Eq.trans (by kernel_rfl) (xdr_Writer_Fixed_v2_f0 N (xdr_Writer_bad_v1) (xdr_padding) next x)
theorem xdr_Writer_Fixed_v2_k0 (N : Nat) : LoopOK Try.prog 30 xdr_Writer_Fixed_v2_c0 ⟨xdr_Writer_Fixed_v2_d0, loopF (xdr_Writer_Fixed_v2_b0 N) N⟩ := loop_ok tabOK (xdr_Writer_Fixed_v2_t N) mixedOK (J := xdr_Writer_Fixed_v2_J N) (cx := 0) (body := xdr_Writer_Fixed_v2_c0) (nt := 30) (l := xdr_Writer_Fixed_v2_d0) (b := xdr_Writer_Fixed_v2_b0 N) (jok_from xdr_Writer_Fixed_v2_i0 ⟨trivial, trivial⟩) (xdr_Writer_Fixed_v2_e0 N) N
theorem xdr_Writer_Fixed_v2_i : loopsOf xdr_Writer_Fixed_v2_c = [(0, xdr_Writer_Fixed_v2_c0)] := by kernel_rfl
noncomputable def xdr_Writer_Fixed_v2_a (N : Nat) (f0 : Int × (List Int) → Option (Bool × Int × (List Int))) (f1 : Int → Option (Int)) (x : (List Int) × Int × (List Int)) : Option (Int × (List Int)) :=
  (Option.bind (f0 (x.2.1, x.2.2)) fun r1 =>
  (cond r1.1
  (some (r1.2.1, r1.2.2))
  (cond (fits 1 ((List.length r1.2.2) + (List.length x.1)))
  ((Option.bind (f1 (((List.length x.1) : Nat) : Int)) fun r4 =>
  (Option.bind (xdr_Writer_Fixed_v2_l0 N (r4, (0 : Int), (r1.2.2 ++ x.1))) fun r5 =>
  (some (r1.2.1, r5)))))
  none)))
theorem xdr_Writer_Fixed_v2_f (N : Nat) (f0 : Int × (List Int) → Option (Bool × Int × (List Int))) (f1 : Int → Option (Int)) (x) : xdr_Writer_Fixed_v2_a N f0 f1 x = fnStep Γ (xdr_Writer_Fixed_v2_CA N f0 f1) (xdr_Writer_Fixed_v2_J N) 30 Try.f30.results.toList (xdr_Writer_Fixed_v2_g N) xdr_Writer_Fixed_v2_o xdr_Writer_Fixed_v2_c x := by kernel_rfl
theorem xdr_Writer_Fixed_v2_e (N : Nat) (x) : (xdr_Writer_Fixed_v2_g N).F x = fnStep Γ (xdr_Writer_Fixed_v2_C N) (xdr_Writer_Fixed_v2_J N) 30 Try.f30.results.toList (xdr_Writer_Fixed_v2_g N) xdr_Writer_Fixed_v2_o xdr_Writer_Fixed_v2_c x := by
  rw [← xdr_Writer_Fixed_v2_CE N]
  exact Eq.trans (by kernel_rfl) (xdr_Writer_Fixed_v2_f N (xdr_Writer_bad_v1) (xdr_padding) x)
theorem xdr_Writer_Fixed_v2_y : Try.f30.body = some xdr_Writer_Fixed_v2_c := by kernel_rfl
theorem xdr_Writer_Fixed_v2_n : (Try.f30.name == "runtime.NumGoroutine") = false := by kernel_rfl
theorem xdr_Writer_Fixed_v2_ok (N : Nat) : FnDoes Try.prog 30 (xdr_Writer_Fixed_v2_g N) := fn_ok tabOK (xdr_Writer_Fixed_v2_t N) mixedOK (J := xdr_Writer_Fixed_v2_J N) (body := xdr_Writer_Fixed_v2_c) Try.func30 xdr_Writer_Fixed_v2_y xdr_Writer_Fixed_v2_n Try.ntmps30 (jok_from xdr_Writer_Fixed_v2_i ⟨⟨.inr ⟨_, rfl, xdr_Writer_Fixed_v2_k0 N⟩, trivial⟩, trivial⟩) rfl rfl (le_of_ble rfl) (xdr_Writer_Fixed_v2_e N)
noncomputable def granarylaw01_putNum_c : Code := codeOf Try.f32.body
noncomputable def granarylaw01_putNum_J (N : Nat) : Nat → Hint := fun cx => hintOf cx []
noncomputable def granarylaw01_putNum_C (N : Nat) : Nat → List GS := fun k => tabOf k [(27, [xdr_Writer_Uint_v1_g N])]
def granarylaw01_putNum_o : List (Shp × List Nat) := [(⟨[(0, (.tup []))], [(.sh (.one (.const (.slw 3 1))), true), (.sh (.one (.int .i64)), false), (.dead, false), (.sh (.arr (.int .u8) none), false)]⟩, [])]
noncomputable def granarylaw01_putNum_g (N : Nat) : GS := { ins := ⟨[(0, (.av (.one (.const (.ptr ⟨0, 0, 0, 0⟩))))), (1, (.av (.one (.int .u32))))], [(some (.one (.const (.slw 2 1))), true), (some (.one (.int .i64)), false), (some (.arr (.int .u8) none), false)]⟩, lend := [.keep, .keep], outs := granarylaw01_putNum_o.map fun s => ssOf s.1, its := [.int, .int, .lst (.int .u8)], ots := [[.int, .lst (.int .u8)]], F := granarylaw01_putNum N }
noncomputable def granarylaw01_putNum_CA (N : Nat) (f0 : Int × Int × (List Int) → Option (Int × (List Int))) : Nat → List GS := fun k => tabOf k [(27, [{ xdr_Writer_Uint_v1_g N with F := f0 }])]
theorem granarylaw01_putNum_CE (N : Nat) : granarylaw01_putNum_CA N (xdr_Writer_Uint_v1 N) = granarylaw01_putNum_C N := by kernel_rfl
theorem granarylaw01_putNum_t (N : Nat) : TabC Try.prog (granarylaw01_putNum_C N) := tab_ok ⟨⟨xdr_Writer_Uint_v1_ok N, trivial⟩, trivial⟩
theorem granarylaw01_putNum_i : loopsOf granarylaw01_putNum_c = [] := by kernel_rfl
noncomputable def granarylaw01_putNum_a (N : Nat) (f0 : Int × Int × (List Int) → Option (Int × (List Int))) (x : Int × Int × (List Int)) : Option (Int × (List Int)) :=
  (Option.bind (f0 (x.1, x.2.1, x.2.2)) fun r1 =>
  (some (r1.1, r1.2)))
theorem granarylaw01_putNum_f (N : Nat) (f0 : Int × Int × (List Int) → Option (Int × (List Int))) (x) : granarylaw01_putNum_a N f0 x = fnStep Γ (granarylaw01_putNum_CA N f0) (granarylaw01_putNum_J N) 7 Try.f32.results.toList (granarylaw01_putNum_g N) granarylaw01_putNum_o granarylaw01_putNum_c x := by kernel_rfl
theorem granarylaw01_putNum_e (N : Nat) (x) : (granarylaw01_putNum_g N).F x = fnStep Γ (granarylaw01_putNum_C N) (granarylaw01_putNum_J N) 7 Try.f32.results.toList (granarylaw01_putNum_g N) granarylaw01_putNum_o granarylaw01_putNum_c x := by
  rw [← granarylaw01_putNum_CE N]
  exact Eq.trans (by kernel_rfl) (granarylaw01_putNum_f N (xdr_Writer_Uint_v1 N) x)
theorem granarylaw01_putNum_y : Try.f32.body = some granarylaw01_putNum_c := by kernel_rfl
theorem granarylaw01_putNum_n : (Try.f32.name == "runtime.NumGoroutine") = false := by kernel_rfl
theorem granarylaw01_putNum_ok (N : Nat) : FnDoes Try.prog 32 (granarylaw01_putNum_g N) := fn_ok tabOK (granarylaw01_putNum_t N) mixedOK (J := granarylaw01_putNum_J N) (body := granarylaw01_putNum_c) Try.func32 granarylaw01_putNum_y granarylaw01_putNum_n Try.ntmps32 (jok_from granarylaw01_putNum_i trivial) rfl rfl (le_of_ble rfl) (granarylaw01_putNum_e N)
noncomputable def xdr_PutList_uint32_v1_c : Code := codeOf Try.f31.body
noncomputable def xdr_PutList_uint32_v1_c0 : Code := codeOf (getLoop 0 xdr_PutList_uint32_v1_c)
def xdr_PutList_uint32_v1_d0 : LD := { ins := ⟨[(0, (.av (.one (.const (.ptr ⟨0, 0, 0, 0⟩))))), (3, (.av (.one (.const (.fn 32 []))))), (21, (.av (.one (.rsl (.int .u32))))), (22, (.av (.one (.int .i64)))), (23, (.av (.one (.int .i64))))], [(.sh (.one (.const (.slw 3 1))), true), (.sh (.one (.int .i64)), false), (.keep, false), (.sh (.arr (.int .u8) none), false)]⟩, mov := [3], wr := [0, 1], outs := [(.exit 0, ⟨[], [(.sh (.one (.const (.slw 4 1))), true), (.sh (.one (.int .i64)), false), (.keep, false), (.dead, false), (.sh (.arr (.int .u8) none), false)]⟩)], its := [.lst (.int .u32), .int, .int, .int, .lst (.int .u8)], ots := [[.int, .lst (.int .u8)]] }
noncomputable def xdr_PutList_uint32_v1_J (N : Nat) : Nat → Hint := fun cx => hintOf cx [(0, { reg := fun k => assoc0 k [], cnd := fun k => assoc0 k [], loop := fun k => assoc0 k [(0, ⟨xdr_PutList_uint32_v1_d0, loopF (xdr_PutList_uint32_v1_b0 N) N⟩)], nil := fun k => assoc0 k [], unr := fun k => assocN k [], blk := fun k => assoc0 k [] })]
noncomputable def xdr_PutList_uint32_v1_C (N : Nat) : Nat → List GS := fun k => tabOf k [(57, [xdr_Writer_fits_g N]), (27, [xdr_Writer_Uint_v1_g N]), (32, [granarylaw01_putNum_g N])]
def xdr_PutList_uint32_v1_o : List (Shp × List Nat) := [(⟨[(0, (.tup []))], [(.sh (.one (.const (.slw 3 1))), true), (.sh (.one (.int .i64)), false), (.dead, false), (.sh (.arr (.int .u8) none), false)]⟩, [2])]
noncomputable def xdr_PutList_uint32_v1_g (N : Nat) : GS := { ins := ⟨[(0, (.av (.one (.const (.ptr ⟨0, 0, 0, 0⟩))))), (1, (.av (.one (.rsl (.int .u32))))), (2, (.av (.one (.int .i64)))), (3, (.av (.one (.const (.fn 32 [])))))], [(some (.one (.const (.slw 2 1))), true), (some (.one (.int .i64)), false), (some (.arr (.int .u8) none), false)]⟩, lend := [.keep, .keep, .keep, .keep], outs := xdr_PutList_uint32_v1_o.map fun s => ssOf s.1, its := [.lst (.int .u32), .int, .int, .lst (.int .u8)], ots := [[.int, .lst (.int .u8)]], F := xdr_PutList_uint32_v1 N }
noncomputable def xdr_PutList_uint32_v1_CA (N : Nat) (f0 : Int × Int × Int × (List Int) → Option (Bool × Int × (List Int))) (f1 : Int × Int × (List Int) → Option (Int × (List Int))) (f2 : Int × Int × (List Int) → Option (Int × (List Int))) : Nat → List GS := fun k => tabOf k [(57, [{ xdr_Writer_fits_g N with F := f0 }]), (27, [{ xdr_Writer_Uint_v1_g N with F := f1 }]), (32, [{ granarylaw01_putNum_g N with F := f2 }])]
theorem xdr_PutList_uint32_v1_CE (N : Nat) : xdr_PutList_uint32_v1_CA N (xdr_Writer_fits) (xdr_Writer_Uint_v1 N) (granarylaw01_putNum N) = xdr_PutList_uint32_v1_C N := by kernel_rfl
theorem xdr_PutList_uint32_v1_t (N : Nat) : TabC Try.prog (xdr_PutList_uint32_v1_C N) := tab_ok ⟨⟨xdr_Writer_fits_ok N, trivial⟩, ⟨xdr_Writer_Uint_v1_ok N, trivial⟩, ⟨granarylaw01_putNum_ok N, trivial⟩, trivial⟩
theorem xdr_PutList_uint32_v1_i0 : loopsOf xdr_PutList_uint32_v1_c0 = [] := by kernel_rfl
noncomputable def xdr_PutList_uint32_v1_a0 (N : Nat) (f0 : Int × Int × Int × (List Int) → Option (Bool × Int × (List Int))) (f1 : Int × Int × (List Int) → Option (Int × (List Int))) (f2 : Int × Int × (List Int) → Option (Int × (List Int))) (next : (List Int) × Int × Int × Int × (List Int) → Option ((Int × (List Int)))) (x : (List Int) × Int × Int × Int × (List Int)) : Option ((Int × (List Int))) :=
  (cond (decide (x.2.2.1 < x.2.1))
  (cond ((decide ((0 : Int) ≤ x.2.2.1)) && (decide (x.2.2.1 < (((List.length x.1) : Nat) : Int))))
  ((Option.bind (f2 ((List.getD x.1 (Int.toNat x.2.2.1) (EK.dflt (.int .u32))), x.2.2.2.1, x.2.2.2.2)) fun r3 =>
  (next (x.1, x.2.1, (wrapF .i64 (x.2.2.1 + (1 : Int))), r3.1, r3.2))))
  none)
  (some (x.2.2.2.1, x.2.2.2.2)))
theorem xdr_PutList_uint32_v1_f0 (N : Nat) (f0 : Int × Int × Int × (List Int) → Option (Bool × Int × (List Int))) (f1 : Int × Int × (List Int) → Option (Int × (List Int))) (f2 : Int × Int × (List Int) → Option (Int × (List Int))) (next) (x) : xdr_PutList_uint32_v1_a0 N f0 f1 f2 next x = loopStep Γ (xdr_PutList_uint32_v1_CA N f0 f1 f2) (xdr_PutList_uint32_v1_J N) 0 32 xdr_PutList_uint32_v1_d0 xdr_PutList_uint32_v1_c0 next x := by kernel_rfl
theorem xdr_PutList_uint32_v1_e0 (N : Nat) (next) (x) : xdr_PutList_uint32_v1_b0 N next x = loopStep Γ (xdr_PutList_uint32_v1_C N) (xdr_PutList_uint32_v1_J N) 0 32 xdr_PutList_uint32_v1_d0 xdr_PutList_uint32_v1_c0 next x := by
  rw [← xdr_PutList_uint32_v1_CE N]
  exact Eq.trans (by kernel_rfl) (xdr_PutList_uint32_v1_f0 N (xdr_Writer_fits) (xdr_Writer_Uint_v1 N) (granarylaw01_putNum N) next x)
theorem xdr_PutList_uint32_v1_k0 (N : Nat) : LoopOK Try.prog 32 xdr_PutList_uint32_v1_c0 ⟨xdr_PutList_uint32_v1_d0, loopF (xdr_PutList_uint32_v1_b0 N) N⟩ := loop_ok tabOK (xdr_PutList_uint32_v1_t N) mixedOK (J := xdr_PutList_uint32_v1_J N) (cx := 0) (body := xdr_PutList_uint32_v1_c0) (nt := 32) (l := xdr_PutList_uint32_v1_d0) (b := xdr_PutList_uint32_v1_b0 N) (jok_from xdr_PutList_uint32_v1_i0 ⟨trivial, trivial⟩) (xdr_PutList_uint32_v1_e0 N) N
theorem xdr_PutList_uint32_v1_i : loopsOf xdr_PutList_uint32_v1_c = [(0, xdr_PutList_uint32_v1_c0)] := by kernel_rfl
noncomputable def xdr_PutList_uint32_v1_a (N : Nat) (f0 : Int × Int × Int × (List Int) → Option (Bool × Int × (List Int))) (f1 : Int × Int × (List Int) → Option (Int × (List Int))) (f2 : Int × Int × (List Int) → Option (Int × (List Int))) (x : (List Int) × Int × Int × (List Int)) : Option (Int × (List Int)) :=
  (Option.bind (f0 ((((List.length x.1) : Nat) : Int), x.2.1, x.2.2.1, x.2.2.2)) fun r2 =>
  (cond (!r2.1)
  (some (r2.2.1, r2.2.2))
  (Option.bind (f1 ((wrapF .u32 (((List.length x.1) : Nat) : Int)), r2.2.1, r2.2.2)) fun r6 =>
  (Option.bind (xdr_PutList_uint32_v1_l0 N (x.1, (((List.length x.1) : Nat) : Int), (0 : Int), r6.1, r6.2)) fun r8 =>
  (some (r8.1, r8.2))))))
theorem xdr_PutList_uint32_v1_f (N : Nat) (f0 : Int × Int × Int × (List Int) → Option (Bool × Int × (List Int))) (f1 : Int × Int × (List Int) → Option (Int × (List Int))) (f2 : Int × Int × (List Int) → Option (Int × (List Int))) (x) : xdr_PutList_uint32_v1_a N f0 f1 f2 x = fnStep Γ (xdr_PutList_uint32_v1_CA N f0 f1 f2) (xdr_PutList_uint32_v1_J N) 32 Try.f31.results.toList (xdr_PutList_uint32_v1_g N) xdr_PutList_uint32_v1_o xdr_PutList_uint32_v1_c x := by kernel_rfl
theorem xdr_PutList_uint32_v1_e (N : Nat) (x) : (xdr_PutList_uint32_v1_g N).F x = fnStep Γ (xdr_PutList_uint32_v1_C N) (xdr_PutList_uint32_v1_J N) 32 Try.f31.results.toList (xdr_PutList_uint32_v1_g N) xdr_PutList_uint32_v1_o xdr_PutList_uint32_v1_c x := by
  rw [← xdr_PutList_uint32_v1_CE N]
  exact Eq.trans (by kernel_rfl) (xdr_PutList_uint32_v1_f N (xdr_Writer_fits) (xdr_Writer_Uint_v1 N) (granarylaw01_putNum N) x)
theorem xdr_PutList_uint32_v1_y : Try.f31.body = some xdr_PutList_uint32_v1_c := by kernel_rfl
theorem xdr_PutList_uint32_v1_n : (Try.f31.name == "runtime.NumGoroutine") = false := by kernel_rfl
theorem xdr_PutList_uint32_v1_ok (N : Nat) : FnDoes Try.prog 31 (xdr_PutList_uint32_v1_g N) := fn_ok tabOK (xdr_PutList_uint32_v1_t N) mixedOK (J := xdr_PutList_uint32_v1_J N) (body := xdr_PutList_uint32_v1_c) Try.func31 xdr_PutList_uint32_v1_y xdr_PutList_uint32_v1_n Try.ntmps31 (jok_from xdr_PutList_uint32_v1_i ⟨⟨.inr ⟨_, rfl, xdr_PutList_uint32_v1_k0 N⟩, trivial⟩, trivial⟩) rfl rfl (le_of_ble rfl) (xdr_PutList_uint32_v1_e N)
noncomputable def xdr_PutChain_string_v2_c : Code := codeOf Try.f23.body
noncomputable def xdr_PutChain_string_v2_c0 : Code := codeOf (getLoop 0 xdr_PutChain_string_v2_c)
def xdr_PutChain_string_v2_d0 : LD := { ins := ⟨[(0, (.av (.one (.const (.ptr ⟨0, 0, 0, 0⟩))))), (2, (.av (.one (.const (.fn 22 []))))), (10, (.av (.one (.rsl .str)))), (11, (.av (.one (.int .i64)))), (12, (.av (.one (.int .i64))))], [(.sh (.one (.const (.slw 2 1))), true), (.sh (.one (.int .i64)), false), (.sh (.arr (.int .u8) none), false)]⟩, mov := [2], wr := [0, 1], outs := [(.exit 0, ⟨[], [(.sh (.one (.const (.slw 3 1))), true), (.sh (.one (.int .i64)), false), (.dead, false), (.sh (.arr (.int .u8) none), false)]⟩)], its := [.lst .str, .int, .int, .int, .lst (.int .u8)], ots := [[.int, .lst (.int .u8)]] }
noncomputable def xdr_PutChain_string_v2_J (N : Nat) : Nat → Hint := fun cx => hintOf cx [(0, { reg := fun k => assoc0 k [], cnd := fun k => assoc0 k [], loop := fun k => assoc0 k [(0, ⟨xdr_PutChain_string_v2_d0, loopF (xdr_PutChain_string_v2_b0 N) N⟩)], nil := fun k => assoc0 k [], unr := fun k => assocN k [], blk := fun k => assoc0 k [] })]
noncomputable def xdr_PutChain_string_v2_C (N : Nat) : Nat → List GS := fun k => tabOf k [(58, [xdr_Writer_bad_v1_g N]), (15, [xdr_Writer_Bool_v2_g N]), (22, [granarylaw01_putText_g N])]
def xdr_PutChain_string_v2_o : List (Shp × List Nat) := [(⟨[(0, (.tup []))], [(.sh (.one (.const (.slw 3 1))), true), (.sh (.one (.int .i64)), false), (.dead, false), (.sh (.arr (.int .u8) none), false)]⟩, [2])]
noncomputable def xdr_PutChain_string_v2_g (N : Nat) : GS := { ins := ⟨[(0, (.av (.one (.const (.ptr ⟨0, 0, 0, 0⟩))))), (1, (.av (.one (.rsl .str)))), (2, (.av (.one (.const (.fn 22 [])))))], [(some (.one (.const (.slw 2 1))), true), (some (.one (.int .i64)), false), (some (.arr (.int .u8) none), false)]⟩, lend := [.keep, .keep, .keep], outs := xdr_PutChain_string_v2_o.map fun s => ssOf s.1, its := [.lst .str, .int, .lst (.int .u8)], ots := [[.int, .lst (.int .u8)]], F := xdr_PutChain_string_v2 N }
noncomputable def xdr_PutChain_string_v2_CA (N : Nat) (f0 : Int × (List Int) → Option (Bool × Int × (List Int))) (f1 : Bool × Int × (List Int) → Option (Int × (List Int))) (f2 : (List UInt8) × Int × (List Int) → Option (Int × (List Int))) : Nat → List GS := fun k => tabOf k [(58, [{ xdr_Writer_bad_v1_g N with F := f0 }]), (15, [{ xdr_Writer_Bool_v2_g N with F := f1 }]), (22, [{ granarylaw01_putText_g N with F := f2 }])]
theorem xdr_PutChain_string_v2_CE (N : Nat) : xdr_PutChain_string_v2_CA N (xdr_Writer_bad_v1) (xdr_Writer_Bool_v2 N) (granarylaw01_putText N) = xdr_PutChain_string_v2_C N := by kernel_rfl
theorem xdr_PutChain_string_v2_t (N : Nat) : TabC Try.prog (xdr_PutChain_string_v2_C N) := tab_ok ⟨⟨xdr_Writer_bad_v1_ok N, trivial⟩, ⟨xdr_Writer_Bool_v2_ok N, trivial⟩, ⟨granarylaw01_putText_ok N, trivial⟩, trivial⟩
theorem xdr_PutChain_string_v2_i0 : loopsOf xdr_PutChain_string_v2_c0 = [] := by kernel_rfl
noncomputable def xdr_PutChain_string_v2_a0 (N : Nat) (f0 : Int × (List Int) → Option (Bool × Int × (List Int))) (f1 : Bool × Int × (List Int) → Option (Int × (List Int))) (f2 : (List UInt8) × Int × (List Int) → Option (Int × (List Int))) (next : (List (List UInt8)) × Int × Int × Int × (List Int) → Option ((Int × (List Int)))) (x : (List (List UInt8)) × Int × Int × Int × (List Int)) : Option ((Int × (List Int))) :=
  (cond (decide (x.2.2.1 < x.2.1))
  (cond ((decide ((0 : Int) ≤ x.2.2.1)) && (decide (x.2.2.1 < (((List.length x.1) : Nat) : Int))))
  ((Option.bind (f1 (true, x.2.2.2.1, x.2.2.2.2)) fun r3 =>
  (Option.bind (f2 ((List.getD x.1 (Int.toNat x.2.2.1) (EK.dflt .str)), r3.1, r3.2)) fun r4 =>
  (next (x.1, x.2.1, (wrapF .i64 (x.2.2.1 + (1 : Int))), r4.1, r4.2)))))
  none)
  (some (x.2.2.2.1, x.2.2.2.2)))
theorem xdr_PutChain_string_v2_f0 (N : Nat) (f0 : Int × (List Int) → Option (Bool × Int × (List Int))) (f1 : Bool × Int × (List Int) → Option (Int × (List Int))) (f2 : (List UInt8) × Int × (List Int) → Option (Int × (List Int))) (next) (x) : xdr_PutChain_string_v2_a0 N f0 f1 f2 next x = loopStep Γ (xdr_PutChain_string_v2_CA N f0 f1 f2) (xdr_PutChain_string_v2_J N) 0 25 xdr_PutChain_string_v2_d0 xdr_PutChain_string_v2_c0 next x := by kernel_rfl
theorem xdr_PutChain_string_v2_e0 (N : Nat) (next) (x) : xdr_PutChain_string_v2_b0 N next x = loopStep Γ (xdr_PutChain_string_v2_C N) (xdr_PutChain_string_v2_J N) 0 25 xdr_PutChain_string_v2_d0 xdr_PutChain_string_v2_c0 next x := by
  rw [← xdr_PutChain_string_v2_CE N]
  exact Eq.trans (by kernel_rfl) (xdr_PutChain_string_v2_f0 N (xdr_Writer_bad_v1) (xdr_Writer_Bool_v2 N) (granarylaw01_putText N) next x)
theorem xdr_PutChain_string_v2_k0 (N : Nat) : LoopOK Try.prog 25 xdr_PutChain_string_v2_c0 ⟨xdr_PutChain_string_v2_d0, loopF (xdr_PutChain_string_v2_b0 N) N⟩ := loop_ok tabOK (xdr_PutChain_string_v2_t N) mixedOK (J := xdr_PutChain_string_v2_J N) (cx := 0) (body := xdr_PutChain_string_v2_c0) (nt := 25) (l := xdr_PutChain_string_v2_d0) (b := xdr_PutChain_string_v2_b0 N) (jok_from xdr_PutChain_string_v2_i0 ⟨trivial, trivial⟩) (xdr_PutChain_string_v2_e0 N) N
theorem xdr_PutChain_string_v2_i : loopsOf xdr_PutChain_string_v2_c = [(0, xdr_PutChain_string_v2_c0)] := by kernel_rfl
noncomputable def xdr_PutChain_string_v2_a (N : Nat) (f0 : Int × (List Int) → Option (Bool × Int × (List Int))) (f1 : Bool × Int × (List Int) → Option (Int × (List Int))) (f2 : (List UInt8) × Int × (List Int) → Option (Int × (List Int))) (x : (List (List UInt8)) × Int × (List Int)) : Option (Int × (List Int)) :=
  (Option.bind (f0 (x.2.1, x.2.2)) fun r1 =>
  (cond r1.1
  (some (r1.2.1, r1.2.2))
  (Option.bind (xdr_PutChain_string_v2_l0 N (x.1, (((List.length x.1) : Nat) : Int), (0 : Int), r1.2.1, r1.2.2)) fun r3 =>
  (Option.bind (f1 (false, r3.1, r3.2)) fun r4 =>
  (some (r4.1, r4.2))))))
theorem xdr_PutChain_string_v2_f (N : Nat) (f0 : Int × (List Int) → Option (Bool × Int × (List Int))) (f1 : Bool × Int × (List Int) → Option (Int × (List Int))) (f2 : (List UInt8) × Int × (List Int) → Option (Int × (List Int))) (x) : xdr_PutChain_string_v2_a N f0 f1 f2 x = fnStep Γ (xdr_PutChain_string_v2_CA N f0 f1 f2) (xdr_PutChain_string_v2_J N) 25 Try.f23.results.toList (xdr_PutChain_string_v2_g N) xdr_PutChain_string_v2_o xdr_PutChain_string_v2_c x := by kernel_rfl
theorem xdr_PutChain_string_v2_e (N : Nat) (x) : (xdr_PutChain_string_v2_g N).F x = fnStep Γ (xdr_PutChain_string_v2_C N) (xdr_PutChain_string_v2_J N) 25 Try.f23.results.toList (xdr_PutChain_string_v2_g N) xdr_PutChain_string_v2_o xdr_PutChain_string_v2_c x := by
  rw [← xdr_PutChain_string_v2_CE N]
  exact Eq.trans (by kernel_rfl) (xdr_PutChain_string_v2_f N (xdr_Writer_bad_v1) (xdr_Writer_Bool_v2 N) (granarylaw01_putText N) x)
theorem xdr_PutChain_string_v2_y : Try.f23.body = some xdr_PutChain_string_v2_c := by kernel_rfl
theorem xdr_PutChain_string_v2_n : (Try.f23.name == "runtime.NumGoroutine") = false := by kernel_rfl
theorem xdr_PutChain_string_v2_ok (N : Nat) : FnDoes Try.prog 23 (xdr_PutChain_string_v2_g N) := fn_ok tabOK (xdr_PutChain_string_v2_t N) mixedOK (J := xdr_PutChain_string_v2_J N) (body := xdr_PutChain_string_v2_c) Try.func23 xdr_PutChain_string_v2_y xdr_PutChain_string_v2_n Try.ntmps23 (jok_from xdr_PutChain_string_v2_i ⟨⟨.inr ⟨_, rfl, xdr_PutChain_string_v2_k0 N⟩, trivial⟩, trivial⟩) rfl rfl (le_of_ble rfl) (xdr_PutChain_string_v2_e N)
noncomputable def xdr_PutOption_uint32_v1_c : Code := codeOf Try.f33.body
noncomputable def xdr_PutOption_uint32_v1_J (N : Nat) : Nat → Hint := fun cx => hintOf cx []
noncomputable def xdr_PutOption_uint32_v1_C (N : Nat) : Nat → List GS := fun k => tabOf k [(58, [xdr_Writer_bad_v1_g N]), (15, [xdr_Writer_Bool_v2_g N]), (32, [granarylaw01_putNum_g N])]
def xdr_PutOption_uint32_v1_o : List (Shp × List Nat) := [(⟨[(0, (.tup []))], [(.sh (.one (.const (.slw 4 1))), true), (.sh (.one (.int .i64)), false), (.sh (.one (.int .u32)), false), (.dead, false), (.sh (.arr (.int .u8) none), false)]⟩, [3])]
noncomputable def xdr_PutOption_uint32_v1_g (N : Nat) : GS := { ins := ⟨[(0, (.av (.one (.const (.ptr ⟨0, 0, 0, 0⟩))))), (1, (.av (.one (.const (.ptr ⟨2, 0, 0, 0⟩))))), (2, (.av (.one (.const (.fn 32 [])))))], [(some (.one (.const (.slw 3 1))), true), (some (.one (.int .i64)), false), (some (.one (.int .u32)), false), (some (.arr (.int .u8) none), false)]⟩, lend := [.keep, .keep, .keep], outs := xdr_PutOption_uint32_v1_o.map fun s => ssOf s.1, its := [.int, .int, .lst (.int .u8)], ots := [[.int, .int, .lst (.int .u8)]], F := xdr_PutOption_uint32_v1 N }
noncomputable def xdr_PutOption_uint32_v1_CA (N : Nat) (f0 : Int × (List Int) → Option (Bool × Int × (List Int))) (f1 : Bool × Int × (List Int) → Option (Int × (List Int))) (f2 : Int × Int × (List Int) → Option (Int × (List Int))) : Nat → List GS := fun k => tabOf k [(58, [{ xdr_Writer_bad_v1_g N with F := f0 }]), (15, [{ xdr_Writer_Bool_v2_g N with F := f1 }]), (32, [{ granarylaw01_putNum_g N with F := f2 }])]
theorem xdr_PutOption_uint32_v1_CE (N : Nat) : xdr_PutOption_uint32_v1_CA N (xdr_Writer_bad_v1) (xdr_Writer_Bool_v2 N) (granarylaw01_putNum N) = xdr_PutOption_uint32_v1_C N := by kernel_rfl
theorem xdr_PutOption_uint32_v1_t (N : Nat) : TabC Try.prog (xdr_PutOption_uint32_v1_C N) := tab_ok ⟨⟨xdr_Writer_bad_v1_ok N, trivial⟩, ⟨xdr_Writer_Bool_v2_ok N, trivial⟩, ⟨granarylaw01_putNum_ok N, trivial⟩, trivial⟩
theorem xdr_PutOption_uint32_v1_i : loopsOf xdr_PutOption_uint32_v1_c = [] := by kernel_rfl
noncomputable def xdr_PutOption_uint32_v1_a (N : Nat) (f0 : Int × (List Int) → Option (Bool × Int × (List Int))) (f1 : Bool × Int × (List Int) → Option (Int × (List Int))) (f2 : Int × Int × (List Int) → Option (Int × (List Int))) (x : Int × Int × (List Int)) : Option (Int × Int × (List Int)) :=
  (Option.bind (f0 (x.1, x.2.2)) fun r1 =>
  (cond r1.1
  (some (r1.2.1, x.2.1, r1.2.2))
  (Option.bind (f1 (true, r1.2.1, r1.2.2)) fun r2 =>
  (Option.bind (f2 (x.2.1, r2.1, r2.2)) fun r3 =>
  (some (r3.1, x.2.1, r3.2))))))
theorem xdr_PutOption_uint32_v1_f (N : Nat) (f0 : Int × (List Int) → Option (Bool × Int × (List Int))) (f1 : Bool × Int × (List Int) → Option (Int × (List Int))) (f2 : Int × Int × (List Int) → Option (Int × (List Int))) (x) : xdr_PutOption_uint32_v1_a N f0 f1 f2 x = fnStep Γ (xdr_PutOption_uint32_v1_CA N f0 f1 f2) (xdr_PutOption_uint32_v1_J N) 20 Try.f33.results.toList (xdr_PutOption_uint32_v1_g N) xdr_PutOption_uint32_v1_o xdr_PutOption_uint32_v1_c x := by kernel_rfl
theorem xdr_PutOption_uint32_v1_e (N : Nat) (x) : (xdr_PutOption_uint32_v1_g N).F x = fnStep Γ (xdr_PutOption_uint32_v1_C N) (xdr_PutOption_uint32_v1_J N) 20 Try.f33.results.toList (xdr_PutOption_uint32_v1_g N) xdr_PutOption_uint32_v1_o xdr_PutOption_uint32_v1_c x := by
  rw [← xdr_PutOption_uint32_v1_CE N]
  exact Eq.trans (by kernel_rfl) (xdr_PutOption_uint32_v1_f N (xdr_Writer_bad_v1) (xdr_Writer_Bool_v2 N) (granarylaw01_putNum N) x)
theorem xdr_PutOption_uint32_v1_y : Try.f33.body = some xdr_PutOption_uint32_v1_c := by kernel_rfl
theorem xdr_PutOption_uint32_v1_n : (Try.f33.name == "runtime.NumGoroutine") = false := by kernel_rfl
theorem xdr_PutOption_uint32_v1_ok (N : Nat) : FnDoes Try.prog 33 (xdr_PutOption_uint32_v1_g N) := fn_ok tabOK (xdr_PutOption_uint32_v1_t N) mixedOK (J := xdr_PutOption_uint32_v1_J N) (body := xdr_PutOption_uint32_v1_c) Try.func33 xdr_PutOption_uint32_v1_y xdr_PutOption_uint32_v1_n Try.ntmps33 (jok_from xdr_PutOption_uint32_v1_i trivial) rfl rfl (le_of_ble rfl) (xdr_PutOption_uint32_v1_e N)
noncomputable def xdr_Reader_Int_v1_c : Code := codeOf Try.f35.body
noncomputable def xdr_Reader_Int_v1_J (N : Nat) : Nat → Hint := fun cx => hintOf cx []
noncomputable def xdr_Reader_Int_v1_C (N : Nat) : Nat → List GS := fun k => tabOf k [(34, [xdr_Reader_Uint_g N])]
def xdr_Reader_Int_v1_o : List (Shp × List Nat) := [(⟨[(0, (.av (.one (.int .i32))))], [(.sh (.one (.const (.slw 4 1))), true), (.sh (.one (.int .i64)), true), (.sh (.one (.int .i64)), true), (.sh (.one (.int .i64)), false), (.sh (.arr (.int .u8) none), false)]⟩, [])]
noncomputable def xdr_Reader_Int_v1_g (N : Nat) : GS := { ins := ⟨[(0, (.av (.one (.const (.ptr ⟨0, 0, 0, 0⟩)))))], [(some (.one (.const (.slw 4 1))), true), (some (.one (.int .i64)), true), (some (.one (.int .i64)), true), (some (.one (.int .i64)), false), (some (.arr (.int .u8) none), false)]⟩, lend := [.keep], outs := xdr_Reader_Int_v1_o.map fun s => ssOf s.1, its := [.int, .int, .int, .lst (.int .u8)], ots := [[.int, .int, .int, .int, .lst (.int .u8)]], F := xdr_Reader_Int_v1 N }
noncomputable def xdr_Reader_Int_v1_CA (N : Nat) (f0 : Int × Int × Int × (List Int) → Option (Int × Int × Int × Int × (List Int))) : Nat → List GS := fun k => tabOf k [(34, [{ xdr_Reader_Uint_g N with F := f0 }])]
theorem xdr_Reader_Int_v1_CE (N : Nat) : xdr_Reader_Int_v1_CA N (xdr_Reader_Uint N) = xdr_Reader_Int_v1_C N := by kernel_rfl
theorem xdr_Reader_Int_v1_t (N : Nat) : TabC Try.prog (xdr_Reader_Int_v1_C N) := tab_ok ⟨⟨xdr_Reader_Uint_ok N, trivial⟩, trivial⟩
theorem xdr_Reader_Int_v1_i : loopsOf xdr_Reader_Int_v1_c = [] := by kernel_rfl
noncomputable def xdr_Reader_Int_v1_a (N : Nat) (f0 : Int × Int × Int × (List Int) → Option (Int × Int × Int × Int × (List Int))) (x : Int × Int × Int × (List Int)) : Option (Int × Int × Int × Int × (List Int)) :=
  (Option.bind (f0 (x.1, x.2.1, x.2.2.1, x.2.2.2)) fun r1 =>
  (some ((wrapF .i32 r1.1), r1.2.1, r1.2.2.1, r1.2.2.2.1, r1.2.2.2.2)))
theorem xdr_Reader_Int_v1_f (N : Nat) (f0 : Int × Int × Int × (List Int) → Option (Int × Int × Int × Int × (List Int))) (x) : xdr_Reader_Int_v1_a N f0 x = fnStep Γ (xdr_Reader_Int_v1_CA N f0) (xdr_Reader_Int_v1_J N) 6 Try.f35.results.toList (xdr_Reader_Int_v1_g N) xdr_Reader_Int_v1_o xdr_Reader_Int_v1_c x := by kernel_rfl
theorem xdr_Reader_Int_v1_e (N : Nat) (x) : (xdr_Reader_Int_v1_g N).F x = fnStep Γ (xdr_Reader_Int_v1_C N) (xdr_Reader_Int_v1_J N) 6 Try.f35.results.toList (xdr_Reader_Int_v1_g N) xdr_Reader_Int_v1_o xdr_Reader_Int_v1_c x := by
  rw [← xdr_Reader_Int_v1_CE N]
  exact Eq.trans (by kernel_rfl) (xdr_Reader_Int_v1_f N (xdr_Reader_Uint N) x)
theorem xdr_Reader_Int_v1_y : Try.f35.body = some xdr_Reader_Int_v1_c := by kernel_rfl
theorem xdr_Reader_Int_v1_n : (Try.f35.name == "runtime.NumGoroutine") = false := by kernel_rfl
theorem xdr_Reader_Int_v1_ok (N : Nat) : FnDoes Try.prog 35 (xdr_Reader_Int_v1_g N) := fn_ok tabOK (xdr_Reader_Int_v1_t N) mixedOK (J := xdr_Reader_Int_v1_J N) (body := xdr_Reader_Int_v1_c) Try.func35 xdr_Reader_Int_v1_y xdr_Reader_Int_v1_n Try.ntmps35 (jok_from xdr_Reader_Int_v1_i trivial) rfl rfl (le_of_ble rfl) (xdr_Reader_Int_v1_e N)
end Go.Rf.W
