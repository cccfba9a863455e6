/-
  The printed functions are what the program does.
-/
import Derived.Test.YtokfelhleojnjaaShaF0
import Derived.Test.YtokfelhleojnjaaShaT
import Derived.Test.YtokfelhleojnjaaRfC
set_option linter.unusedVariables false
set_option maxRecDepth 100000
namespace Go.Rf.W
open Go Go.Rf Go.Proofs
noncomputable def sha_beginning_c : Code := codeOf Try.f51.body
noncomputable def sha_beginning_J (N : Nat) : Nat → Hint := fun cx => hintOf cx []
noncomputable def sha_beginning_C (N : Nat) : Nat → List GS := fun k => tabOf k []
def sha_beginning_o : List (Shp × List Nat) := [(⟨[(0, (.av (.agg [(.arr (.int .u32) (some 8))])))], []⟩, [])]
noncomputable def sha_beginning_g (N : Nat) : GS := { ins := ⟨[], []⟩, lend := [], outs := sha_beginning_o.map fun s => ssOf s.1, its := [], ots := [[.lst (.int .u32)]], F := sha_beginning }
theorem sha_beginning_t (N : Nat) : TabC Try.prog (sha_beginning_C N) := tab_ok trivial
theorem sha_beginning_i : loopsOf sha_beginning_c = [] := by kernel_rfl
theorem sha_beginning_e (N : Nat) (x) : (sha_beginning_g N).F x = fnStep Γ (sha_beginning_C N) (sha_beginning_J N) 2 Try.f51.results.toList (sha_beginning_g N) sha_beginning_o sha_beginning_c x := by kernel_rfl
theorem sha_beginning_y : Try.f51.body = some sha_beginning_c := by kernel_rfl
theorem sha_beginning_n : (Try.f51.name == "runtime.NumGoroutine") = false := by kernel_rfl
theorem sha_beginning_ok (N : Nat) : FnDoes Try.prog 51 (sha_beginning_g N) := fn_ok tabOK (sha_beginning_t N) mixedOK (J := sha_beginning_J N) (body := sha_beginning_c) Try.func51 sha_beginning_y sha_beginning_n Try.ntmps51 (jok_from sha_beginning_i trivial) rfl rfl (le_of_ble rfl) (sha_beginning_e N)
noncomputable def sha_New_c : Code := codeOf Try.f32.body
noncomputable def sha_New_J (N : Nat) : Nat → Hint := fun cx => hintOf cx []
noncomputable def sha_New_C (N : Nat) : Nat → List GS := fun k => tabOf k [(51, [sha_beginning_g N])]
def sha_New_o : List (Shp × List Nat) := [(⟨[(0, (.av (.one (.const (.ptr ⟨0, 0, 0, 0⟩)))))], [(.sh (.arr (.int .u32) (some 8)), true), (.sh (.one (.const (.int .u64 (0 : Int)))), true), (.sh (.one (.const .nils)), false)]⟩, [])]
noncomputable def sha_New_g (N : Nat) : GS := { ins := ⟨[], []⟩, lend := [], outs := sha_New_o.map fun s => ssOf s.1, its := [], ots := [[.lst (.int .u32)]], F := sha_New }
noncomputable def sha_New_CA (N : Nat) (f0 : Unit → Option ((List Int))) : Nat → List GS := fun k => tabOf k [(51, [{ sha_beginning_g N with F := f0 }])]
theorem sha_New_CE (N : Nat) : sha_New_CA N (sha_beginning) = sha_New_C N := by kernel_rfl
theorem sha_New_t (N : Nat) : TabC Try.prog (sha_New_C N) := tab_ok ⟨⟨sha_beginning_ok N, trivial⟩, trivial⟩
theorem sha_New_i : loopsOf sha_New_c = [] := by kernel_rfl
noncomputable def sha_New_a (N : Nat) (f0 : Unit → Option ((List Int))) (x : Unit) : Option ((List Int)) :=
  (Option.bind (f0 ()) fun r1 =>
  (some r1))
theorem sha_New_f (N : Nat) (f0 : Unit → Option ((List Int))) (x) : sha_New_a N f0 x = fnStep Γ (sha_New_CA N f0) (sha_New_J N) 4 Try.f32.results.toList (sha_New_g N) sha_New_o sha_New_c x := by kernel_rfl
theorem sha_New_e (N : Nat) (x) : (sha_New_g N).F x = fnStep Γ (sha_New_C N) (sha_New_J N) 4 Try.f32.results.toList (sha_New_g N) sha_New_o sha_New_c x := by
  rw [← sha_New_CE N]
  exact Eq.trans (by kernel_rfl) (sha_New_f N (sha_beginning) x)
theorem sha_New_y : Try.f32.body = some sha_New_c := by kernel_rfl
theorem sha_New_n : (Try.f32.name == "runtime.NumGoroutine") = false := by kernel_rfl
theorem sha_New_ok (N : Nat) : FnDoes Try.prog 32 (sha_New_g N) := fn_ok tabOK (sha_New_t N) mixedOK (J := sha_New_J N) (body := sha_New_c) Try.func32 sha_New_y sha_New_n Try.ntmps32 (jok_from sha_New_i trivial) rfl rfl (le_of_ble rfl) (sha_New_e N)
noncomputable def sha_turned_c : Code := codeOf Try.f57.body
noncomputable def sha_turned_J (N : Nat) : Nat → Hint := fun cx => hintOf cx []
noncomputable def sha_turned_C (N : Nat) : Nat → List GS := fun k => tabOf k []
def sha_turned_o : List (Shp × List Nat) := [(⟨[(0, (.av (.one (.int .u32))))], []⟩, [])]
noncomputable def sha_turned_g (N : Nat) : GS := { ins := ⟨[(0, (.av (.one (.int .u32)))), (1, (.av (.one (.int .i64))))], []⟩, lend := [.keep, .keep], outs := sha_turned_o.map fun s => ssOf s.1, its := [.int, .int], ots := [[.int]], F := sha_turned }
theorem sha_turned_t (N : Nat) : TabC Try.prog (sha_turned_C N) := tab_ok trivial
theorem sha_turned_i : loopsOf sha_turned_c = [] := by kernel_rfl
theorem sha_turned_e (N : Nat) (x) : (sha_turned_g N).F x = fnStep Γ (sha_turned_C N) (sha_turned_J N) 13 Try.f57.results.toList (sha_turned_g N) sha_turned_o sha_turned_c x := by kernel_rfl
theorem sha_turned_y : Try.f57.body = some sha_turned_c := by kernel_rfl
theorem sha_turned_n : (Try.f57.name == "runtime.NumGoroutine") = false := by kernel_rfl
theorem sha_turned_ok (N : Nat) : FnDoes Try.prog 57 (sha_turned_g N) := fn_ok tabOK (sha_turned_t N) mixedOK (J := sha_turned_J N) (body := sha_turned_c) Try.func57 sha_turned_y sha_turned_n Try.ntmps57 (jok_from sha_turned_i trivial) rfl rfl (le_of_ble rfl) (sha_turned_e N)
noncomputable def sha_constants_c : Code := codeOf Try.f58.body
noncomputable def sha_constants_J (N : Nat) : Nat → Hint := fun cx => hintOf cx []
noncomputable def sha_constants_C (N : Nat) : Nat → List GS := fun k => tabOf k []
def sha_constants_o : List (Shp × List Nat) := [(⟨[(0, (.av (.agg [(.arr (.int .u32) (some 64))])))], []⟩, [])]
noncomputable def sha_constants_g (N : Nat) : GS := { ins := ⟨[], []⟩, lend := [], outs := sha_constants_o.map fun s => ssOf s.1, its := [], ots := [[.lst (.int .u32)]], F := sha_constants }
theorem sha_constants_t (N : Nat) : TabC Try.prog (sha_constants_C N) := tab_ok trivial
theorem sha_constants_i : loopsOf sha_constants_c = [] := by kernel_rfl
theorem sha_constants_e (N : Nat) (x) : (sha_constants_g N).F x = fnStep Γ (sha_constants_C N) (sha_constants_J N) 2 Try.f58.results.toList (sha_constants_g N) sha_constants_o sha_constants_c x := by kernel_rfl
theorem sha_constants_y : Try.f58.body = some sha_constants_c := by kernel_rfl
theorem sha_constants_n : (Try.f58.name == "runtime.NumGoroutine") = false := by kernel_rfl
theorem sha_constants_ok (N : Nat) : FnDoes Try.prog 58 (sha_constants_g N) := fn_ok tabOK (sha_constants_t N) mixedOK (J := sha_constants_J N) (body := sha_constants_c) Try.func58 sha_constants_y sha_constants_n Try.ntmps58 (jok_from sha_constants_i trivial) rfl rfl (le_of_ble rfl) (sha_constants_e N)
noncomputable def sha_Hash_round_c : Code := codeOf Try.f40.body
noncomputable def sha_Hash_round_c0 : Code := codeOf (getLoop 0 sha_Hash_round_c)
noncomputable def sha_Hash_round_c2 : Code := codeOf (getLoop 2 sha_Hash_round_c)
noncomputable def sha_Hash_round_c4 : Code := codeOf (getLoop 4 sha_Hash_round_c)
noncomputable def sha_Hash_round_c6 : Code := codeOf (getLoop 6 sha_Hash_round_c)
def sha_Hash_round_d0 : LD := { ins := ⟨[(0, (.av (.one (.const (.ptr ⟨0, 0, 0, 0⟩))))), (1, (.av (.one (.rsl (.int .u8))))), (4, (.av (.one (.const (.ptr ⟨3, 0, 0, 0⟩))))), (18, (.av (.one (.int .i64))))], [(.keep, false), (.keep, false), (.keep, false), (.sh (.arr (.int .u32) (some 64)), false)]⟩, mov := [], wr := [3], outs := [(.exit 0, ⟨[], [(.keep, false), (.keep, false), (.keep, false), (.sh (.arr (.int .u32) (some 64)), false)]⟩)], its := [.lst (.int .u8), .int, .lst (.int .u32)], ots := [[.lst (.int .u32)]] }
def sha_Hash_round_d2 : LD := { ins := ⟨[(0, (.av (.one (.const (.ptr ⟨0, 0, 0, 0⟩))))), (4, (.av (.one (.const (.ptr ⟨3, 0, 0, 0⟩))))), (6, (.av (.one (.int .i64))))], [(.keep, false), (.keep, false), (.keep, false), (.sh (.arr (.int .u32) (some 64)), false)]⟩, mov := [], wr := [3], outs := [(.exit 2, ⟨[], [(.keep, false), (.keep, false), (.keep, false), (.sh (.arr (.int .u32) (some 64)), false)]⟩)], its := [.int, .lst (.int .u32)], ots := [[.lst (.int .u32)]] }
def sha_Hash_round_d4 : LD := { ins := ⟨[(0, (.av (.one (.const (.ptr ⟨0, 0, 0, 0⟩))))), (4, (.av (.one (.const (.ptr ⟨3, 0, 0, 0⟩))))), (9, (.av (.one (.const (.ptr ⟨4, 0, 0, 0⟩))))), (102, (.av (.agg [(.arr (.int .u32) (some 64))]))), (103, (.av (.one (.int .i64))))], [(.keep, false), (.keep, false), (.keep, false), (.sh (.arr (.int .u32) (some 64)), false), (.sh (.arr (.int .u32) (some 8)), false)]⟩, mov := [], wr := [3, 4], outs := [(.exit 4, ⟨[], [(.keep, false), (.keep, false), (.keep, false), (.sh (.arr (.int .u32) (some 64)), false), (.sh (.arr (.int .u32) (some 8)), false)]⟩)], its := [.lst (.int .u32), .int, .lst (.int .u32), .lst (.int .u32)], ots := [[.lst (.int .u32), .lst (.int .u32)]] }
def sha_Hash_round_d6 : LD := { ins := ⟨[(0, (.av (.one (.const (.ptr ⟨0, 0, 0, 0⟩))))), (176, (.av (.agg [(.arr (.int .u32) (some 8))]))), (177, (.av (.one (.int .i64))))], [(.sh (.arr (.int .u32) (some 8)), true), (.keep, false), (.keep, false), (.keep, false), (.keep, false)]⟩, mov := [], wr := [0], outs := [(.exit 6, ⟨[], [(.sh (.arr (.int .u32) (some 8)), true), (.keep, false), (.keep, false), (.keep, false), (.keep, false)]⟩)], its := [.lst (.int .u32), .int, .lst (.int .u32)], ots := [[.lst (.int .u32)]] }
noncomputable def sha_Hash_round_J (N : Nat) : Nat → Hint := fun cx => hintOf cx [(0, { reg := fun k => assoc0 k [], cnd := fun k => assoc0 k [], loop := fun k => assoc0 k [(0, ⟨sha_Hash_round_d0, loopF (sha_Hash_round_b0 N) N⟩), (2, ⟨sha_Hash_round_d2, loopF (sha_Hash_round_b2 N) N⟩), (4, ⟨sha_Hash_round_d4, loopF (sha_Hash_round_b4 N) N⟩), (6, ⟨sha_Hash_round_d6, loopF (sha_Hash_round_b6 N) N⟩)], nil := fun k => assoc0 k [], unr := fun k => assocN k [], blk := fun k => assoc0 k [] })]
noncomputable def sha_Hash_round_C (N : Nat) : Nat → List GS := fun k => tabOf k [(57, [sha_turned_g N]), (58, [sha_constants_g N])]
def sha_Hash_round_o : List (Shp × List Nat) := [(⟨[(0, (.tup []))], [(.sh (.arr (.int .u32) (some 8)), true), (.sh (.one (.int .u64)), true), (.sh (.one (.const .nils)), false)]⟩, [])]
noncomputable def sha_Hash_round_g (N : Nat) : GS := { ins := ⟨[(0, (.av (.one (.const (.ptr ⟨0, 0, 0, 0⟩))))), (1, (.av (.one (.rsl (.int .u8)))))], [(some (.arr (.int .u32) (some 8)), true), (some (.one (.int .u64)), true), (some (.one (.const .nils)), false)]⟩, lend := [.keep, .lend (.int .u8)], outs := sha_Hash_round_o.map fun s => ssOf s.1, its := [.lst (.int .u8), .lst (.int .u32), .int], ots := [[.lst (.int .u32), .int]], F := sha_Hash_round N }
noncomputable def sha_Hash_round_CA (N : Nat) (f0 : Int × Int → Option (Int)) (f1 : Unit → Option ((List Int))) : Nat → List GS := fun k => tabOf k [(57, [{ sha_turned_g N with F := f0 }]), (58, [{ sha_constants_g N with F := f1 }])]
theorem sha_Hash_round_CE (N : Nat) : sha_Hash_round_CA N (sha_turned) (sha_constants) = sha_Hash_round_C N := by kernel_rfl
theorem sha_Hash_round_t (N : Nat) : TabC Try.prog (sha_Hash_round_C N) := tab_ok ⟨⟨sha_turned_ok N, trivial⟩, ⟨sha_constants_ok N, trivial⟩, trivial⟩
theorem sha_Hash_round_i0 : loopsOf sha_Hash_round_c0 = [] := by kernel_rfl
noncomputable def sha_Hash_round_a0 (N : Nat) (f0 : Int × Int → Option (Int)) (f1 : Unit → Option ((List Int))) (next : (List Int) × Int × (List Int) → Option (((List Int)))) (x : (List Int) × Int × (List Int)) : Option (((List Int))) :=
  (cond (decide (x.2.1 < (16 : Int)))
  (let v2 : Int := (wrapF .i64 ((4 : Int) * x.2.1))
  (cond ((decide ((0 : Int) ≤ v2)) && (decide (v2 < (((List.length x.1) : Nat) : Int))))
  ((let v7 : Int := (wrapF .i64 ((wrapF .i64 ((4 : Int) * x.2.1)) + (1 : Int)))
  (cond ((decide ((0 : Int) ≤ v7)) && (decide (v7 < (((List.length x.1) : Nat) : Int))))
  ((let v13 : Int := (wrapF .i64 ((wrapF .i64 ((4 : Int) * x.2.1)) + (2 : Int)))
  (cond ((decide ((0 : Int) ≤ v13)) && (decide (v13 < (((List.length x.1) : Nat) : Int))))
  ((let v19 : Int := (wrapF .i64 ((wrapF .i64 ((4 : Int) * x.2.1)) + (3 : Int)))
  (cond ((decide ((0 : Int) ≤ v19)) && (decide (v19 < (((List.length x.1) : Nat) : Int))))
  ((cond ((decide ((0 : Int) ≤ x.2.1)) && (decide (x.2.1 < (64 : Int))))
  ((let v23 : Nat := (Int.toNat x.2.1)
  (cond (decide (v23 < (List.length x.2.2)))
  ((next (x.1, (wrapF .i64 (x.2.1 + (1 : Int))), (List.set x.2.2 v23 (orF .u32 (orF .u32 (orF .u32 (shlF .u32 (wrapF .u32 (List.getD x.1 (Int.toNat v2) (EK.dflt (.int .u8)))) (24 : Int)) (shlF .u32 (wrapF .u32 (List.getD x.1 (Int.toNat v7) (EK.dflt (.int .u8)))) (16 : Int))) (shlF .u32 (wrapF .u32 (List.getD x.1 (Int.toNat v13) (EK.dflt (.int .u8)))) (8 : Int))) (wrapF .u32 (List.getD x.1 (Int.toNat v19) (EK.dflt (.int .u8)))))))))
  none)))
  none))
  none)))
  none)))
  none)))
  none))
  (some x.2.2))
theorem sha_Hash_round_f0 (N : Nat) (f0 : Int × Int → Option (Int)) (f1 : Unit → Option ((List Int))) (next) (x) : sha_Hash_round_a0 N f0 f1 next x = loopStep Γ (sha_Hash_round_CA N f0 f1) (sha_Hash_round_J N) 0 193 sha_Hash_round_d0 sha_Hash_round_c0 next x := by kernel_rfl
theorem sha_Hash_round_e0 (N : Nat) (next) (x) : sha_Hash_round_b0 N next x = loopStep Γ (sha_Hash_round_C N) (sha_Hash_round_J N) 0 193 sha_Hash_round_d0 sha_Hash_round_c0 next x := by
  rw [← sha_Hash_round_CE N]
  exact Eq.trans (by kernel_rfl) (sha_Hash_round_f0 N (sha_turned) (sha_constants) next x)
theorem sha_Hash_round_k0 (N : Nat) : LoopOK Try.prog 193 sha_Hash_round_c0 ⟨sha_Hash_round_d0, loopF (sha_Hash_round_b0 N) N⟩ := loop_ok tabOK (sha_Hash_round_t N) mixedOK (J := sha_Hash_round_J N) (cx := 0) (body := sha_Hash_round_c0) (nt := 193) (l := sha_Hash_round_d0) (b := sha_Hash_round_b0 N) (jok_from sha_Hash_round_i0 ⟨trivial, trivial⟩) (sha_Hash_round_e0 N) N
theorem sha_Hash_round_i2 : loopsOf sha_Hash_round_c2 = [] := by kernel_rfl
noncomputable def sha_Hash_round_a2 (N : Nat) (f0 : Int × Int → Option (Int)) (f1 : Unit → Option ((List Int))) (next : Int × (List Int) → Option (((List Int)))) (x : Int × (List Int)) : Option (((List Int))) :=
  (cond (decide (x.1 < (64 : Int)))
  (let v2 : Int := (wrapF .i64 (x.1 - (15 : Int)))
  (cond ((decide ((0 : Int) ≤ v2)) && (decide (v2 < (64 : Int))))
  ((let v3 : Nat := (Int.toNat v2)
  (cond (decide (v3 < (List.length x.2)))
  ((let v4 : Int := (List.getD x.2 v3 (EK.dflt (.int .u32)))
  (let v5 : Int := (wrapF .i64 (x.1 - (2 : Int)))
  (cond ((decide ((0 : Int) ≤ v5)) && (decide (v5 < (64 : Int))))
  ((let v6 : Nat := (Int.toNat v5)
  (cond (decide (v6 < (List.length x.2)))
  ((let v7 : Int := (List.getD x.2 v6 (EK.dflt (.int .u32)))
  (let v8 : Int := (wrapF .i64 (x.1 - (16 : Int)))
  (cond ((decide ((0 : Int) ≤ v8)) && (decide (v8 < (64 : Int))))
  ((let v9 : Nat := (Int.toNat v8)
  (cond (decide (v9 < (List.length x.2)))
  ((Option.bind (f0 (v4, (7 : Int))) fun r11 =>
  (Option.bind (f0 (v4, (18 : Int))) fun r12 =>
  (let v17 : Int := (wrapF .i64 (x.1 - (7 : Int)))
  (cond ((decide ((0 : Int) ≤ v17)) && (decide (v17 < (64 : Int))))
  ((let v18 : Nat := (Int.toNat v17)
  (cond (decide (v18 < (List.length x.2)))
  ((Option.bind (f0 (v7, (17 : Int))) fun r21 =>
  (Option.bind (f0 (v7, (19 : Int))) fun r22 =>
  (cond ((decide ((0 : Int) ≤ x.1)) && (decide (x.1 < (64 : Int))))
  ((let v27 : Nat := (Int.toNat x.1)
  (cond (decide (v27 < (List.length x.2)))
  ((next ((wrapF .i64 (x.1 + (1 : Int))), (List.set x.2 v27 (wrapF .u32 ((wrapF .u32 ((wrapF .u32 ((List.getD x.2 v9 (EK.dflt (.int .u32))) + (xorF .u32 (xorF .u32 r11 r12) (shrF .u32 v4 (3 : Int))))) + (List.getD x.2 v18 (EK.dflt (.int .u32))))) + (xorF .u32 (xorF .u32 r21 r22) (shrF .u32 v7 (10 : Int)))))))))
  none)))
  none))))
  none)))
  none)))))
  none)))
  none))))
  none)))
  none))))
  none)))
  none))
  (some x.2))
theorem sha_Hash_round_f2 (N : Nat) (f0 : Int × Int → Option (Int)) (f1 : Unit → Option ((List Int))) (next) (x) : sha_Hash_round_a2 N f0 f1 next x = loopStep Γ (sha_Hash_round_CA N f0 f1) (sha_Hash_round_J N) 0 193 sha_Hash_round_d2 sha_Hash_round_c2 next x := by kernel_rfl
theorem sha_Hash_round_e2 (N : Nat) (next) (x) : sha_Hash_round_b2 N next x = loopStep Γ (sha_Hash_round_C N) (sha_Hash_round_J N) 0 193 sha_Hash_round_d2 sha_Hash_round_c2 next x := by
  rw [← sha_Hash_round_CE N]
  exact Eq.trans (by kernel_rfl) (sha_Hash_round_f2 N (sha_turned) (sha_constants) next x)
theorem sha_Hash_round_k2 (N : Nat) : LoopOK Try.prog 193 sha_Hash_round_c2 ⟨sha_Hash_round_d2, loopF (sha_Hash_round_b2 N) N⟩ := loop_ok tabOK (sha_Hash_round_t N) mixedOK (J := sha_Hash_round_J N) (cx := 0) (body := sha_Hash_round_c2) (nt := 193) (l := sha_Hash_round_d2) (b := sha_Hash_round_b2 N) (jok_from sha_Hash_round_i2 ⟨trivial, trivial⟩) (sha_Hash_round_e2 N) N
theorem sha_Hash_round_i4 : loopsOf sha_Hash_round_c4 = [] := by kernel_rfl
noncomputable def sha_Hash_round_a4 (N : Nat) (f0 : Int × Int → Option (Int)) (f1 : Unit → Option ((List Int))) (next : (List Int) × Int × (List Int) × (List Int) → Option (((List Int) × (List Int)))) (x : (List Int) × Int × (List Int) × (List Int)) : Option (((List Int) × (List Int))) :=
  (cond (decide (x.2.1 < (64 : Int)))
  (cond ((decide ((0 : Int) ≤ x.2.1)) && (decide (x.2.1 < (64 : Int))))
  ((cond (decide (0 < (List.length x.2.2.2)))
  ((let v3 : Int := (List.getD x.2.2.2 0 (EK.dflt (.int .u32)))
  (cond (decide (4 < (List.length x.2.2.2)))
  ((let v4 : Int := (List.getD x.2.2.2 4 (EK.dflt (.int .u32)))
  (cond (decide (7 < (List.length x.2.2.2)))
  ((Option.bind (f0 (v4, (6 : Int))) fun r6 =>
  (Option.bind (f0 (v4, (11 : Int))) fun r7 =>
  (Option.bind (f0 (v4, (25 : Int))) fun r9 =>
  (cond (decide (5 < (List.length x.2.2.2)))
  ((cond (decide (6 < (List.length x.2.2.2)))
  ((cond ((decide ((0 : Int) ≤ x.2.1)) && (decide (x.2.1 < (64 : Int))))
  ((let v20 : Nat := (Int.toNat x.2.1)
  (cond (decide (v20 < (List.length x.2.2.1)))
  ((let v22 : Int := (wrapF .u32 ((wrapF .u32 ((wrapF .u32 ((wrapF .u32 ((List.getD x.2.2.2 7 (EK.dflt (.int .u32))) + (xorF .u32 (xorF .u32 r6 r7) r9))) + (xorF .u32 (andF .u32 v4 (List.getD x.2.2.2 5 (EK.dflt (.int .u32)))) (andF .u32 (xorF .u32 (4294967295 : Int) v4) (List.getD x.2.2.2 6 (EK.dflt (.int .u32))))))) + (List.getD x.1 (Int.toNat x.2.1) (EK.dflt (.int .u32))))) + (List.getD x.2.2.1 v20 (EK.dflt (.int .u32)))))
  (Option.bind (f0 (v3, (2 : Int))) fun r23 =>
  (Option.bind (f0 (v3, (13 : Int))) fun r24 =>
  (Option.bind (f0 (v3, (22 : Int))) fun r26 =>
  (cond (decide (1 < (List.length x.2.2.2)))
  ((cond (decide (2 < (List.length x.2.2.2)))
  ((cond (decide (1 < (List.length x.2.2.2)))
  ((cond (decide (2 < (List.length x.2.2.2)))
  ((cond ((decide (7 ≤ (List.length x.2.2.2))) && (decide (8 ≤ (List.length x.2.2.2))))
  ((let v39 : List Int := (List.take 1 x.2.2.2 ++ List.take (min (List.length (List.take 7 (List.drop 0 x.2.2.2))) 7) (List.take 7 (List.drop 0 x.2.2.2)) ++ List.drop (1 + (min (List.length (List.take 7 (List.drop 0 x.2.2.2))) 7)) x.2.2.2)
  (cond (decide (4 < (List.length v39)))
  ((cond (decide (4 < (List.length v39)))
  ((let v42 : List Int := (List.set v39 4 (wrapF .u32 ((List.getD v39 4 (EK.dflt (.int .u32))) + v22)))
  (cond (decide (0 < (List.length v42)))
  ((next (x.1, (wrapF .i64 (x.2.1 + (1 : Int))), x.2.2.1, (List.set v42 0 (wrapF .u32 (v22 + (wrapF .u32 ((xorF .u32 (xorF .u32 r23 r24) r26) + (xorF .u32 (xorF .u32 (andF .u32 v3 (List.getD x.2.2.2 1 (EK.dflt (.int .u32)))) (andF .u32 v3 (List.getD x.2.2.2 2 (EK.dflt (.int .u32))))) (andF .u32 (List.getD x.2.2.2 1 (EK.dflt (.int .u32))) (List.getD x.2.2.2 2 (EK.dflt (.int .u32)))))))))))))
  none)))
  none))
  none)))
  none))
  none))
  none))
  none))
  none))))))
  none)))
  none))
  none))
  none)))))
  none)))
  none)))
  none))
  none)
  (some (x.2.2.1, x.2.2.2)))
theorem sha_Hash_round_f4 (N : Nat) (f0 : Int × Int → Option (Int)) (f1 : Unit → Option ((List Int))) (next) (x) : sha_Hash_round_a4 N f0 f1 next x = loopStep Γ (sha_Hash_round_CA N f0 f1) (sha_Hash_round_J N) 0 193 sha_Hash_round_d4 sha_Hash_round_c4 next x := by kernel_rfl
theorem sha_Hash_round_e4 (N : Nat) (next) (x) : sha_Hash_round_b4 N next x = loopStep Γ (sha_Hash_round_C N) (sha_Hash_round_J N) 0 193 sha_Hash_round_d4 sha_Hash_round_c4 next x := by
  rw [← sha_Hash_round_CE N]
  exact Eq.trans (by kernel_rfl) (sha_Hash_round_f4 N (sha_turned) (sha_constants) next x)
theorem sha_Hash_round_k4 (N : Nat) : LoopOK Try.prog 193 sha_Hash_round_c4 ⟨sha_Hash_round_d4, loopF (sha_Hash_round_b4 N) N⟩ := loop_ok tabOK (sha_Hash_round_t N) mixedOK (J := sha_Hash_round_J N) (cx := 0) (body := sha_Hash_round_c4) (nt := 193) (l := sha_Hash_round_d4) (b := sha_Hash_round_b4 N) (jok_from sha_Hash_round_i4 ⟨trivial, trivial⟩) (sha_Hash_round_e4 N) N
theorem sha_Hash_round_i6 : loopsOf sha_Hash_round_c6 = [] := by kernel_rfl
noncomputable def sha_Hash_round_a6 (N : Nat) (f0 : Int × Int → Option (Int)) (f1 : Unit → Option ((List Int))) (next : (List Int) × Int × (List Int) → Option (((List Int)))) (x : (List Int) × Int × (List Int)) : Option (((List Int))) :=
  (cond (decide (x.2.1 < (8 : Int)))
  (cond ((decide ((0 : Int) ≤ x.2.1)) && (decide (x.2.1 < (8 : Int))))
  ((cond ((decide ((0 : Int) ≤ x.2.1)) && (decide (x.2.1 < (8 : Int))))
  ((let v3 : Nat := (Int.toNat x.2.1)
  (cond (decide (v3 < (List.length x.2.2)))
  ((cond ((decide ((0 : Int) ≤ x.2.1)) && (decide (x.2.1 < (8 : Int))))
  ((let v6 : Nat := (Int.toNat x.2.1)
  (cond (decide (v6 < (List.length x.2.2)))
  ((next (x.1, (wrapF .i64 (x.2.1 + (1 : Int))), (List.set x.2.2 v6 (wrapF .u32 ((List.getD x.2.2 v3 (EK.dflt (.int .u32))) + (List.getD x.1 (Int.toNat x.2.1) (EK.dflt (.int .u32)))))))))
  none)))
  none))
  none)))
  none))
  none)
  (some x.2.2))
theorem sha_Hash_round_f6 (N : Nat) (f0 : Int × Int → Option (Int)) (f1 : Unit → Option ((List Int))) (next) (x) : sha_Hash_round_a6 N f0 f1 next x = loopStep Γ (sha_Hash_round_CA N f0 f1) (sha_Hash_round_J N) 0 193 sha_Hash_round_d6 sha_Hash_round_c6 next x := by kernel_rfl
theorem sha_Hash_round_e6 (N : Nat) (next) (x) : sha_Hash_round_b6 N next x = loopStep Γ (sha_Hash_round_C N) (sha_Hash_round_J N) 0 193 sha_Hash_round_d6 sha_Hash_round_c6 next x := by
  rw [← sha_Hash_round_CE N]
  exact Eq.trans (by kernel_rfl) (sha_Hash_round_f6 N (sha_turned) (sha_constants) next x)
theorem sha_Hash_round_k6 (N : Nat) : LoopOK Try.prog 193 sha_Hash_round_c6 ⟨sha_Hash_round_d6, loopF (sha_Hash_round_b6 N) N⟩ := loop_ok tabOK (sha_Hash_round_t N) mixedOK (J := sha_Hash_round_J N) (cx := 0) (body := sha_Hash_round_c6) (nt := 193) (l := sha_Hash_round_d6) (b := sha_Hash_round_b6 N) (jok_from sha_Hash_round_i6 ⟨trivial, trivial⟩) (sha_Hash_round_e6 N) N
theorem sha_Hash_round_i : loopsOf sha_Hash_round_c = [(0, sha_Hash_round_c0), (2, sha_Hash_round_c2), (4, sha_Hash_round_c4), (6, sha_Hash_round_c6)] := by kernel_rfl
noncomputable def sha_Hash_round_a (N : Nat) (f0 : Int × Int → Option (Int)) (f1 : Unit → Option ((List Int))) (x : (List Int) × (List Int) × Int) : Option ((List Int) × Int) :=
  (Option.bind (sha_Hash_round_l0 N (x.1, (0 : Int), (List.replicate 64 (EK.dflt (.int .u32))))) fun r2 =>
  (Option.bind (sha_Hash_round_l2 N ((16 : Int), r2)) fun r3 =>
  (Option.bind (f1 ()) fun r5 =>
  (Option.bind (sha_Hash_round_l4 N (r5, (0 : Int), r3, x.2.1)) fun r6 =>
  (Option.bind (sha_Hash_round_l6 N (r6.2, (0 : Int), x.2.1)) fun r7 =>
  (some (r7, x.2.2)))))))
theorem sha_Hash_round_f (N : Nat) (f0 : Int × Int → Option (Int)) (f1 : Unit → Option ((List Int))) (x) : sha_Hash_round_a N f0 f1 x = fnStep Γ (sha_Hash_round_CA N f0 f1) (sha_Hash_round_J N) 193 Try.f40.results.toList (sha_Hash_round_g N) sha_Hash_round_o sha_Hash_round_c x := by kernel_rfl
theorem sha_Hash_round_e (N : Nat) (x) : (sha_Hash_round_g N).F x = fnStep Γ (sha_Hash_round_C N) (sha_Hash_round_J N) 193 Try.f40.results.toList (sha_Hash_round_g N) sha_Hash_round_o sha_Hash_round_c x := by
  rw [← sha_Hash_round_CE N]
  exact Eq.trans (by kernel_rfl) (sha_Hash_round_f N (sha_turned) (sha_constants) x)
theorem sha_Hash_round_y : Try.f40.body = some sha_Hash_round_c := by kernel_rfl
theorem sha_Hash_round_n : (Try.f40.name == "runtime.NumGoroutine") = false := by kernel_rfl
theorem sha_Hash_round_ok (N : Nat) : FnDoes Try.prog 40 (sha_Hash_round_g N) := fn_ok tabOK (sha_Hash_round_t N) mixedOK (J := sha_Hash_round_J N) (body := sha_Hash_round_c) Try.func40 sha_Hash_round_y sha_Hash_round_n Try.ntmps40 (jok_from sha_Hash_round_i ⟨⟨.inr ⟨_, rfl, sha_Hash_round_k0 N⟩, .inr ⟨_, rfl, sha_Hash_round_k2 N⟩, .inr ⟨_, rfl, sha_Hash_round_k4 N⟩, .inr ⟨_, rfl, sha_Hash_round_k6 N⟩, trivial⟩, trivial⟩) rfl rfl (le_of_ble rfl) (sha_Hash_round_e N)
noncomputable def slices_Clone_byte_byte_c : Code := codeOf Try.f41.body
noncomputable def slices_Clone_byte_byte_J (N : Nat) : Nat → Hint := fun cx => hintOf cx []
noncomputable def slices_Clone_byte_byte_C (N : Nat) : Nat → List GS := fun k => tabOf k []
def slices_Clone_byte_byte_o : List (Shp × List Nat) := [(⟨[(0, (.av (.one (.const (.slw 0 1)))))], [(.sh (.arr (.int .u8) none), false)]⟩, [])]
noncomputable def slices_Clone_byte_byte_g (N : Nat) : GS := { ins := ⟨[(0, (.av (.one (.rsl (.int .u8)))))], []⟩, lend := [.lend (.int .u8)], outs := slices_Clone_byte_byte_o.map fun s => ssOf s.1, its := [.lst (.int .u8)], ots := [[.lst (.int .u8)]], F := slices_Clone_byte_byte }
theorem slices_Clone_byte_byte_t (N : Nat) : TabC Try.prog (slices_Clone_byte_byte_C N) := tab_ok trivial
theorem slices_Clone_byte_byte_i : loopsOf slices_Clone_byte_byte_c = [] := by kernel_rfl
theorem slices_Clone_byte_byte_e (N : Nat) (x) : (slices_Clone_byte_byte_g N).F x = fnStep Γ (slices_Clone_byte_byte_C N) (slices_Clone_byte_byte_J N) 8 Try.f41.results.toList (slices_Clone_byte_byte_g N) slices_Clone_byte_byte_o slices_Clone_byte_byte_c x := by kernel_rfl
theorem slices_Clone_byte_byte_y : Try.f41.body = some slices_Clone_byte_byte_c := by kernel_rfl
theorem slices_Clone_byte_byte_n : (Try.f41.name == "runtime.NumGoroutine") = false := by kernel_rfl
theorem slices_Clone_byte_byte_ok (N : Nat) : FnDoes Try.prog 41 (slices_Clone_byte_byte_g N) := fn_ok tabOK (slices_Clone_byte_byte_t N) mixedOK (J := slices_Clone_byte_byte_J N) (body := slices_Clone_byte_byte_c) Try.func41 slices_Clone_byte_byte_y slices_Clone_byte_byte_n Try.ntmps41 (jok_from slices_Clone_byte_byte_i trivial) rfl rfl (le_of_ble rfl) (slices_Clone_byte_byte_e N)
noncomputable def sha_Hash_Write_c : Code := codeOf Try.f21.body
noncomputable def sha_Hash_Write_c0 : Code := codeOf (getLoop 0 sha_Hash_Write_c)
def sha_Hash_Write_d0 : LD := { ins := ⟨[(0, (.av (.one (.const (.ptr ⟨0, 0, 0, 0⟩))))), (4, (.av (.one (.sl 3 1))))], [(.sh (.arr (.int .u32) (some 8)), true), (.sh (.one (.int .u64)), true), (.sh (.one (.const .nils)), false), (.sh (.arr (.int .u8) none), false)]⟩, mov := [], wr := [0, 1, 2, 3], outs := [(.exit 0, ⟨[(4, (.av (.one (.sl 3 1))))], [(.sh (.arr (.int .u32) (some 8)), true), (.sh (.one (.int .u64)), true), (.sh (.one (.const .nils)), false), (.sh (.arr (.int .u8) none), false)]⟩)], its := [.nat, .nat, .lst (.int .u32), .int, .lst (.int .u8)], ots := [[.nat, .nat, .lst (.int .u32), .int, .lst (.int .u8)]] }
noncomputable def sha_Hash_Write_J (N : Nat) : Nat → Hint := fun cx => hintOf cx [(0, { reg := fun k => assoc0 k [], cnd := fun k => assoc0 k [], loop := fun k => assoc0 k [(0, ⟨sha_Hash_Write_d0, loopF (sha_Hash_Write_b0 N) N⟩)], nil := fun k => assoc0 k [], unr := fun k => assocN k [], blk := fun k => assoc0 k [] })]
noncomputable def sha_Hash_Write_C (N : Nat) : Nat → List GS := fun k => tabOf k [(40, [sha_Hash_round_g N]), (41, [slices_Clone_byte_byte_g N])]
def sha_Hash_Write_o : List (Shp × List Nat) := [(⟨[(0, (.tup []))], [(.sh (.arr (.int .u32) (some 8)), true), (.sh (.one (.int .u64)), true), (.sh (.one (.const (.slw 3 1))), false), (.sh (.arr (.int .u8) none), false)]⟩, [])]
noncomputable def sha_Hash_Write_g (N : Nat) : GS := { ins := ⟨[(0, (.av (.one (.const (.ptr ⟨0, 0, 0, 0⟩))))), (1, (.av (.one (.rsl (.int .u8)))))], [(some (.arr (.int .u32) (some 8)), true), (some (.one (.int .u64)), true), (some (.one (.const .nils)), false)]⟩, lend := [.keep, .keep], outs := sha_Hash_Write_o.map fun s => ssOf s.1, its := [.lst (.int .u8), .lst (.int .u32), .int], ots := [[.lst (.int .u32), .int, .lst (.int .u8)]], F := sha_Hash_Write N }
noncomputable def sha_Hash_Write_CA (N : Nat) (f0 : (List Int) × (List Int) × Int → Option ((List Int) × Int)) (f1 : (List Int) → Option ((List Int))) : Nat → List GS := fun k => tabOf k [(40, [{ sha_Hash_round_g N with F := f0 }]), (41, [{ slices_Clone_byte_byte_g N with F := f1 }])]
theorem sha_Hash_Write_CE (N : Nat) : sha_Hash_Write_CA N (sha_Hash_round N) (slices_Clone_byte_byte) = sha_Hash_Write_C N := by kernel_rfl
theorem sha_Hash_Write_t (N : Nat) : TabC Try.prog (sha_Hash_Write_C N) := tab_ok ⟨⟨sha_Hash_round_ok N, trivial⟩, ⟨slices_Clone_byte_byte_ok N, trivial⟩, trivial⟩
theorem sha_Hash_Write_i0 : loopsOf sha_Hash_Write_c0 = [] := by kernel_rfl
noncomputable def sha_Hash_Write_a0 (N : Nat) (f0 : (List Int) × (List Int) × Int → Option ((List Int) × Int)) (f1 : (List Int) → Option ((List Int))) (next : Nat × Nat × (List Int) × Int × (List Int) → Option ((Nat × Nat × (List Int) × Int × (List Int)))) (x : Nat × Nat × (List Int) × Int × (List Int)) : Option ((Nat × Nat × (List Int) × Int × (List Int))) :=
  (cond (decide ((64 : Int) ≤ ((x.2.1 : Nat) : Int)))
  (cond (decide ((64 : Int) ≤ ((x.2.1 : Nat) : Int)))
  ((let v3 : Nat := (0 + x.1)
  (cond (cond (decide ((v3 + 64) ≤ (List.length x.2.2.2.2))) true false)
  (Option.bind (f0 ((List.take 64 (List.drop v3 x.2.2.2.2)), x.2.2.1, x.2.2.2.1)) fun r4 =>
  (cond ((decide ((64 : Int) ≤ ((x.2.1 : Nat) : Int))) && (decide (((x.2.1 : Nat) : Int) ≤ ((x.2.1 : Nat) : Int))))
  ((next ((64 + x.1), (x.2.1 - 64), r4.1, r4.2, x.2.2.2.2)))
  none))
  none)))
  none)
  (some (x.1, x.2.1, x.2.2.1, x.2.2.2.1, x.2.2.2.2)))
theorem sha_Hash_Write_f0 (N : Nat) (f0 : (List Int) × (List Int) × Int → Option ((List Int) × Int)) (f1 : (List Int) → Option ((List Int))) (next) (x) : sha_Hash_Write_a0 N f0 f1 next x = loopStep Γ (sha_Hash_Write_CA N f0 f1) (sha_Hash_Write_J N) 0 37 sha_Hash_Write_d0 sha_Hash_Write_c0 next x := by kernel_rfl
theorem sha_Hash_Write_e0 (N : Nat) (next) (x) : sha_Hash_Write_b0 N next x = loopStep Γ (sha_Hash_Write_C N) (sha_Hash_Write_J N) 0 37 sha_Hash_Write_d0 sha_Hash_Write_c0 next x := by
  rw [← sha_Hash_Write_CE N]
  exact Eq.trans (by kernel_rfl) (sha_Hash_Write_f0 N (sha_Hash_round N) (slices_Clone_byte_byte) next x)
theorem sha_Hash_Write_k0 (N : Nat) : LoopOK Try.prog 37 sha_Hash_Write_c0 ⟨sha_Hash_Write_d0, loopF (sha_Hash_Write_b0 N) N⟩ := loop_ok tabOK (sha_Hash_Write_t N) mixedOK (J := sha_Hash_Write_J N) (cx := 0) (body := sha_Hash_Write_c0) (nt := 37) (l := sha_Hash_Write_d0) (b := sha_Hash_Write_b0 N) (jok_from sha_Hash_Write_i0 ⟨trivial, trivial⟩) (sha_Hash_Write_e0 N) N
theorem sha_Hash_Write_i : loopsOf sha_Hash_Write_c = [(0, sha_Hash_Write_c0)] := by kernel_rfl
noncomputable def sha_Hash_Write_a (N : Nat) (f0 : (List Int) × (List Int) × Int → Option ((List Int) × Int)) (f1 : (List Int) → Option ((List Int))) (x : (List Int) × (List Int) × Int) : Option ((List Int) × Int × (List Int)) :=
  (cond (fits 1 (List.length x.1))
  ((Option.bind (sha_Hash_Write_l0 N (0, (List.length x.1), x.2.1, (wrapF .u64 (x.2.2 + (wrapF .u64 (((List.length x.1) : Nat) : Int)))), x.1)) fun r4 =>
  (cond (cond (decide ((r4.1 + r4.2.1) ≤ (List.length r4.2.2.2.2))) true false)
  (Option.bind (f1 (List.take r4.2.1 (List.drop r4.1 r4.2.2.2.2))) fun r5 =>
  (some (r4.2.2.1, r4.2.2.2.1, r5)))
  none)))
  none)
theorem sha_Hash_Write_f (N : Nat) (f0 : (List Int) × (List Int) × Int → Option ((List Int) × Int)) (f1 : (List Int) → Option ((List Int))) (x) : sha_Hash_Write_a N f0 f1 x = fnStep Γ (sha_Hash_Write_CA N f0 f1) (sha_Hash_Write_J N) 37 Try.f21.results.toList (sha_Hash_Write_g N) sha_Hash_Write_o sha_Hash_Write_c x := by kernel_rfl
theorem sha_Hash_Write_e (N : Nat) (x) : (sha_Hash_Write_g N).F x = fnStep Γ (sha_Hash_Write_C N) (sha_Hash_Write_J N) 37 Try.f21.results.toList (sha_Hash_Write_g N) sha_Hash_Write_o sha_Hash_Write_c x := by
  rw [← sha_Hash_Write_CE N]
  exact Eq.trans (by kernel_rfl) (sha_Hash_Write_f N (sha_Hash_round N) (slices_Clone_byte_byte) x)
theorem sha_Hash_Write_y : Try.f21.body = some sha_Hash_Write_c := by kernel_rfl
theorem sha_Hash_Write_n : (Try.f21.name == "runtime.NumGoroutine") = false := by kernel_rfl
theorem sha_Hash_Write_ok (N : Nat) : FnDoes Try.prog 21 (sha_Hash_Write_g N) := fn_ok tabOK (sha_Hash_Write_t N) mixedOK (J := sha_Hash_Write_J N) (body := sha_Hash_Write_c) Try.func21 sha_Hash_Write_y sha_Hash_Write_n Try.ntmps21 (jok_from sha_Hash_Write_i ⟨⟨.inr ⟨_, rfl, sha_Hash_Write_k0 N⟩, trivial⟩, trivial⟩) rfl rfl (le_of_ble rfl) (sha_Hash_Write_e N)
noncomputable def octet_Lay_c : Code := codeOf Try.f59.body
noncomputable def octet_Lay_c0 : Code := codeOf (getLoop 0 octet_Lay_c)
def octet_Lay_d0 : LD := { ins := ⟨[(0, (.av (.one (.sl 0 1)))), (1, (.av (.one (.int .u64)))), (4, (.av (.one (.int .i64))))], [(.sh (.arr (.int .u8) none), false)]⟩, mov := [], wr := [0], outs := [(.exit 0, ⟨[], [(.sh (.arr (.int .u8) none), false)]⟩)], its := [.nat, .nat, .int, .int, .lst (.int .u8)], ots := [[.lst (.int .u8)]] }
noncomputable def octet_Lay_J (N : Nat) : Nat → Hint := fun cx => hintOf cx [(0, { reg := fun k => assoc0 k [], cnd := fun k => assoc0 k [], loop := fun k => assoc0 k [(0, ⟨octet_Lay_d0, loopF (octet_Lay_b0 N) N⟩)], nil := fun k => assoc0 k [], unr := fun k => assocN k [], blk := fun k => assoc0 k [] })]
noncomputable def octet_Lay_C (N : Nat) : Nat → List GS := fun k => tabOf k []
def octet_Lay_o : List (Shp × List Nat) := [(⟨[(0, (.tup []))], [(.sh (.arr (.int .u8) none), false)]⟩, [])]
noncomputable def octet_Lay_g (N : Nat) : GS := { ins := ⟨[(0, (.av (.one (.sl 0 1)))), (1, (.av (.one (.int .u64))))], [(some (.arr (.int .u8) none), false)]⟩, lend := [.keep, .keep], outs := octet_Lay_o.map fun s => ssOf s.1, its := [.nat, .nat, .int, .lst (.int .u8)], ots := [[.lst (.int .u8)]], F := octet_Lay N }
theorem octet_Lay_t (N : Nat) : TabC Try.prog (octet_Lay_C N) := tab_ok trivial
theorem octet_Lay_i0 : loopsOf octet_Lay_c0 = [] := by kernel_rfl
theorem octet_Lay_e0 (N : Nat) (next) (x) : octet_Lay_b0 N next x = loopStep Γ (octet_Lay_C N) (octet_Lay_J N) 0 19 octet_Lay_d0 octet_Lay_c0 next x := by kernel_rfl
theorem octet_Lay_k0 (N : Nat) : LoopOK Try.prog 19 octet_Lay_c0 ⟨octet_Lay_d0, loopF (octet_Lay_b0 N) N⟩ := loop_ok tabOK (octet_Lay_t N) mixedOK (J := octet_Lay_J N) (cx := 0) (body := octet_Lay_c0) (nt := 19) (l := octet_Lay_d0) (b := octet_Lay_b0 N) (jok_from octet_Lay_i0 ⟨trivial, trivial⟩) (octet_Lay_e0 N) N
theorem octet_Lay_i : loopsOf octet_Lay_c = [(0, octet_Lay_c0)] := by kernel_rfl
theorem octet_Lay_e (N : Nat) (x) : (octet_Lay_g N).F x = fnStep Γ (octet_Lay_C N) (octet_Lay_J N) 19 Try.f59.results.toList (octet_Lay_g N) octet_Lay_o octet_Lay_c x := by kernel_rfl
theorem octet_Lay_y : Try.f59.body = some octet_Lay_c := by kernel_rfl
theorem octet_Lay_n : (Try.f59.name == "runtime.NumGoroutine") = false := by kernel_rfl
theorem octet_Lay_ok (N : Nat) : FnDoes Try.prog 59 (octet_Lay_g N) := fn_ok tabOK (octet_Lay_t N) mixedOK (J := octet_Lay_J N) (body := octet_Lay_c) Try.func59 octet_Lay_y octet_Lay_n Try.ntmps59 (jok_from octet_Lay_i ⟨⟨.inr ⟨_, rfl, octet_Lay_k0 N⟩, trivial⟩, trivial⟩) rfl rfl (le_of_ble rfl) (octet_Lay_e N)
noncomputable def octet_Put_c : Code := codeOf Try.f42.body
noncomputable def octet_Put_J (N : Nat) : Nat → Hint := fun cx => hintOf cx []
noncomputable def octet_Put_C (N : Nat) : Nat → List GS := fun k => tabOf k [(59, [octet_Lay_g N])]
def octet_Put_o : List (Shp × List Nat) := [(⟨[(0, (.av (.one (.const (.slw 1 1)))))], [(.dead, false), (.sh (.arr (.int .u8) none), false)]⟩, [])]
noncomputable def octet_Put_g (N : Nat) : GS := { ins := ⟨[(0, (.av (.one (.sl 0 1)))), (1, (.av (.one (.int .u64)))), (2, (.av (.one (.int .i64))))], [(some (.arr (.int .u8) none), false)]⟩, lend := [.keep, .keep, .keep], outs := octet_Put_o.map fun s => ssOf s.1, its := [.nat, .nat, .int, .int, .lst (.int .u8)], ots := [[.lst (.int .u8)]], F := octet_Put N }
noncomputable def octet_Put_CA (N : Nat) (f0 : Nat × Nat × Int × (List Int) → Option ((List Int))) : Nat → List GS := fun k => tabOf k [(59, [{ octet_Lay_g N with F := f0 }])]
theorem octet_Put_CE (N : Nat) : octet_Put_CA N (octet_Lay N) = octet_Put_C N := by kernel_rfl
theorem octet_Put_t (N : Nat) : TabC Try.prog (octet_Put_C N) := tab_ok ⟨⟨octet_Lay_ok N, trivial⟩, trivial⟩
theorem octet_Put_i : loopsOf octet_Put_c = [] := by kernel_rfl
noncomputable def octet_Put_a (N : Nat) (f0 : Nat × Nat × Int × (List Int) → Option ((List Int))) (x : Nat × Nat × Int × Int × (List Int)) : Option ((List Int)) :=
  (cond ((((decide ((0 : Int) ≤ x.2.2.2.1)) && (fits 1 (Int.toNat x.2.2.2.1))) && (decide (x.1 + x.2.1 = (List.length x.2.2.2.2)))) && (fits 1 (x.2.1 + (List.length (List.replicate (Int.toNat x.2.2.2.1) (EK.dflt (.int .u8)))))))
  ((let v1 : List Int := (List.drop x.1 x.2.2.2.2 ++ (List.replicate (Int.toNat x.2.2.2.1) (EK.dflt (.int .u8))))
  (let v3 : Int := (wrapF .i64 ((((List.length v1) : Nat) : Int) - x.2.2.2.1))
  (cond (((decide ((0 : Int) ≤ v3)) && (decide (v3 ≤ (((List.length v1) : Nat) : Int)))) && (decide ((((List.length v1) : Nat) : Int) ≤ (((List.length v1) : Nat) : Int))))
  ((Option.bind (f0 ((Int.toNat v3), ((List.length v1) - (Int.toNat v3)), x.2.2.1, v1)) fun r6 =>
  (some r6)))
  none))))
  none)
theorem octet_Put_f (N : Nat) (f0 : Nat × Nat × Int × (List Int) → Option ((List Int))) (x) : octet_Put_a N f0 x = fnStep Γ (octet_Put_CA N f0) (octet_Put_J N) 19 Try.f42.results.toList (octet_Put_g N) octet_Put_o octet_Put_c x := by kernel_rfl
theorem octet_Put_e (N : Nat) (x) : (octet_Put_g N).F x = fnStep Γ (octet_Put_C N) (octet_Put_J N) 19 Try.f42.results.toList (octet_Put_g N) octet_Put_o octet_Put_c x := by
  rw [← octet_Put_CE N]
  exact Eq.trans (by kernel_rfl) (octet_Put_f N (octet_Lay N) x)
theorem octet_Put_y : Try.f42.body = some octet_Put_c := by kernel_rfl
theorem octet_Put_n : (Try.f42.name == "runtime.NumGoroutine") = false := by kernel_rfl
theorem octet_Put_ok (N : Nat) : FnDoes Try.prog 42 (octet_Put_g N) := fn_ok tabOK (octet_Put_t N) mixedOK (J := octet_Put_J N) (body := octet_Put_c) Try.func42 octet_Put_y octet_Put_n Try.ntmps42 (jok_from octet_Put_i trivial) rfl rfl (le_of_ble rfl) (octet_Put_e N)
noncomputable def sha_Hash_round_v1_c : Code := codeOf Try.f40.body
noncomputable def sha_Hash_round_v1_c0 : Code := codeOf (getLoop 0 sha_Hash_round_v1_c)
noncomputable def sha_Hash_round_v1_c2 : Code := codeOf (getLoop 2 sha_Hash_round_v1_c)
noncomputable def sha_Hash_round_v1_c4 : Code := codeOf (getLoop 4 sha_Hash_round_v1_c)
noncomputable def sha_Hash_round_v1_c6 : Code := codeOf (getLoop 6 sha_Hash_round_v1_c)
def sha_Hash_round_v1_d0 : LD := { ins := ⟨[(0, (.av (.one (.const (.ptr ⟨0, 0, 0, 0⟩))))), (1, (.av (.one (.rsl (.int .u8))))), (4, (.av (.one (.const (.ptr ⟨3, 0, 0, 0⟩))))), (18, (.av (.one (.int .i64))))], [(.keep, false), (.keep, false), (.keep, false), (.sh (.arr (.int .u32) (some 64)), false)]⟩, mov := [], wr := [3], outs := [(.exit 0, ⟨[], [(.keep, false), (.keep, false), (.keep, false), (.sh (.arr (.int .u32) (some 64)), false)]⟩)], its := [.lst (.int .u8), .int, .lst (.int .u32)], ots := [[.lst (.int .u32)]] }
def sha_Hash_round_v1_d2 : LD := { ins := ⟨[(0, (.av (.one (.const (.ptr ⟨0, 0, 0, 0⟩))))), (4, (.av (.one (.const (.ptr ⟨3, 0, 0, 0⟩))))), (6, (.av (.one (.int .i64))))], [(.keep, false), (.keep, false), (.keep, false), (.sh (.arr (.int .u32) (some 64)), false)]⟩, mov := [], wr := [3], outs := [(.exit 2, ⟨[], [(.keep, false), (.keep, false), (.keep, false), (.sh (.arr (.int .u32) (some 64)), false)]⟩)], its := [.int, .lst (.int .u32)], ots := [[.lst (.int .u32)]] }
def sha_Hash_round_v1_d4 : LD := { ins := ⟨[(0, (.av (.one (.const (.ptr ⟨0, 0, 0, 0⟩))))), (4, (.av (.one (.const (.ptr ⟨3, 0, 0, 0⟩))))), (9, (.av (.one (.const (.ptr ⟨4, 0, 0, 0⟩))))), (102, (.av (.agg [(.arr (.int .u32) (some 64))]))), (103, (.av (.one (.int .i64))))], [(.keep, false), (.keep, false), (.keep, false), (.sh (.arr (.int .u32) (some 64)), false), (.sh (.arr (.int .u32) (some 8)), false)]⟩, mov := [], wr := [3, 4], outs := [(.exit 4, ⟨[], [(.keep, false), (.keep, false), (.keep, false), (.sh (.arr (.int .u32) (some 64)), false), (.sh (.arr (.int .u32) (some 8)), false)]⟩)], its := [.lst (.int .u32), .int, .lst (.int .u32), .lst (.int .u32)], ots := [[.lst (.int .u32), .lst (.int .u32)]] }
def sha_Hash_round_v1_d6 : LD := { ins := ⟨[(0, (.av (.one (.const (.ptr ⟨0, 0, 0, 0⟩))))), (176, (.av (.agg [(.arr (.int .u32) (some 8))]))), (177, (.av (.one (.int .i64))))], [(.sh (.arr (.int .u32) (some 8)), true), (.keep, false), (.keep, false), (.keep, false), (.keep, false)]⟩, mov := [], wr := [0], outs := [(.exit 6, ⟨[], [(.sh (.arr (.int .u32) (some 8)), true), (.keep, false), (.keep, false), (.keep, false), (.keep, false)]⟩)], its := [.lst (.int .u32), .int, .lst (.int .u32)], ots := [[.lst (.int .u32)]] }
noncomputable def sha_Hash_round_v1_J (N : Nat) : Nat → Hint := fun cx => hintOf cx [(0, { reg := fun k => assoc0 k [], cnd := fun k => assoc0 k [], loop := fun k => assoc0 k [(0, ⟨sha_Hash_round_v1_d0, loopF (sha_Hash_round_v1_b0 N) N⟩), (2, ⟨sha_Hash_round_v1_d2, loopF (sha_Hash_round_v1_b2 N) N⟩), (4, ⟨sha_Hash_round_v1_d4, loopF (sha_Hash_round_v1_b4 N) N⟩), (6, ⟨sha_Hash_round_v1_d6, loopF (sha_Hash_round_v1_b6 N) N⟩)], nil := fun k => assoc0 k [], unr := fun k => assocN k [], blk := fun k => assoc0 k [] })]
noncomputable def sha_Hash_round_v1_C (N : Nat) : Nat → List GS := fun k => tabOf k [(57, [sha_turned_g N]), (58, [sha_constants_g N])]
def sha_Hash_round_v1_o : List (Shp × List Nat) := [(⟨[(0, (.tup []))], [(.sh (.arr (.int .u32) (some 8)), true), (.sh (.one (.int .u64)), true), (.sh (.one (.const .unk)), false)]⟩, [])]
noncomputable def sha_Hash_round_v1_g (N : Nat) : GS := { ins := ⟨[(0, (.av (.one (.const (.ptr ⟨0, 0, 0, 0⟩))))), (1, (.av (.one (.rsl (.int .u8)))))], [(some (.arr (.int .u32) (some 8)), true), (some (.one (.int .u64)), true), (some (.one (.const .unk)), false)]⟩, lend := [.keep, .lend (.int .u8)], outs := sha_Hash_round_v1_o.map fun s => ssOf s.1, its := [.lst (.int .u8), .lst (.int .u32), .int], ots := [[.lst (.int .u32), .int]], F := sha_Hash_round_v1 N }
noncomputable def sha_Hash_round_v1_CA (N : Nat) (f0 : Int × Int → Option (Int)) (f1 : Unit → Option ((List Int))) : Nat → List GS := fun k => tabOf k [(57, [{ sha_turned_g N with F := f0 }]), (58, [{ sha_constants_g N with F := f1 }])]
theorem sha_Hash_round_v1_CE (N : Nat) : sha_Hash_round_v1_CA N (sha_turned) (sha_constants) = sha_Hash_round_v1_C N := by kernel_rfl
theorem sha_Hash_round_v1_t (N : Nat) : TabC Try.prog (sha_Hash_round_v1_C N) := tab_ok ⟨⟨sha_turned_ok N, trivial⟩, ⟨sha_constants_ok N, trivial⟩, trivial⟩
theorem sha_Hash_round_v1_i0 : loopsOf sha_Hash_round_v1_c0 = [] := by kernel_rfl
noncomputable def sha_Hash_round_v1_a0 (N : Nat) (f0 : Int × Int → Option (Int)) (f1 : Unit → Option ((List Int))) (next : (List Int) × Int × (List Int) → Option (((List Int)))) (x : (List Int) × Int × (List Int)) : Option (((List Int))) :=
  (cond (decide (x.2.1 < (16 : Int)))
  (let v2 : Int := (wrapF .i64 ((4 : Int) * x.2.1))
  (cond ((decide ((0 : Int) ≤ v2)) && (decide (v2 < (((List.length x.1) : Nat) : Int))))
  ((let v7 : Int := (wrapF .i64 ((wrapF .i64 ((4 : Int) * x.2.1)) + (1 : Int)))
  (cond ((decide ((0 : Int) ≤ v7)) && (decide (v7 < (((List.length x.1) : Nat) : Int))))
  ((let v13 : Int := (wrapF .i64 ((wrapF .i64 ((4 : Int) * x.2.1)) + (2 : Int)))
  (cond ((decide ((0 : Int) ≤ v13)) && (decide (v13 < (((List.length x.1) : Nat) : Int))))
  ((let v19 : Int := (wrapF .i64 ((wrapF .i64 ((4 : Int) * x.2.1)) + (3 : Int)))
  (cond ((decide ((0 : Int) ≤ v19)) && (decide (v19 < (((List.length x.1) : Nat) : Int))))
  ((cond ((decide ((0 : Int) ≤ x.2.1)) && (decide (x.2.1 < (64 : Int))))
  ((let v23 : Nat := (Int.toNat x.2.1)
  (cond (decide (v23 < (List.length x.2.2)))
  ((next (x.1, (wrapF .i64 (x.2.1 + (1 : Int))), (List.set x.2.2 v23 (orF .u32 (orF .u32 (orF .u32 (shlF .u32 (wrapF .u32 (List.getD x.1 (Int.toNat v2) (EK.dflt (.int .u8)))) (24 : Int)) (shlF .u32 (wrapF .u32 (List.getD x.1 (Int.toNat v7) (EK.dflt (.int .u8)))) (16 : Int))) (shlF .u32 (wrapF .u32 (List.getD x.1 (Int.toNat v13) (EK.dflt (.int .u8)))) (8 : Int))) (wrapF .u32 (List.getD x.1 (Int.toNat v19) (EK.dflt (.int .u8)))))))))
  none)))
  none))
  none)))
  none)))
  none)))
  none))
  (some x.2.2))
theorem sha_Hash_round_v1_f0 (N : Nat) (f0 : Int × Int → Option (Int)) (f1 : Unit → Option ((List Int))) (next) (x) : sha_Hash_round_v1_a0 N f0 f1 next x = loopStep Γ (sha_Hash_round_v1_CA N f0 f1) (sha_Hash_round_v1_J N) 0 193 sha_Hash_round_v1_d0 sha_Hash_round_v1_c0 next x := by kernel_rfl
theorem sha_Hash_round_v1_e0 (N : Nat) (next) (x) : sha_Hash_round_v1_b0 N next x = loopStep Γ (sha_Hash_round_v1_C N) (sha_Hash_round_v1_J N) 0 193 sha_Hash_round_v1_d0 sha_Hash_round_v1_c0 next x := by
  rw [← sha_Hash_round_v1_CE N]
  exact Eq.trans (by kernel_rfl) (sha_Hash_round_v1_f0 N (sha_turned) (sha_constants) next x)
theorem sha_Hash_round_v1_k0 (N : Nat) : LoopOK Try.prog 193 sha_Hash_round_v1_c0 ⟨sha_Hash_round_v1_d0, loopF (sha_Hash_round_v1_b0 N) N⟩ := loop_ok tabOK (sha_Hash_round_v1_t N) mixedOK (J := sha_Hash_round_v1_J N) (cx := 0) (body := sha_Hash_round_v1_c0) (nt := 193) (l := sha_Hash_round_v1_d0) (b := sha_Hash_round_v1_b0 N) (jok_from sha_Hash_round_v1_i0 ⟨trivial, trivial⟩) (sha_Hash_round_v1_e0 N) N
theorem sha_Hash_round_v1_i2 : loopsOf sha_Hash_round_v1_c2 = [] := by kernel_rfl
noncomputable def sha_Hash_round_v1_a2 (N : Nat) (f0 : Int × Int → Option (Int)) (f1 : Unit → Option ((List Int))) (next : Int × (List Int) → Option (((List Int)))) (x : Int × (List Int)) : Option (((List Int))) :=
  (cond (decide (x.1 < (64 : Int)))
  (let v2 : Int := (wrapF .i64 (x.1 - (15 : Int)))
  (cond ((decide ((0 : Int) ≤ v2)) && (decide (v2 < (64 : Int))))
  ((let v3 : Nat := (Int.toNat v2)
  (cond (decide (v3 < (List.length x.2)))
  ((let v4 : Int := (List.getD x.2 v3 (EK.dflt (.int .u32)))
  (let v5 : Int := (wrapF .i64 (x.1 - (2 : Int)))
  (cond ((decide ((0 : Int) ≤ v5)) && (decide (v5 < (64 : Int))))
  ((let v6 : Nat := (Int.toNat v5)
  (cond (decide (v6 < (List.length x.2)))
  ((let v7 : Int := (List.getD x.2 v6 (EK.dflt (.int .u32)))
  (let v8 : Int := (wrapF .i64 (x.1 - (16 : Int)))
  (cond ((decide ((0 : Int) ≤ v8)) && (decide (v8 < (64 : Int))))
  ((let v9 : Nat := (Int.toNat v8)
  (cond (decide (v9 < (List.length x.2)))
  ((Option.bind (f0 (v4, (7 : Int))) fun r11 =>
  (Option.bind (f0 (v4, (18 : Int))) fun r12 =>
  (let v17 : Int := (wrapF .i64 (x.1 - (7 : Int)))
  (cond ((decide ((0 : Int) ≤ v17)) && (decide (v17 < (64 : Int))))
  ((let v18 : Nat := (Int.toNat v17)
  (cond (decide (v18 < (List.length x.2)))
  ((Option.bind (f0 (v7, (17 : Int))) fun r21 =>
  (Option.bind (f0 (v7, (19 : Int))) fun r22 =>
  (cond ((decide ((0 : Int) ≤ x.1)) && (decide (x.1 < (64 : Int))))
  ((let v27 : Nat := (Int.toNat x.1)
  (cond (decide (v27 < (List.length x.2)))
  ((next ((wrapF .i64 (x.1 + (1 : Int))), (List.set x.2 v27 (wrapF .u32 ((wrapF .u32 ((wrapF .u32 ((List.getD x.2 v9 (EK.dflt (.int .u32))) + (xorF .u32 (xorF .u32 r11 r12) (shrF .u32 v4 (3 : Int))))) + (List.getD x.2 v18 (EK.dflt (.int .u32))))) + (xorF .u32 (xorF .u32 r21 r22) (shrF .u32 v7 (10 : Int)))))))))
  none)))
  none))))
  none)))
  none)))))
  none)))
  none))))
  none)))
  none))))
  none)))
  none))
  (some x.2))
theorem sha_Hash_round_v1_f2 (N : Nat) (f0 : Int × Int → Option (Int)) (f1 : Unit → Option ((List Int))) (next) (x) : sha_Hash_round_v1_a2 N f0 f1 next x = loopStep Γ (sha_Hash_round_v1_CA N f0 f1) (sha_Hash_round_v1_J N) 0 193 sha_Hash_round_v1_d2 sha_Hash_round_v1_c2 next x := by kernel_rfl
theorem sha_Hash_round_v1_e2 (N : Nat) (next) (x) : sha_Hash_round_v1_b2 N next x = loopStep Γ (sha_Hash_round_v1_C N) (sha_Hash_round_v1_J N) 0 193 sha_Hash_round_v1_d2 sha_Hash_round_v1_c2 next x := by
  rw [← sha_Hash_round_v1_CE N]
  exact Eq.trans (by kernel_rfl) (sha_Hash_round_v1_f2 N (sha_turned) (sha_constants) next x)
theorem sha_Hash_round_v1_k2 (N : Nat) : LoopOK Try.prog 193 sha_Hash_round_v1_c2 ⟨sha_Hash_round_v1_d2, loopF (sha_Hash_round_v1_b2 N) N⟩ := loop_ok tabOK (sha_Hash_round_v1_t N) mixedOK (J := sha_Hash_round_v1_J N) (cx := 0) (body := sha_Hash_round_v1_c2) (nt := 193) (l := sha_Hash_round_v1_d2) (b := sha_Hash_round_v1_b2 N) (jok_from sha_Hash_round_v1_i2 ⟨trivial, trivial⟩) (sha_Hash_round_v1_e2 N) N
theorem sha_Hash_round_v1_i4 : loopsOf sha_Hash_round_v1_c4 = [] := by kernel_rfl
noncomputable def sha_Hash_round_v1_a4 (N : Nat) (f0 : Int × Int → Option (Int)) (f1 : Unit → Option ((List Int))) (next : (List Int) × Int × (List Int) × (List Int) → Option (((List Int) × (List Int)))) (x : (List Int) × Int × (List Int) × (List Int)) : Option (((List Int) × (List Int))) :=
  (cond (decide (x.2.1 < (64 : Int)))
  (cond ((decide ((0 : Int) ≤ x.2.1)) && (decide (x.2.1 < (64 : Int))))
  ((cond (decide (0 < (List.length x.2.2.2)))
  ((let v3 : Int := (List.getD x.2.2.2 0 (EK.dflt (.int .u32)))
  (cond (decide (4 < (List.length x.2.2.2)))
  ((let v4 : Int := (List.getD x.2.2.2 4 (EK.dflt (.int .u32)))
  (cond (decide (7 < (List.length x.2.2.2)))
  ((Option.bind (f0 (v4, (6 : Int))) fun r6 =>
  (Option.bind (f0 (v4, (11 : Int))) fun r7 =>
  (Option.bind (f0 (v4, (25 : Int))) fun r9 =>
  (cond (decide (5 < (List.length x.2.2.2)))
  ((cond (decide (6 < (List.length x.2.2.2)))
  ((cond ((decide ((0 : Int) ≤ x.2.1)) && (decide (x.2.1 < (64 : Int))))
  ((let v20 : Nat := (Int.toNat x.2.1)
  (cond (decide (v20 < (List.length x.2.2.1)))
  ((let v22 : Int := (wrapF .u32 ((wrapF .u32 ((wrapF .u32 ((wrapF .u32 ((List.getD x.2.2.2 7 (EK.dflt (.int .u32))) + (xorF .u32 (xorF .u32 r6 r7) r9))) + (xorF .u32 (andF .u32 v4 (List.getD x.2.2.2 5 (EK.dflt (.int .u32)))) (andF .u32 (xorF .u32 (4294967295 : Int) v4) (List.getD x.2.2.2 6 (EK.dflt (.int .u32))))))) + (List.getD x.1 (Int.toNat x.2.1) (EK.dflt (.int .u32))))) + (List.getD x.2.2.1 v20 (EK.dflt (.int .u32)))))
  (Option.bind (f0 (v3, (2 : Int))) fun r23 =>
  (Option.bind (f0 (v3, (13 : Int))) fun r24 =>
  (Option.bind (f0 (v3, (22 : Int))) fun r26 =>
  (cond (decide (1 < (List.length x.2.2.2)))
  ((cond (decide (2 < (List.length x.2.2.2)))
  ((cond (decide (1 < (List.length x.2.2.2)))
  ((cond (decide (2 < (List.length x.2.2.2)))
  ((cond ((decide (7 ≤ (List.length x.2.2.2))) && (decide (8 ≤ (List.length x.2.2.2))))
  ((let v39 : List Int := (List.take 1 x.2.2.2 ++ List.take (min (List.length (List.take 7 (List.drop 0 x.2.2.2))) 7) (List.take 7 (List.drop 0 x.2.2.2)) ++ List.drop (1 + (min (List.length (List.take 7 (List.drop 0 x.2.2.2))) 7)) x.2.2.2)
  (cond (decide (4 < (List.length v39)))
  ((cond (decide (4 < (List.length v39)))
  ((let v42 : List Int := (List.set v39 4 (wrapF .u32 ((List.getD v39 4 (EK.dflt (.int .u32))) + v22)))
  (cond (decide (0 < (List.length v42)))
  ((next (x.1, (wrapF .i64 (x.2.1 + (1 : Int))), x.2.2.1, (List.set v42 0 (wrapF .u32 (v22 + (wrapF .u32 ((xorF .u32 (xorF .u32 r23 r24) r26) + (xorF .u32 (xorF .u32 (andF .u32 v3 (List.getD x.2.2.2 1 (EK.dflt (.int .u32)))) (andF .u32 v3 (List.getD x.2.2.2 2 (EK.dflt (.int .u32))))) (andF .u32 (List.getD x.2.2.2 1 (EK.dflt (.int .u32))) (List.getD x.2.2.2 2 (EK.dflt (.int .u32)))))))))))))
  none)))
  none))
  none)))
  none))
  none))
  none))
  none))
  none))))))
  none)))
  none))
  none))
  none)))))
  none)))
  none)))
  none))
  none)
  (some (x.2.2.1, x.2.2.2)))
theorem sha_Hash_round_v1_f4 (N : Nat) (f0 : Int × Int → Option (Int)) (f1 : Unit → Option ((List Int))) (next) (x) : sha_Hash_round_v1_a4 N f0 f1 next x = loopStep Γ (sha_Hash_round_v1_CA N f0 f1) (sha_Hash_round_v1_J N) 0 193 sha_Hash_round_v1_d4 sha_Hash_round_v1_c4 next x := by kernel_rfl
theorem sha_Hash_round_v1_e4 (N : Nat) (next) (x) : sha_Hash_round_v1_b4 N next x = loopStep Γ (sha_Hash_round_v1_C N) (sha_Hash_round_v1_J N) 0 193 sha_Hash_round_v1_d4 sha_Hash_round_v1_c4 next x := by
  rw [← sha_Hash_round_v1_CE N]
  exact Eq.trans (by kernel_rfl) (sha_Hash_round_v1_f4 N (sha_turned) (sha_constants) next x)
theorem sha_Hash_round_v1_k4 (N : Nat) : LoopOK Try.prog 193 sha_Hash_round_v1_c4 ⟨sha_Hash_round_v1_d4, loopF (sha_Hash_round_v1_b4 N) N⟩ := loop_ok tabOK (sha_Hash_round_v1_t N) mixedOK (J := sha_Hash_round_v1_J N) (cx := 0) (body := sha_Hash_round_v1_c4) (nt := 193) (l := sha_Hash_round_v1_d4) (b := sha_Hash_round_v1_b4 N) (jok_from sha_Hash_round_v1_i4 ⟨trivial, trivial⟩) (sha_Hash_round_v1_e4 N) N
theorem sha_Hash_round_v1_i6 : loopsOf sha_Hash_round_v1_c6 = [] := by kernel_rfl
noncomputable def sha_Hash_round_v1_a6 (N : Nat) (f0 : Int × Int → Option (Int)) (f1 : Unit → Option ((List Int))) (next : (List Int) × Int × (List Int) → Option (((List Int)))) (x : (List Int) × Int × (List Int)) : Option (((List Int))) :=
  (cond (decide (x.2.1 < (8 : Int)))
  (cond ((decide ((0 : Int) ≤ x.2.1)) && (decide (x.2.1 < (8 : Int))))
  ((cond ((decide ((0 : Int) ≤ x.2.1)) && (decide (x.2.1 < (8 : Int))))
  ((let v3 : Nat := (Int.toNat x.2.1)
  (cond (decide (v3 < (List.length x.2.2)))
  ((cond ((decide ((0 : Int) ≤ x.2.1)) && (decide (x.2.1 < (8 : Int))))
  ((let v6 : Nat := (Int.toNat x.2.1)
  (cond (decide (v6 < (List.length x.2.2)))
  ((next (x.1, (wrapF .i64 (x.2.1 + (1 : Int))), (List.set x.2.2 v6 (wrapF .u32 ((List.getD x.2.2 v3 (EK.dflt (.int .u32))) + (List.getD x.1 (Int.toNat x.2.1) (EK.dflt (.int .u32)))))))))
  none)))
  none))
  none)))
  none))
  none)
  (some x.2.2))
theorem sha_Hash_round_v1_f6 (N : Nat) (f0 : Int × Int → Option (Int)) (f1 : Unit → Option ((List Int))) (next) (x) : sha_Hash_round_v1_a6 N f0 f1 next x = loopStep Γ (sha_Hash_round_v1_CA N f0 f1) (sha_Hash_round_v1_J N) 0 193 sha_Hash_round_v1_d6 sha_Hash_round_v1_c6 next x := by kernel_rfl
theorem sha_Hash_round_v1_e6 (N : Nat) (next) (x) : sha_Hash_round_v1_b6 N next x = loopStep Γ (sha_Hash_round_v1_C N) (sha_Hash_round_v1_J N) 0 193 sha_Hash_round_v1_d6 sha_Hash_round_v1_c6 next x := by
  rw [← sha_Hash_round_v1_CE N]
  exact Eq.trans (by kernel_rfl) (sha_Hash_round_v1_f6 N (sha_turned) (sha_constants) next x)
theorem sha_Hash_round_v1_k6 (N : Nat) : LoopOK Try.prog 193 sha_Hash_round_v1_c6 ⟨sha_Hash_round_v1_d6, loopF (sha_Hash_round_v1_b6 N) N⟩ := loop_ok tabOK (sha_Hash_round_v1_t N) mixedOK (J := sha_Hash_round_v1_J N) (cx := 0) (body := sha_Hash_round_v1_c6) (nt := 193) (l := sha_Hash_round_v1_d6) (b := sha_Hash_round_v1_b6 N) (jok_from sha_Hash_round_v1_i6 ⟨trivial, trivial⟩) (sha_Hash_round_v1_e6 N) N
theorem sha_Hash_round_v1_i : loopsOf sha_Hash_round_v1_c = [(0, sha_Hash_round_v1_c0), (2, sha_Hash_round_v1_c2), (4, sha_Hash_round_v1_c4), (6, sha_Hash_round_v1_c6)] := by kernel_rfl
noncomputable def sha_Hash_round_v1_a (N : Nat) (f0 : Int × Int → Option (Int)) (f1 : Unit → Option ((List Int))) (x : (List Int) × (List Int) × Int) : Option ((List Int) × Int) :=
  (Option.bind (sha_Hash_round_v1_l0 N (x.1, (0 : Int), (List.replicate 64 (EK.dflt (.int .u32))))) fun r2 =>
  (Option.bind (sha_Hash_round_v1_l2 N ((16 : Int), r2)) fun r3 =>
  (Option.bind (f1 ()) fun r5 =>
  (Option.bind (sha_Hash_round_v1_l4 N (r5, (0 : Int), r3, x.2.1)) fun r6 =>
  (Option.bind (sha_Hash_round_v1_l6 N (r6.2, (0 : Int), x.2.1)) fun r7 =>
  (some (r7, x.2.2)))))))
theorem sha_Hash_round_v1_f (N : Nat) (f0 : Int × Int → Option (Int)) (f1 : Unit → Option ((List Int))) (x) : sha_Hash_round_v1_a N f0 f1 x = fnStep Γ (sha_Hash_round_v1_CA N f0 f1) (sha_Hash_round_v1_J N) 193 Try.f40.results.toList (sha_Hash_round_v1_g N) sha_Hash_round_v1_o sha_Hash_round_v1_c x := by kernel_rfl
theorem sha_Hash_round_v1_e (N : Nat) (x) : (sha_Hash_round_v1_g N).F x = fnStep Γ (sha_Hash_round_v1_C N) (sha_Hash_round_v1_J N) 193 Try.f40.results.toList (sha_Hash_round_v1_g N) sha_Hash_round_v1_o sha_Hash_round_v1_c x := by
  rw [← sha_Hash_round_v1_CE N]
  exact Eq.trans (by kernel_rfl) (sha_Hash_round_v1_f N (sha_turned) (sha_constants) x)
theorem sha_Hash_round_v1_y : Try.f40.body = some sha_Hash_round_v1_c := by kernel_rfl
theorem sha_Hash_round_v1_n : (Try.f40.name == "runtime.NumGoroutine") = false := by kernel_rfl
theorem sha_Hash_round_v1_ok (N : Nat) : FnDoes Try.prog 40 (sha_Hash_round_v1_g N) := fn_ok tabOK (sha_Hash_round_v1_t N) mixedOK (J := sha_Hash_round_v1_J N) (body := sha_Hash_round_v1_c) Try.func40 sha_Hash_round_v1_y sha_Hash_round_v1_n Try.ntmps40 (jok_from sha_Hash_round_v1_i ⟨⟨.inr ⟨_, rfl, sha_Hash_round_v1_k0 N⟩, .inr ⟨_, rfl, sha_Hash_round_v1_k2 N⟩, .inr ⟨_, rfl, sha_Hash_round_v1_k4 N⟩, .inr ⟨_, rfl, sha_Hash_round_v1_k6 N⟩, trivial⟩, trivial⟩) rfl rfl (le_of_ble rfl) (sha_Hash_round_v1_e N)
noncomputable def sha_Hash_Write_v1_c : Code := codeOf Try.f21.body
noncomputable def sha_Hash_Write_v1_c0 : Code := codeOf (getLoop 0 sha_Hash_Write_v1_c)
def sha_Hash_Write_v1_d0 : LD := { ins := ⟨[(0, (.av (.one (.const (.ptr ⟨0, 0, 0, 0⟩))))), (4, (.av (.one (.sl 4 1))))], [(.sh (.arr (.int .u32) (some 8)), true), (.sh (.one (.int .u64)), true), (.sh (.one (.const .unk)), false), (.keep, false), (.sh (.arr (.int .u8) none), false)]⟩, mov := [], wr := [0, 1, 2, 4], outs := [(.exit 0, ⟨[(4, (.av (.one (.sl 4 1))))], [(.sh (.arr (.int .u32) (some 8)), true), (.sh (.one (.int .u64)), true), (.sh (.one (.const .unk)), false), (.keep, false), (.sh (.arr (.int .u8) none), false)]⟩)], its := [.nat, .nat, .lst (.int .u32), .int, .lst (.int .u8)], ots := [[.nat, .nat, .lst (.int .u32), .int, .lst (.int .u8)]] }
noncomputable def sha_Hash_Write_v1_J (N : Nat) : Nat → Hint := fun cx => hintOf cx [(0, { reg := fun k => assoc0 k [], cnd := fun k => assoc0 k [], loop := fun k => assoc0 k [(0, ⟨sha_Hash_Write_v1_d0, loopF (sha_Hash_Write_v1_b0 N) N⟩)], nil := fun k => assoc0 k [], unr := fun k => assocN k [], blk := fun k => assoc0 k [] })]
noncomputable def sha_Hash_Write_v1_C (N : Nat) : Nat → List GS := fun k => tabOf k [(40, [sha_Hash_round_v1_g N]), (41, [slices_Clone_byte_byte_g N])]
def sha_Hash_Write_v1_o : List (Shp × List Nat) := [(⟨[(0, (.tup []))], [(.sh (.arr (.int .u32) (some 8)), true), (.sh (.one (.int .u64)), true), (.sh (.one (.const (.slw 4 1))), false), (.dead, false), (.sh (.arr (.int .u8) none), false)]⟩, [])]
noncomputable def sha_Hash_Write_v1_g (N : Nat) : GS := { ins := ⟨[(0, (.av (.one (.const (.ptr ⟨0, 0, 0, 0⟩))))), (1, (.av (.one (.rsl (.int .u8)))))], [(some (.arr (.int .u32) (some 8)), true), (some (.one (.int .u64)), true), (some (.one (.const (.slw 3 1))), false), (some (.arr (.int .u8) none), false)]⟩, lend := [.keep, .lend (.int .u8)], outs := sha_Hash_Write_v1_o.map fun s => ssOf s.1, its := [.lst (.int .u8), .lst (.int .u32), .int, .lst (.int .u8)], ots := [[.lst (.int .u32), .int, .lst (.int .u8)]], F := sha_Hash_Write_v1 N }
noncomputable def sha_Hash_Write_v1_CA (N : Nat) (f0 : (List Int) × (List Int) × Int → Option ((List Int) × Int)) (f1 : (List Int) → Option ((List Int))) : Nat → List GS := fun k => tabOf k [(40, [{ sha_Hash_round_v1_g N with F := f0 }]), (41, [{ slices_Clone_byte_byte_g N with F := f1 }])]
theorem sha_Hash_Write_v1_CE (N : Nat) : sha_Hash_Write_v1_CA N (sha_Hash_round_v1 N) (slices_Clone_byte_byte) = sha_Hash_Write_v1_C N := by kernel_rfl
theorem sha_Hash_Write_v1_t (N : Nat) : TabC Try.prog (sha_Hash_Write_v1_C N) := tab_ok ⟨⟨sha_Hash_round_v1_ok N, trivial⟩, ⟨slices_Clone_byte_byte_ok N, trivial⟩, trivial⟩
theorem sha_Hash_Write_v1_i0 : loopsOf sha_Hash_Write_v1_c0 = [] := by kernel_rfl
noncomputable def sha_Hash_Write_v1_a0 (N : Nat) (f0 : (List Int) × (List Int) × Int → Option ((List Int) × Int)) (f1 : (List Int) → Option ((List Int))) (next : Nat × Nat × (List Int) × Int × (List Int) → Option ((Nat × Nat × (List Int) × Int × (List Int)))) (x : Nat × Nat × (List Int) × Int × (List Int)) : Option ((Nat × Nat × (List Int) × Int × (List Int))) :=
  (cond (decide ((64 : Int) ≤ ((x.2.1 : Nat) : Int)))
  (cond (decide ((64 : Int) ≤ ((x.2.1 : Nat) : Int)))
  ((let v3 : Nat := (0 + x.1)
  (cond (cond (decide ((v3 + 64) ≤ (List.length x.2.2.2.2))) true false)
  (Option.bind (f0 ((List.take 64 (List.drop v3 x.2.2.2.2)), x.2.2.1, x.2.2.2.1)) fun r4 =>
  (cond ((decide ((64 : Int) ≤ ((x.2.1 : Nat) : Int))) && (decide (((x.2.1 : Nat) : Int) ≤ ((x.2.1 : Nat) : Int))))
  ((next ((64 + x.1), (x.2.1 - 64), r4.1, r4.2, x.2.2.2.2)))
  none))
  none)))
  none)
  (some (x.1, x.2.1, x.2.2.1, x.2.2.2.1, x.2.2.2.2)))
theorem sha_Hash_Write_v1_f0 (N : Nat) (f0 : (List Int) × (List Int) × Int → Option ((List Int) × Int)) (f1 : (List Int) → Option ((List Int))) (next) (x) : sha_Hash_Write_v1_a0 N f0 f1 next x = loopStep Γ (sha_Hash_Write_v1_CA N f0 f1) (sha_Hash_Write_v1_J N) 0 37 sha_Hash_Write_v1_d0 sha_Hash_Write_v1_c0 next x := by kernel_rfl
theorem sha_Hash_Write_v1_e0 (N : Nat) (next) (x) : sha_Hash_Write_v1_b0 N next x = loopStep Γ (sha_Hash_Write_v1_C N) (sha_Hash_Write_v1_J N) 0 37 sha_Hash_Write_v1_d0 sha_Hash_Write_v1_c0 next x := by
  rw [← sha_Hash_Write_v1_CE N]
  exact Eq.trans (by kernel_rfl) (sha_Hash_Write_v1_f0 N (sha_Hash_round_v1 N) (slices_Clone_byte_byte) next x)
theorem sha_Hash_Write_v1_k0 (N : Nat) : LoopOK Try.prog 37 sha_Hash_Write_v1_c0 ⟨sha_Hash_Write_v1_d0, loopF (sha_Hash_Write_v1_b0 N) N⟩ := loop_ok tabOK (sha_Hash_Write_v1_t N) mixedOK (J := sha_Hash_Write_v1_J N) (cx := 0) (body := sha_Hash_Write_v1_c0) (nt := 37) (l := sha_Hash_Write_v1_d0) (b := sha_Hash_Write_v1_b0 N) (jok_from sha_Hash_Write_v1_i0 ⟨trivial, trivial⟩) (sha_Hash_Write_v1_e0 N) N
theorem sha_Hash_Write_v1_i : loopsOf sha_Hash_Write_v1_c = [(0, sha_Hash_Write_v1_c0)] := by kernel_rfl
noncomputable def sha_Hash_Write_v1_a (N : Nat) (f0 : (List Int) × (List Int) × Int → Option ((List Int) × Int)) (f1 : (List Int) → Option ((List Int))) (x : (List Int) × (List Int) × Int × (List Int)) : Option ((List Int) × Int × (List Int)) :=
  (cond (fits 1 ((List.length x.2.2.2) + (List.length x.1)))
  ((let v4 : List Int := (x.2.2.2 ++ x.1)
  (Option.bind (sha_Hash_Write_v1_l0 N (0, (List.length v4), x.2.1, (wrapF .u64 (x.2.2.1 + (wrapF .u64 (((List.length x.1) : Nat) : Int)))), v4)) fun r5 =>
  (cond (cond (decide ((r5.1 + r5.2.1) ≤ (List.length r5.2.2.2.2))) true false)
  (Option.bind (f1 (List.take r5.2.1 (List.drop r5.1 r5.2.2.2.2))) fun r6 =>
  (some (r5.2.2.1, r5.2.2.2.1, r6)))
  none))))
  none)
theorem sha_Hash_Write_v1_f (N : Nat) (f0 : (List Int) × (List Int) × Int → Option ((List Int) × Int)) (f1 : (List Int) → Option ((List Int))) (x) : sha_Hash_Write_v1_a N f0 f1 x = fnStep Γ (sha_Hash_Write_v1_CA N f0 f1) (sha_Hash_Write_v1_J N) 37 Try.f21.results.toList (sha_Hash_Write_v1_g N) sha_Hash_Write_v1_o sha_Hash_Write_v1_c x := by kernel_rfl
theorem sha_Hash_Write_v1_e (N : Nat) (x) : (sha_Hash_Write_v1_g N).F x = fnStep Γ (sha_Hash_Write_v1_C N) (sha_Hash_Write_v1_J N) 37 Try.f21.results.toList (sha_Hash_Write_v1_g N) sha_Hash_Write_v1_o sha_Hash_Write_v1_c x := by
  rw [← sha_Hash_Write_v1_CE N]
  exact Eq.trans (by kernel_rfl) (sha_Hash_Write_v1_f N (sha_Hash_round_v1 N) (slices_Clone_byte_byte) x)
theorem sha_Hash_Write_v1_y : Try.f21.body = some sha_Hash_Write_v1_c := by kernel_rfl
theorem sha_Hash_Write_v1_n : (Try.f21.name == "runtime.NumGoroutine") = false := by kernel_rfl
theorem sha_Hash_Write_v1_ok (N : Nat) : FnDoes Try.prog 21 (sha_Hash_Write_v1_g N) := fn_ok tabOK (sha_Hash_Write_v1_t N) mixedOK (J := sha_Hash_Write_v1_J N) (body := sha_Hash_Write_v1_c) Try.func21 sha_Hash_Write_v1_y sha_Hash_Write_v1_n Try.ntmps21 (jok_from sha_Hash_Write_v1_i ⟨⟨.inr ⟨_, rfl, sha_Hash_Write_v1_k0 N⟩, trivial⟩, trivial⟩) rfl rfl (le_of_ble rfl) (sha_Hash_Write_v1_e N)
noncomputable def octet_Put_v1_c : Code := codeOf Try.f42.body
noncomputable def octet_Put_v1_J (N : Nat) : Nat → Hint := fun cx => hintOf cx []
noncomputable def octet_Put_v1_C (N : Nat) : Nat → List GS := fun k => tabOf k [(59, [octet_Lay_g N])]
def octet_Put_v1_o : List (Shp × List Nat) := [(⟨[(0, (.av (.one (.const (.slw 0 1)))))], [(.sh (.arr (.int .u8) none), false)]⟩, [])]
noncomputable def octet_Put_v1_g (N : Nat) : GS := { ins := ⟨[(0, (.av (.one (.const .nils)))), (1, (.av (.one (.int .u64)))), (2, (.av (.one (.int .i64))))], []⟩, lend := [.keep, .keep, .keep], outs := octet_Put_v1_o.map fun s => ssOf s.1, its := [.int, .int], ots := [[.lst (.int .u8)]], F := octet_Put_v1 N }
noncomputable def octet_Put_v1_CA (N : Nat) (f0 : Nat × Nat × Int × (List Int) → Option ((List Int))) : Nat → List GS := fun k => tabOf k [(59, [{ octet_Lay_g N with F := f0 }])]
theorem octet_Put_v1_CE (N : Nat) : octet_Put_v1_CA N (octet_Lay N) = octet_Put_v1_C N := by kernel_rfl
theorem octet_Put_v1_t (N : Nat) : TabC Try.prog (octet_Put_v1_C N) := tab_ok ⟨⟨octet_Lay_ok N, trivial⟩, trivial⟩
theorem octet_Put_v1_i : loopsOf octet_Put_v1_c = [] := by kernel_rfl
noncomputable def octet_Put_v1_a (N : Nat) (f0 : Nat × Nat × Int × (List Int) → Option ((List Int))) (x : Int × Int) : Option ((List Int)) :=
  (cond (((decide ((0 : Int) ≤ x.2)) && (fits 1 (Int.toNat x.2))) && (fits 1 (List.length (List.replicate (Int.toNat x.2) (EK.dflt (.int .u8))))))
  ((let v1 : List Int := (List.replicate (Int.toNat x.2) (EK.dflt (.int .u8)))
  (let v3 : Int := (wrapF .i64 ((((List.length v1) : Nat) : Int) - x.2))
  (cond (((decide ((0 : Int) ≤ v3)) && (decide (v3 ≤ (((List.length v1) : Nat) : Int)))) && (decide ((((List.length v1) : Nat) : Int) ≤ (((List.length v1) : Nat) : Int))))
  ((Option.bind (f0 ((Int.toNat v3), ((List.length v1) - (Int.toNat v3)), x.1, v1)) fun r6 =>
  (some r6)))
  none))))
  none)
theorem octet_Put_v1_f (N : Nat) (f0 : Nat × Nat × Int × (List Int) → Option ((List Int))) (x) : octet_Put_v1_a N f0 x = fnStep Γ (octet_Put_v1_CA N f0) (octet_Put_v1_J N) 19 Try.f42.results.toList (octet_Put_v1_g N) octet_Put_v1_o octet_Put_v1_c x := by kernel_rfl
theorem octet_Put_v1_e (N : Nat) (x) : (octet_Put_v1_g N).F x = fnStep Γ (octet_Put_v1_C N) (octet_Put_v1_J N) 19 Try.f42.results.toList (octet_Put_v1_g N) octet_Put_v1_o octet_Put_v1_c x := by
  rw [← octet_Put_v1_CE N]
  exact Eq.trans (by kernel_rfl) (octet_Put_v1_f N (octet_Lay N) x)
theorem octet_Put_v1_y : Try.f42.body = some octet_Put_v1_c := by kernel_rfl
theorem octet_Put_v1_n : (Try.f42.name == "runtime.NumGoroutine") = false := by kernel_rfl
theorem octet_Put_v1_ok (N : Nat) : FnDoes Try.prog 42 (octet_Put_v1_g N) := fn_ok tabOK (octet_Put_v1_t N) mixedOK (J := octet_Put_v1_J N) (body := octet_Put_v1_c) Try.func42 octet_Put_v1_y octet_Put_v1_n Try.ntmps42 (jok_from octet_Put_v1_i trivial) rfl rfl (le_of_ble rfl) (octet_Put_v1_e N)
noncomputable def octet_Put_v2_c : Code := codeOf Try.f42.body
noncomputable def octet_Put_v2_J (N : Nat) : Nat → Hint := fun cx => hintOf cx []
noncomputable def octet_Put_v2_C (N : Nat) : Nat → List GS := fun k => tabOf k [(59, [octet_Lay_g N])]
def octet_Put_v2_o : List (Shp × List Nat) := [(⟨[(0, (.av (.one (.const (.slw 1 1)))))], [(.dead, false), (.sh (.arr (.int .u8) none), false)]⟩, [])]
noncomputable def octet_Put_v2_g (N : Nat) : GS := { ins := ⟨[(0, (.av (.one (.const (.slw 0 1))))), (1, (.av (.one (.int .u64)))), (2, (.av (.one (.int .i64))))], [(some (.arr (.int .u8) none), false)]⟩, lend := [.keep, .keep, .keep], outs := octet_Put_v2_o.map fun s => ssOf s.1, its := [.int, .int, .lst (.int .u8)], ots := [[.lst (.int .u8)]], F := octet_Put_v2 N }
noncomputable def octet_Put_v2_CA (N : Nat) (f0 : Nat × Nat × Int × (List Int) → Option ((List Int))) : Nat → List GS := fun k => tabOf k [(59, [{ octet_Lay_g N with F := f0 }])]
theorem octet_Put_v2_CE (N : Nat) : octet_Put_v2_CA N (octet_Lay N) = octet_Put_v2_C N := by kernel_rfl
theorem octet_Put_v2_t (N : Nat) : TabC Try.prog (octet_Put_v2_C N) := tab_ok ⟨⟨octet_Lay_ok N, trivial⟩, trivial⟩
theorem octet_Put_v2_i : loopsOf octet_Put_v2_c = [] := by kernel_rfl
noncomputable def octet_Put_v2_a (N : Nat) (f0 : Nat × Nat × Int × (List Int) → Option ((List Int))) (x : Int × Int × (List Int)) : Option ((List Int)) :=
  (cond (((decide ((0 : Int) ≤ x.2.1)) && (fits 1 (Int.toNat x.2.1))) && (fits 1 ((List.length x.2.2) + (List.length (List.replicate (Int.toNat x.2.1) (EK.dflt (.int .u8)))))))
  ((let v1 : List Int := (x.2.2 ++ (List.replicate (Int.toNat x.2.1) (EK.dflt (.int .u8))))
  (let v3 : Int := (wrapF .i64 ((((List.length v1) : Nat) : Int) - x.2.1))
  (cond (((decide ((0 : Int) ≤ v3)) && (decide (v3 ≤ (((List.length v1) : Nat) : Int)))) && (decide ((((List.length v1) : Nat) : Int) ≤ (((List.length v1) : Nat) : Int))))
  ((Option.bind (f0 ((Int.toNat v3), ((List.length v1) - (Int.toNat v3)), x.1, v1)) fun r6 =>
  (some r6)))
  none))))
  none)
theorem octet_Put_v2_f (N : Nat) (f0 : Nat × Nat × Int × (List Int) → Option ((List Int))) (x) : octet_Put_v2_a N f0 x = fnStep Γ (octet_Put_v2_CA N f0) (octet_Put_v2_J N) 19 Try.f42.results.toList (octet_Put_v2_g N) octet_Put_v2_o octet_Put_v2_c x := by kernel_rfl
theorem octet_Put_v2_e (N : Nat) (x) : (octet_Put_v2_g N).F x = fnStep Γ (octet_Put_v2_C N) (octet_Put_v2_J N) 19 Try.f42.results.toList (octet_Put_v2_g N) octet_Put_v2_o octet_Put_v2_c x := by
  rw [← octet_Put_v2_CE N]
  exact Eq.trans (by kernel_rfl) (octet_Put_v2_f N (octet_Lay N) x)
theorem octet_Put_v2_y : Try.f42.body = some octet_Put_v2_c := by kernel_rfl
theorem octet_Put_v2_n : (Try.f42.name == "runtime.NumGoroutine") = false := by kernel_rfl
theorem octet_Put_v2_ok (N : Nat) : FnDoes Try.prog 42 (octet_Put_v2_g N) := fn_ok tabOK (octet_Put_v2_t N) mixedOK (J := octet_Put_v2_J N) (body := octet_Put_v2_c) Try.func42 octet_Put_v2_y octet_Put_v2_n Try.ntmps42 (jok_from octet_Put_v2_i trivial) rfl rfl (le_of_ble rfl) (octet_Put_v2_e N)
noncomputable def sha_words_c : Code := codeOf Try.f43.body
noncomputable def sha_words_c0 : Code := codeOf (getLoop 0 sha_words_c)
def sha_words_d0 : LD := { ins := ⟨[(3, (.av (.one (.const (.slw 1 1))))), (6, (.av (.agg [(.arr (.int .u32) (some 8))]))), (7, (.av (.one (.int .i64))))], [(.keep, false), (.sh (.arr (.int .u8) none), false)]⟩, mov := [1], wr := [], outs := [(.exit 0, ⟨[(3, (.av (.one (.const (.slw 2 1)))))], [(.keep, false), (.dead, false), (.sh (.arr (.int .u8) none), false)]⟩)], its := [.lst (.int .u32), .int, .lst (.int .u8)], ots := [[.lst (.int .u8)]] }
noncomputable def sha_words_J (N : Nat) : Nat → Hint := fun cx => hintOf cx [(0, { reg := fun k => assoc0 k [], cnd := fun k => assoc0 k [], loop := fun k => assoc0 k [(0, ⟨sha_words_d0, loopF (sha_words_b0 N) N⟩)], nil := fun k => assoc0 k [], unr := fun k => assocN k [], blk := fun k => assoc0 k [] })]
noncomputable def sha_words_C (N : Nat) : Nat → List GS := fun k => tabOf k [(42, [octet_Put_v1_g N, octet_Put_v2_g N])]
def sha_words_o : List (Shp × List Nat) := [(⟨[(0, (.av (.one (.const (.slw 0 1)))))], [(.sh (.arr (.int .u8) none), false)]⟩, [])]
noncomputable def sha_words_g (N : Nat) : GS := { ins := ⟨[(0, (.av (.agg [(.arr (.int .u32) (some 8))])))], []⟩, lend := [.keep], outs := sha_words_o.map fun s => ssOf s.1, its := [.lst (.int .u32)], ots := [[.lst (.int .u8)]], F := sha_words N }
noncomputable def sha_words_CA (N : Nat) (f0 : Int × Int → Option ((List Int))) (f1 : Int × Int × (List Int) → Option ((List Int))) : Nat → List GS := fun k => tabOf k [(42, [{ octet_Put_v1_g N with F := f0 }, { octet_Put_v2_g N with F := f1 }])]
theorem sha_words_CE (N : Nat) : sha_words_CA N (octet_Put_v1 N) (octet_Put_v2 N) = sha_words_C N := by kernel_rfl
theorem sha_words_t (N : Nat) : TabC Try.prog (sha_words_C N) := tab_ok ⟨⟨octet_Put_v1_ok N, octet_Put_v2_ok N, trivial⟩, trivial⟩
theorem sha_words_i0 : loopsOf sha_words_c0 = [] := by kernel_rfl
noncomputable def sha_words_a0 (N : Nat) (f0 : Int × Int → Option ((List Int))) (f1 : Int × Int × (List Int) → Option ((List Int))) (next : (List Int) × Int × (List Int) → Option (((List Int)))) (x : (List Int) × Int × (List Int)) : Option (((List Int))) :=
  (cond (decide (x.2.1 < (8 : Int)))
  (cond ((decide ((0 : Int) ≤ x.2.1)) && (decide (x.2.1 < (8 : Int))))
  ((Option.bind (f1 ((wrapF .u64 (List.getD x.1 (Int.toNat x.2.1) (EK.dflt (.int .u32)))), (4 : Int), x.2.2)) fun r4 =>
  (next (x.1, (wrapF .i64 (x.2.1 + (1 : Int))), r4))))
  none)
  (some x.2.2))
theorem sha_words_f0 (N : Nat) (f0 : Int × Int → Option ((List Int))) (f1 : Int × Int × (List Int) → Option ((List Int))) (next) (x) : sha_words_a0 N f0 f1 next x = loopStep Γ (sha_words_CA N f0 f1) (sha_words_J N) 0 16 sha_words_d0 sha_words_c0 next x := by kernel_rfl
theorem sha_words_e0 (N : Nat) (next) (x) : sha_words_b0 N next x = loopStep Γ (sha_words_C N) (sha_words_J N) 0 16 sha_words_d0 sha_words_c0 next x := by
  rw [← sha_words_CE N]
  exact Eq.trans (by kernel_rfl) (sha_words_f0 N (octet_Put_v1 N) (octet_Put_v2 N) next x)
theorem sha_words_k0 (N : Nat) : LoopOK Try.prog 16 sha_words_c0 ⟨sha_words_d0, loopF (sha_words_b0 N) N⟩ := loop_ok tabOK (sha_words_t N) mixedOK (J := sha_words_J N) (cx := 0) (body := sha_words_c0) (nt := 16) (l := sha_words_d0) (b := sha_words_b0 N) (jok_from sha_words_i0 ⟨trivial, trivial⟩) (sha_words_e0 N) N
theorem sha_words_i : loopsOf sha_words_c = [(0, sha_words_c0)] := by kernel_rfl
noncomputable def sha_words_a (N : Nat) (f0 : Int × Int → Option ((List Int))) (f1 : Int × Int × (List Int) → Option ((List Int))) (x : (List Int)) : Option ((List Int)) :=
  (Option.bind (sha_words_l0 N (x, (0 : Int), ([] : List Int))) fun r1 =>
  (some r1))
theorem sha_words_f (N : Nat) (f0 : Int × Int → Option ((List Int))) (f1 : Int × Int × (List Int) → Option ((List Int))) (x) : sha_words_a N f0 f1 x = fnStep Γ (sha_words_CA N f0 f1) (sha_words_J N) 16 Try.f43.results.toList (sha_words_g N) sha_words_o sha_words_c x := by kernel_rfl
theorem sha_words_e (N : Nat) (x) : (sha_words_g N).F x = fnStep Γ (sha_words_C N) (sha_words_J N) 16 Try.f43.results.toList (sha_words_g N) sha_words_o sha_words_c x := by
  rw [← sha_words_CE N]
  exact Eq.trans (by kernel_rfl) (sha_words_f N (octet_Put_v1 N) (octet_Put_v2 N) x)
theorem sha_words_y : Try.f43.body = some sha_words_c := by kernel_rfl
theorem sha_words_n : (Try.f43.name == "runtime.NumGoroutine") = false := by kernel_rfl
theorem sha_words_ok (N : Nat) : FnDoes Try.prog 43 (sha_words_g N) := fn_ok tabOK (sha_words_t N) mixedOK (J := sha_words_J N) (body := sha_words_c) Try.func43 sha_words_y sha_words_n Try.ntmps43 (jok_from sha_words_i ⟨⟨.inr ⟨_, rfl, sha_words_k0 N⟩, trivial⟩, trivial⟩) rfl rfl (le_of_ble rfl) (sha_words_e N)
noncomputable def sha_Hash_Sum_c : Code := codeOf Try.f23.body
noncomputable def sha_Hash_Sum_c0 : Code := codeOf (getLoop 0 sha_Hash_Sum_c)
def sha_Hash_Sum_d0 : LD := { ins := ⟨[(0, (.av (.one (.const (.ptr ⟨0, 0, 0, 0⟩))))), (2, (.av (.one (.const (.ptr ⟨4, 0, 0, 0⟩))))), (3, (.av (.one (.const (.ptr ⟨6, 0, 0, 0⟩))))), (4, (.av (.one (.sl 9 1))))], [(.sh (.arr (.int .u32) (some 8)), true), (.sh (.one (.int .u64)), true), (.sh (.one (.const (.slw 3 1))), false), (.sh (.arr (.int .u8) none), false), (.keep, false), (.keep, false), (.keep, false), (.keep, false), (.keep, false), (.sh (.arr (.int .u8) none), false)]⟩, mov := [9], wr := [0, 1, 2, 3], outs := [(.exit 0, ⟨[(4, (.av (.one (.sl 10 1))))], [(.sh (.arr (.int .u32) (some 8)), true), (.sh (.one (.int .u64)), true), (.sh (.one (.const (.slw 3 1))), false), (.sh (.arr (.int .u8) none), false), (.keep, false), (.keep, false), (.keep, false), (.keep, false), (.keep, false), (.dead, false), (.sh (.arr (.int .u8) none), false)]⟩)], its := [.nat, .nat, .lst (.int .u32), .int, .lst (.int .u8), .lst (.int .u8)], ots := [[.nat, .nat, .lst (.int .u32), .int, .lst (.int .u8), .lst (.int .u8)]] }
noncomputable def sha_Hash_Sum_J (N : Nat) : Nat → Hint := fun cx => hintOf cx [(0, { reg := fun k => assoc0 k [], cnd := fun k => assoc0 k [], loop := fun k => assoc0 k [(0, ⟨sha_Hash_Sum_d0, loopF (sha_Hash_Sum_b0 N) N⟩)], nil := fun k => assoc0 k [], unr := fun k => assocN k [], blk := fun k => assoc0 k [] })]
noncomputable def sha_Hash_Sum_C (N : Nat) : Nat → List GS := fun k => tabOf k [(41, [slices_Clone_byte_byte_g N]), (42, [octet_Put_g N]), (21, [sha_Hash_Write_v1_g N]), (43, [sha_words_g N])]
def sha_Hash_Sum_o : List (Shp × List Nat) := [(⟨[(0, (.av (.agg [(.arr (.int .u8) (some 32))])))], [(.sh (.arr (.int .u32) (some 8)), true), (.sh (.one (.int .u64)), true), (.sh (.one (.const (.slw 3 1))), false), (.sh (.arr (.int .u8) none), false)]⟩, [])]
noncomputable def sha_Hash_Sum_g (N : Nat) : GS := { ins := ⟨[(0, (.av (.one (.const (.ptr ⟨0, 0, 0, 0⟩)))))], [(some (.arr (.int .u32) (some 8)), true), (some (.one (.int .u64)), true), (some (.one (.const (.slw 3 1))), false), (some (.arr (.int .u8) none), false)]⟩, lend := [.keep], outs := sha_Hash_Sum_o.map fun s => ssOf s.1, its := [.lst (.int .u32), .int, .lst (.int .u8)], ots := [[.lst (.int .u8), .lst (.int .u32), .int, .lst (.int .u8)]], F := sha_Hash_Sum N }
noncomputable def sha_Hash_Sum_CA (N : Nat) (f0 : (List Int) → Option ((List Int))) (f1 : Nat × Nat × Int × Int × (List Int) → Option ((List Int))) (f2 : (List Int) × (List Int) × Int × (List Int) → Option ((List Int) × Int × (List Int))) (f3 : (List Int) → Option ((List Int))) : Nat → List GS := fun k => tabOf k [(41, [{ slices_Clone_byte_byte_g N with F := f0 }]), (42, [{ octet_Put_g N with F := f1 }]), (21, [{ sha_Hash_Write_v1_g N with F := f2 }]), (43, [{ sha_words_g N with F := f3 }])]
theorem sha_Hash_Sum_CE (N : Nat) : sha_Hash_Sum_CA N (slices_Clone_byte_byte) (octet_Put N) (sha_Hash_Write_v1 N) (sha_words N) = sha_Hash_Sum_C N := by kernel_rfl
theorem sha_Hash_Sum_t (N : Nat) : TabC Try.prog (sha_Hash_Sum_C N) := tab_ok ⟨⟨slices_Clone_byte_byte_ok N, trivial⟩, ⟨octet_Put_ok N, trivial⟩, ⟨sha_Hash_Write_v1_ok N, trivial⟩, ⟨sha_words_ok N, trivial⟩, trivial⟩
theorem sha_Hash_Sum_i0 : loopsOf sha_Hash_Sum_c0 = [] := by kernel_rfl
noncomputable def sha_Hash_Sum_a0 (N : Nat) (f0 : (List Int) → Option ((List Int))) (f1 : Nat × Nat × Int × Int × (List Int) → Option ((List Int))) (f2 : (List Int) × (List Int) × Int × (List Int) → Option ((List Int) × Int × (List Int))) (f3 : (List Int) → Option ((List Int))) (next : Nat × Nat × (List Int) × Int × (List Int) × (List Int) → Option ((Nat × Nat × (List Int) × Int × (List Int) × (List Int)))) (x : Nat × Nat × (List Int) × Int × (List Int) × (List Int)) : Option ((Nat × Nat × (List Int) × Int × (List Int) × (List Int))) :=
  (cond (!(decide ((Int.tmod (wrapF .i64 ((wrapF .i64 ((((List.length x.2.2.2.2.1) : Nat) : Int) + ((x.2.1 : Nat) : Int))) + (8 : Int))) (64 : Int)) = (0 : Int))))
  (let v7 : List Int := ([(0 : Int)] : List Int)
  (cond (((decide (1 ≤ (List.length v7))) && (decide (x.1 + x.2.1 = (List.length x.2.2.2.2.2)))) && (fits 1 (x.2.1 + (List.length (List.take 1 (List.drop 0 v7))))))
  ((let v8 : List Int := (List.drop x.1 x.2.2.2.2.2 ++ (List.take 1 (List.drop 0 v7)))
  (next (0, (List.length v8), x.2.2.1, x.2.2.2.1, x.2.2.2.2.1, v8))))
  none))
  (some (x.1, x.2.1, x.2.2.1, x.2.2.2.1, x.2.2.2.2.1, x.2.2.2.2.2)))
theorem sha_Hash_Sum_f0 (N : Nat) (f0 : (List Int) → Option ((List Int))) (f1 : Nat × Nat × Int × Int × (List Int) → Option ((List Int))) (f2 : (List Int) × (List Int) × Int × (List Int) → Option ((List Int) × Int × (List Int))) (f3 : (List Int) → Option ((List Int))) (next) (x) : sha_Hash_Sum_a0 N f0 f1 f2 f3 next x = loopStep Γ (sha_Hash_Sum_CA N f0 f1 f2 f3) (sha_Hash_Sum_J N) 0 52 sha_Hash_Sum_d0 sha_Hash_Sum_c0 next x := by kernel_rfl
theorem sha_Hash_Sum_e0 (N : Nat) (next) (x) : sha_Hash_Sum_b0 N next x = loopStep Γ (sha_Hash_Sum_C N) (sha_Hash_Sum_J N) 0 52 sha_Hash_Sum_d0 sha_Hash_Sum_c0 next x := by
  rw [← sha_Hash_Sum_CE N]
  exact Eq.trans (by kernel_rfl) (sha_Hash_Sum_f0 N (slices_Clone_byte_byte) (octet_Put N) (sha_Hash_Write_v1 N) (sha_words N) next x)
theorem sha_Hash_Sum_k0 (N : Nat) : LoopOK Try.prog 52 sha_Hash_Sum_c0 ⟨sha_Hash_Sum_d0, loopF (sha_Hash_Sum_b0 N) N⟩ := loop_ok tabOK (sha_Hash_Sum_t N) mixedOK (J := sha_Hash_Sum_J N) (cx := 0) (body := sha_Hash_Sum_c0) (nt := 52) (l := sha_Hash_Sum_d0) (b := sha_Hash_Sum_b0 N) (jok_from sha_Hash_Sum_i0 ⟨trivial, trivial⟩) (sha_Hash_Sum_e0 N) N
theorem sha_Hash_Sum_i : loopsOf sha_Hash_Sum_c = [(0, sha_Hash_Sum_c0)] := by kernel_rfl
noncomputable def sha_Hash_Sum_a (N : Nat) (f0 : (List Int) → Option ((List Int))) (f1 : Nat × Nat × Int × Int × (List Int) → Option ((List Int))) (f2 : (List Int) × (List Int) × Int × (List Int) → Option ((List Int) × Int × (List Int))) (f3 : (List Int) → Option ((List Int))) (x : (List Int) × Int × (List Int)) : Option ((List Int) × (List Int) × Int × (List Int)) :=
  (Option.bind (f0 x.2.2) fun r2 =>
  (Option.bind (sha_Hash_Sum_l0 N (0, 1, x.1, x.2.1, x.2.2, ([(128 : Int)] : List Int))) fun r4 =>
  (Option.bind (f1 (r4.1, r4.2.1, (wrapF .u64 ((8 : Int) * r4.2.2.2.1)), (8 : Int), r4.2.2.2.2.2)) fun r6 =>
  (Option.bind (f2 (r6, x.1, (0 : Int), r2)) fun r7 =>
  (let v8 : List Int := (List.replicate 32 (EK.dflt (.int .u8)))
  (Option.bind (f3 r7.1) fun r9 =>
  (cond (decide (32 ≤ (List.length v8)))
  ((some ((List.take 0 v8 ++ List.take (min (List.length r9) 32) r9 ++ List.drop (0 + (min (List.length r9) 32)) v8), r4.2.2.1, r4.2.2.2.1, r4.2.2.2.2.1)))
  none)))))))
theorem sha_Hash_Sum_f (N : Nat) (f0 : (List Int) → Option ((List Int))) (f1 : Nat × Nat × Int × Int × (List Int) → Option ((List Int))) (f2 : (List Int) × (List Int) × Int × (List Int) → Option ((List Int) × Int × (List Int))) (f3 : (List Int) → Option ((List Int))) (x) : sha_Hash_Sum_a N f0 f1 f2 f3 x = fnStep Γ (sha_Hash_Sum_CA N f0 f1 f2 f3) (sha_Hash_Sum_J N) 52 Try.f23.results.toList (sha_Hash_Sum_g N) sha_Hash_Sum_o sha_Hash_Sum_c x := by kernel_rfl
theorem sha_Hash_Sum_e (N : Nat) (x) : (sha_Hash_Sum_g N).F x = fnStep Γ (sha_Hash_Sum_C N) (sha_Hash_Sum_J N) 52 Try.f23.results.toList (sha_Hash_Sum_g N) sha_Hash_Sum_o sha_Hash_Sum_c x := by
  rw [← sha_Hash_Sum_CE N]
  exact Eq.trans (by kernel_rfl) (sha_Hash_Sum_f N (slices_Clone_byte_byte) (octet_Put N) (sha_Hash_Write_v1 N) (sha_words N) x)
theorem sha_Hash_Sum_y : Try.f23.body = some sha_Hash_Sum_c := by kernel_rfl
theorem sha_Hash_Sum_n : (Try.f23.name == "runtime.NumGoroutine") = false := by kernel_rfl
theorem sha_Hash_Sum_ok (N : Nat) : FnDoes Try.prog 23 (sha_Hash_Sum_g N) := fn_ok tabOK (sha_Hash_Sum_t N) mixedOK (J := sha_Hash_Sum_J N) (body := sha_Hash_Sum_c) Try.func23 sha_Hash_Sum_y sha_Hash_Sum_n Try.ntmps23 (jok_from sha_Hash_Sum_i ⟨⟨.inr ⟨_, rfl, sha_Hash_Sum_k0 N⟩, trivial⟩, trivial⟩) rfl rfl (le_of_ble rfl) (sha_Hash_Sum_e N)
noncomputable def sha_Sum_c : Code := codeOf Try.f10.body
noncomputable def sha_Sum_J (N : Nat) : Nat → Hint := fun cx => hintOf cx []
noncomputable def sha_Sum_C (N : Nat) : Nat → List GS := fun k => tabOf k [(32, [sha_New_g N]), (21, [sha_Hash_Write_g N]), (23, [sha_Hash_Sum_g N])]
def sha_Sum_o : List (Shp × List Nat) := [(⟨[(0, (.av (.agg [(.arr (.int .u8) (some 32))])))], []⟩, [])]
noncomputable def sha_Sum_g (N : Nat) : GS := { ins := ⟨[(0, (.av (.one (.rsl (.int .u8)))))], []⟩, lend := [.lend (.int .u8)], outs := sha_Sum_o.map fun s => ssOf s.1, its := [.lst (.int .u8)], ots := [[.lst (.int .u8)]], F := sha_Sum N }
noncomputable def sha_Sum_CA (N : Nat) (f0 : Unit → Option ((List Int))) (f1 : (List Int) × (List Int) × Int → Option ((List Int) × Int × (List Int))) (f2 : (List Int) × Int × (List Int) → Option ((List Int) × (List Int) × Int × (List Int))) : Nat → List GS := fun k => tabOf k [(32, [{ sha_New_g N with F := f0 }]), (21, [{ sha_Hash_Write_g N with F := f1 }]), (23, [{ sha_Hash_Sum_g N with F := f2 }])]
theorem sha_Sum_CE (N : Nat) : sha_Sum_CA N (sha_New) (sha_Hash_Write N) (sha_Hash_Sum N) = sha_Sum_C N := by kernel_rfl
theorem sha_Sum_t (N : Nat) : TabC Try.prog (sha_Sum_C N) := tab_ok ⟨⟨sha_New_ok N, trivial⟩, ⟨sha_Hash_Write_ok N, trivial⟩, ⟨sha_Hash_Sum_ok N, trivial⟩, trivial⟩
theorem sha_Sum_i : loopsOf sha_Sum_c = [] := by kernel_rfl
noncomputable def sha_Sum_a (N : Nat) (f0 : Unit → Option ((List Int))) (f1 : (List Int) × (List Int) × Int → Option ((List Int) × Int × (List Int))) (f2 : (List Int) × Int × (List Int) → Option ((List Int) × (List Int) × Int × (List Int))) (x : (List Int)) : Option ((List Int)) :=
  (Option.bind (f0 ()) fun r2 =>
  (Option.bind (f1 (x, r2, (0 : Int))) fun r3 =>
  (Option.bind (f2 (r3.1, r3.2.1, r3.2.2)) fun r4 =>
  (some r4.1))))
theorem sha_Sum_f (N : Nat) (f0 : Unit → Option ((List Int))) (f1 : (List Int) × (List Int) × Int → Option ((List Int) × Int × (List Int))) (f2 : (List Int) × Int × (List Int) → Option ((List Int) × (List Int) × Int × (List Int))) (x) : sha_Sum_a N f0 f1 f2 x = fnStep Γ (sha_Sum_CA N f0 f1 f2) (sha_Sum_J N) 10 Try.f10.results.toList (sha_Sum_g N) sha_Sum_o sha_Sum_c x := by kernel_rfl
theorem sha_Sum_e (N : Nat) (x) : (sha_Sum_g N).F x = fnStep Γ (sha_Sum_C N) (sha_Sum_J N) 10 Try.f10.results.toList (sha_Sum_g N) sha_Sum_o sha_Sum_c x := by
  rw [← sha_Sum_CE N]
  exact Eq.trans (by kernel_rfl) (sha_Sum_f N (sha_New) (sha_Hash_Write N) (sha_Hash_Sum N) x)
theorem sha_Sum_y : Try.f10.body = some sha_Sum_c := by kernel_rfl
theorem sha_Sum_n : (Try.f10.name == "runtime.NumGoroutine") = false := by kernel_rfl
theorem sha_Sum_ok (N : Nat) : FnDoes Try.prog 10 (sha_Sum_g N) := fn_ok tabOK (sha_Sum_t N) mixedOK (J := sha_Sum_J N) (body := sha_Sum_c) Try.func10 sha_Sum_y sha_Sum_n Try.ntmps10 (jok_from sha_Sum_i trivial) rfl rfl (le_of_ble rfl) (sha_Sum_e N)
noncomputable def sha_Hash_Write_v2_c : Code := codeOf Try.f21.body
noncomputable def sha_Hash_Write_v2_c0 : Code := codeOf (getLoop 0 sha_Hash_Write_v2_c)
def sha_Hash_Write_v2_d0 : LD := { ins := ⟨[(0, (.av (.one (.const (.ptr ⟨0, 0, 0, 0⟩))))), (4, (.av (.one (.sl 3 1))))], [(.sh (.arr (.int .u32) (some 8)), true), (.sh (.one (.int .u64)), true), (.sh (.one (.const .nils)), false), (.sh (.arr (.int .u8) none), false)]⟩, mov := [], wr := [0, 1, 2, 3], outs := [(.exit 0, ⟨[(4, (.av (.one (.sl 3 1))))], [(.sh (.arr (.int .u32) (some 8)), true), (.sh (.one (.int .u64)), true), (.sh (.one (.const .nils)), false), (.sh (.arr (.int .u8) none), false)]⟩)], its := [.nat, .nat, .lst (.int .u32), .int, .lst (.int .u8)], ots := [[.nat, .nat, .lst (.int .u32), .int, .lst (.int .u8)]] }
noncomputable def sha_Hash_Write_v2_J (N : Nat) : Nat → Hint := fun cx => hintOf cx [(0, { reg := fun k => assoc0 k [], cnd := fun k => assoc0 k [], loop := fun k => assoc0 k [(0, ⟨sha_Hash_Write_v2_d0, loopF (sha_Hash_Write_v2_b0 N) N⟩)], nil := fun k => assoc0 k [], unr := fun k => assocN k [], blk := fun k => assoc0 k [] })]
noncomputable def sha_Hash_Write_v2_C (N : Nat) : Nat → List GS := fun k => tabOf k [(40, [sha_Hash_round_g N]), (41, [slices_Clone_byte_byte_g N])]
def sha_Hash_Write_v2_o : List (Shp × List Nat) := [(⟨[(0, (.tup []))], [(.sh (.arr (.int .u32) (some 8)), true), (.sh (.one (.int .u64)), true), (.sh (.one (.const (.slw 3 1))), false), (.sh (.arr (.int .u8) none), false)]⟩, [])]
noncomputable def sha_Hash_Write_v2_g (N : Nat) : GS := { ins := ⟨[(0, (.av (.one (.const (.ptr ⟨0, 0, 0, 0⟩))))), (1, (.av (.one (.rsl (.int .u8)))))], [(some (.arr (.int .u32) (some 8)), true), (some (.one (.int .u64)), true), (some (.one (.const .nils)), false)]⟩, lend := [.keep, .lend (.int .u8)], outs := sha_Hash_Write_v2_o.map fun s => ssOf s.1, its := [.lst (.int .u8), .lst (.int .u32), .int], ots := [[.lst (.int .u32), .int, .lst (.int .u8)]], F := sha_Hash_Write_v2 N }
noncomputable def sha_Hash_Write_v2_CA (N : Nat) (f0 : (List Int) × (List Int) × Int → Option ((List Int) × Int)) (f1 : (List Int) → Option ((List Int))) : Nat → List GS := fun k => tabOf k [(40, [{ sha_Hash_round_g N with F := f0 }]), (41, [{ slices_Clone_byte_byte_g N with F := f1 }])]
theorem sha_Hash_Write_v2_CE (N : Nat) : sha_Hash_Write_v2_CA N (sha_Hash_round N) (slices_Clone_byte_byte) = sha_Hash_Write_v2_C N := by kernel_rfl
theorem sha_Hash_Write_v2_t (N : Nat) : TabC Try.prog (sha_Hash_Write_v2_C N) := tab_ok ⟨⟨sha_Hash_round_ok N, trivial⟩, ⟨slices_Clone_byte_byte_ok N, trivial⟩, trivial⟩
theorem sha_Hash_Write_v2_i0 : loopsOf sha_Hash_Write_v2_c0 = [] := by kernel_rfl
noncomputable def sha_Hash_Write_v2_a0 (N : Nat) (f0 : (List Int) × (List Int) × Int → Option ((List Int) × Int)) (f1 : (List Int) → Option ((List Int))) (next : Nat × Nat × (List Int) × Int × (List Int) → Option ((Nat × Nat × (List Int) × Int × (List Int)))) (x : Nat × Nat × (List Int) × Int × (List Int)) : Option ((Nat × Nat × (List Int) × Int × (List Int))) :=
  (cond (decide ((64 : Int) ≤ ((x.2.1 : Nat) : Int)))
  (cond (decide ((64 : Int) ≤ ((x.2.1 : Nat) : Int)))
  ((let v3 : Nat := (0 + x.1)
  (cond (cond (decide ((v3 + 64) ≤ (List.length x.2.2.2.2))) true false)
  (Option.bind (f0 ((List.take 64 (List.drop v3 x.2.2.2.2)), x.2.2.1, x.2.2.2.1)) fun r4 =>
  (cond ((decide ((64 : Int) ≤ ((x.2.1 : Nat) : Int))) && (decide (((x.2.1 : Nat) : Int) ≤ ((x.2.1 : Nat) : Int))))
  ((next ((64 + x.1), (x.2.1 - 64), r4.1, r4.2, x.2.2.2.2)))
  none))
  none)))
  none)
  (some (x.1, x.2.1, x.2.2.1, x.2.2.2.1, x.2.2.2.2)))
theorem sha_Hash_Write_v2_f0 (N : Nat) (f0 : (List Int) × (List Int) × Int → Option ((List Int) × Int)) (f1 : (List Int) → Option ((List Int))) (next) (x) : sha_Hash_Write_v2_a0 N f0 f1 next x = loopStep Γ (sha_Hash_Write_v2_CA N f0 f1) (sha_Hash_Write_v2_J N) 0 37 sha_Hash_Write_v2_d0 sha_Hash_Write_v2_c0 next x := by kernel_rfl
theorem sha_Hash_Write_v2_e0 (N : Nat) (next) (x) : sha_Hash_Write_v2_b0 N next x = loopStep Γ (sha_Hash_Write_v2_C N) (sha_Hash_Write_v2_J N) 0 37 sha_Hash_Write_v2_d0 sha_Hash_Write_v2_c0 next x := by
  rw [← sha_Hash_Write_v2_CE N]
  exact Eq.trans (by kernel_rfl) (sha_Hash_Write_v2_f0 N (sha_Hash_round N) (slices_Clone_byte_byte) next x)
theorem sha_Hash_Write_v2_k0 (N : Nat) : LoopOK Try.prog 37 sha_Hash_Write_v2_c0 ⟨sha_Hash_Write_v2_d0, loopF (sha_Hash_Write_v2_b0 N) N⟩ := loop_ok tabOK (sha_Hash_Write_v2_t N) mixedOK (J := sha_Hash_Write_v2_J N) (cx := 0) (body := sha_Hash_Write_v2_c0) (nt := 37) (l := sha_Hash_Write_v2_d0) (b := sha_Hash_Write_v2_b0 N) (jok_from sha_Hash_Write_v2_i0 ⟨trivial, trivial⟩) (sha_Hash_Write_v2_e0 N) N
theorem sha_Hash_Write_v2_i : loopsOf sha_Hash_Write_v2_c = [(0, sha_Hash_Write_v2_c0)] := by kernel_rfl
noncomputable def sha_Hash_Write_v2_a (N : Nat) (f0 : (List Int) × (List Int) × Int → Option ((List Int) × Int)) (f1 : (List Int) → Option ((List Int))) (x : (List Int) × (List Int) × Int) : Option ((List Int) × Int × (List Int)) :=
  (cond (fits 1 (List.length x.1))
  ((Option.bind (sha_Hash_Write_v2_l0 N (0, (List.length x.1), x.2.1, (wrapF .u64 (x.2.2 + (wrapF .u64 (((List.length x.1) : Nat) : Int)))), x.1)) fun r4 =>
  (cond (cond (decide ((r4.1 + r4.2.1) ≤ (List.length r4.2.2.2.2))) true false)
  (Option.bind (f1 (List.take r4.2.1 (List.drop r4.1 r4.2.2.2.2))) fun r5 =>
  (some (r4.2.2.1, r4.2.2.2.1, r5)))
  none)))
  none)
theorem sha_Hash_Write_v2_f (N : Nat) (f0 : (List Int) × (List Int) × Int → Option ((List Int) × Int)) (f1 : (List Int) → Option ((List Int))) (x) : sha_Hash_Write_v2_a N f0 f1 x = fnStep Γ (sha_Hash_Write_v2_CA N f0 f1) (sha_Hash_Write_v2_J N) 37 Try.f21.results.toList (sha_Hash_Write_v2_g N) sha_Hash_Write_v2_o sha_Hash_Write_v2_c x := by kernel_rfl
theorem sha_Hash_Write_v2_e (N : Nat) (x) : (sha_Hash_Write_v2_g N).F x = fnStep Γ (sha_Hash_Write_v2_C N) (sha_Hash_Write_v2_J N) 37 Try.f21.results.toList (sha_Hash_Write_v2_g N) sha_Hash_Write_v2_o sha_Hash_Write_v2_c x := by
  rw [← sha_Hash_Write_v2_CE N]
  exact Eq.trans (by kernel_rfl) (sha_Hash_Write_v2_f N (sha_Hash_round N) (slices_Clone_byte_byte) x)
theorem sha_Hash_Write_v2_y : Try.f21.body = some sha_Hash_Write_v2_c := by kernel_rfl
theorem sha_Hash_Write_v2_n : (Try.f21.name == "runtime.NumGoroutine") = false := by kernel_rfl
theorem sha_Hash_Write_v2_ok (N : Nat) : FnDoes Try.prog 21 (sha_Hash_Write_v2_g N) := fn_ok tabOK (sha_Hash_Write_v2_t N) mixedOK (J := sha_Hash_Write_v2_J N) (body := sha_Hash_Write_v2_c) Try.func21 sha_Hash_Write_v2_y sha_Hash_Write_v2_n Try.ntmps21 (jok_from sha_Hash_Write_v2_i ⟨⟨.inr ⟨_, rfl, sha_Hash_Write_v2_k0 N⟩, trivial⟩, trivial⟩) rfl rfl (le_of_ble rfl) (sha_Hash_Write_v2_e N)
noncomputable def sha_value_c : Code := codeOf Try.f38.body
noncomputable def sha_value_J (N : Nat) : Nat → Hint := fun cx => hintOf cx [(0, { reg := fun k => assoc0 k [(1, ⟨⟨[(3, (.av (.one .bool)))], []⟩, [], [], [.bool]⟩), (3, ⟨⟨[(13, (.av (.one .bool)))], []⟩, [], [], [.bool]⟩)], cnd := fun k => assoc0 k [], loop := fun k => assoc0 k [], nil := fun k => assoc0 k [], unr := fun k => assocN k [], blk := fun k => assoc0 k [] })]
noncomputable def sha_value_C (N : Nat) : Nat → List GS := fun k => tabOf k []
def sha_value_o : List (Shp × List Nat) := [(⟨[(0, (.av (.one (.int .i64))))], []⟩, [])]
noncomputable def sha_value_g (N : Nat) : GS := { ins := ⟨[(0, (.av (.one (.int .u8))))], []⟩, lend := [.keep], outs := sha_value_o.map fun s => ssOf s.1, its := [.int], ots := [[.int]], F := sha_value }
theorem sha_value_t (N : Nat) : TabC Try.prog (sha_value_C N) := tab_ok trivial
theorem sha_value_i : loopsOf sha_value_c = [] := by kernel_rfl
theorem sha_value_e (N : Nat) (x) : (sha_value_g N).F x = fnStep Γ (sha_value_C N) (sha_value_J N) 24 Try.f38.results.toList (sha_value_g N) sha_value_o sha_value_c x := by kernel_rfl
theorem sha_value_y : Try.f38.body = some sha_value_c := by kernel_rfl
theorem sha_value_n : (Try.f38.name == "runtime.NumGoroutine") = false := by kernel_rfl
theorem sha_value_ok (N : Nat) : FnDoes Try.prog 38 (sha_value_g N) := fn_ok tabOK (sha_value_t N) mixedOK (J := sha_value_J N) (body := sha_value_c) Try.func38 sha_value_y sha_value_n Try.ntmps38 (jok_from sha_value_i ⟨trivial, trivial⟩) rfl rfl (le_of_ble rfl) (sha_value_e N)
noncomputable def sha_Parse_c : Code := codeOf Try.f16.body
noncomputable def sha_Parse_c0 : Code := codeOf (getLoop 0 sha_Parse_c)
def sha_Parse_d0 : LD := { ins := ⟨[(0, (.av (.one .str))), (2, (.av (.one (.const (.ptr ⟨0, 0, 0, 0⟩))))), (5, (.av (.one (.const (.ptr ⟨1, 0, 0, 0⟩))))), (6, (.av (.one (.const (.int .i64 (64 : Int)))))), (12, (.av (.one (.int .i64)))), (13, (.av (.one (.int .i64))))], [(.sh (.arr (.int .u8) (some 32)), false), (.sh (.arr (.int .u8) (some 32)), false)]⟩, mov := [], wr := [0, 1], outs := [(.ret, ⟨[(3, (.av (.one (.const (.int .i64 (50 : Int)))))), (4, (.av (.one (.int .i64))))], [(.sh (.arr (.int .u8) (some 32)), false), (.sh (.arr (.int .u8) (some 32)), false)]⟩), (.exit 0, ⟨[], [(.sh (.arr (.int .u8) (some 32)), false), (.sh (.arr (.int .u8) (some 32)), false)]⟩)], its := [.str, .int, .int, .lst (.int .u8), .lst (.int .u8)], ots := [[.int, .lst (.int .u8), .lst (.int .u8)], [.lst (.int .u8), .lst (.int .u8)]] }
noncomputable def sha_Parse_J (N : Nat) : Nat → Hint := fun cx => hintOf cx [(0, { reg := fun k => assoc0 k [], cnd := fun k => assoc0 k [], loop := fun k => assoc0 k [(0, ⟨sha_Parse_d0, loopF (sha_Parse_b0 N) N⟩)], nil := fun k => assoc0 k [], unr := fun k => assocN k [], blk := fun k => assoc0 k [] })]
noncomputable def sha_Parse_C (N : Nat) : Nat → List GS := fun k => tabOf k [(38, [sha_value_g N])]
def sha_Parse_o : List (Shp × List Nat) := [(⟨[(0, (.tup [(.agg [(.arr (.int .u8) (some 32))]), (.one (.int .i64)), (.one (.int .i64))]))], []⟩, [])]
noncomputable def sha_Parse_g (N : Nat) : GS := { ins := ⟨[(0, (.av (.one .str)))], []⟩, lend := [.keep], outs := sha_Parse_o.map fun s => ssOf s.1, its := [.str], ots := [[.lst (.int .u8), .int, .int]], F := sha_Parse N }
noncomputable def sha_Parse_CA (N : Nat) (f0 : Int → Option (Int)) : Nat → List GS := fun k => tabOf k [(38, [{ sha_value_g N with F := f0 }])]
theorem sha_Parse_CE (N : Nat) : sha_Parse_CA N (sha_value) = sha_Parse_C N := by kernel_rfl
theorem sha_Parse_t (N : Nat) : TabC Try.prog (sha_Parse_C N) := tab_ok ⟨⟨sha_value_ok N, trivial⟩, trivial⟩
theorem sha_Parse_i0 : loopsOf sha_Parse_c0 = [] := by kernel_rfl
noncomputable def sha_Parse_a0 (N : Nat) (f0 : Int → Option (Int)) (next : (List UInt8) × Int × Int × (List Int) × (List Int) → Option ((Int × (List Int) × (List Int)) ⊕ ((List Int) × (List Int)))) (x : (List UInt8) × Int × Int × (List Int) × (List Int)) : Option ((Int × (List Int) × (List Int)) ⊕ ((List Int) × (List Int))) :=
  (cond (decide (x.2.2.1 < x.2.1))
  (cond ((decide ((0 : Int) ≤ x.2.2.1)) && (decide (x.2.2.1 < (((List.length x.1) : Nat) : Int))))
  ((Option.bind (f0 ((List.getD x.1 (Int.toNat x.2.2.1) 0).toNat : Int)) fun r3 =>
  (cond (decide (r3 < (0 : Int)))
  (some (.inl (x.2.2.1, (List.replicate 32 (EK.dflt (.int .u8))), x.2.2.2.2)))
  (let v6 : Int := (wrapF .i64 (Int.tdiv x.2.2.1 (2 : Int)))
  (let v7 : Int := (wrapF .i64 (Int.tdiv x.2.2.1 (2 : Int)))
  (cond ((decide ((0 : Int) ≤ v7)) && (decide (v7 < (32 : Int))))
  ((let v8 : Nat := (Int.toNat v7)
  (cond (decide (v8 < (List.length x.2.2.2.2)))
  ((cond ((decide ((0 : Int) ≤ v6)) && (decide (v6 < (32 : Int))))
  ((let v13 : Nat := (Int.toNat v6)
  (cond (decide (v13 < (List.length x.2.2.2.2)))
  ((next (x.1, x.2.1, (wrapF .i64 (x.2.2.1 + (1 : Int))), x.2.2.2.1, (List.set x.2.2.2.2 v13 (orF .u8 (shlF .u8 (List.getD x.2.2.2.2 v8 (EK.dflt (.int .u8))) (4 : Int)) (wrapF .u8 r3))))))
  none)))
  none))
  none)))
  none))))))
  none)
  (some (.inr ((x.2.2.2.1, x.2.2.2.2)))))
theorem sha_Parse_f0 (N : Nat) (f0 : Int → Option (Int)) (next) (x) : sha_Parse_a0 N f0 next x = loopStep Γ (sha_Parse_CA N f0) (sha_Parse_J N) 0 52 sha_Parse_d0 sha_Parse_c0 next x := by kernel_rfl
theorem sha_Parse_e0 (N : Nat) (next) (x) : sha_Parse_b0 N next x = loopStep Γ (sha_Parse_C N) (sha_Parse_J N) 0 52 sha_Parse_d0 sha_Parse_c0 next x := by
  rw [← sha_Parse_CE N]
  exact Eq.trans (by kernel_rfl) (sha_Parse_f0 N (sha_value) next x)
theorem sha_Parse_k0 (N : Nat) : LoopOK Try.prog 52 sha_Parse_c0 ⟨sha_Parse_d0, loopF (sha_Parse_b0 N) N⟩ := loop_ok tabOK (sha_Parse_t N) mixedOK (J := sha_Parse_J N) (cx := 0) (body := sha_Parse_c0) (nt := 52) (l := sha_Parse_d0) (b := sha_Parse_b0 N) (jok_from sha_Parse_i0 ⟨trivial, trivial⟩) (sha_Parse_e0 N) N
theorem sha_Parse_i : loopsOf sha_Parse_c = [(0, sha_Parse_c0)] := by kernel_rfl
noncomputable def sha_Parse_a (N : Nat) (f0 : Int → Option (Int)) (x : (List UInt8)) : Option ((List Int) × Int × Int) :=
  (let v3 : Int := (((List.length x) : Nat) : Int)
  (Option.bind (sha_Parse_l0 N (x, (if (64 : Int) < v3 then (64 : Int) else v3), (0 : Int), (List.replicate 32 (EK.dflt (.int .u8))), (List.replicate 32 (EK.dflt (.int .u8))))) fun r5 =>
  (match r5 with
  | .inl y6 =>
  (some (y6.2.1, (50 : Int), y6.1))
  | .inr z7 =>
  (cond (decide ((((List.length x) : Nat) : Int) < (64 : Int)))
  (some ((List.replicate 32 (EK.dflt (.int .u8))), (3 : Int), (((List.length x) : Nat) : Int)))
  (cond (decide ((64 : Int) < (((List.length x) : Nat) : Int)))
  (some ((List.replicate 32 (EK.dflt (.int .u8))), (4 : Int), (64 : Int)))
  (some (z7.2, (0 : Int), (0 : Int))))))))
theorem sha_Parse_f (N : Nat) (f0 : Int → Option (Int)) (x) : sha_Parse_a N f0 x = fnStep Γ (sha_Parse_CA N f0) (sha_Parse_J N) 52 Try.f16.results.toList (sha_Parse_g N) sha_Parse_o sha_Parse_c x := by kernel_rfl
theorem sha_Parse_e (N : Nat) (x) : (sha_Parse_g N).F x = fnStep Γ (sha_Parse_C N) (sha_Parse_J N) 52 Try.f16.results.toList (sha_Parse_g N) sha_Parse_o sha_Parse_c x := by
  rw [← sha_Parse_CE N]
  exact Eq.trans (by kernel_rfl) (sha_Parse_f N (sha_value) x)
theorem sha_Parse_y : Try.f16.body = some sha_Parse_c := by kernel_rfl
theorem sha_Parse_n : (Try.f16.name == "runtime.NumGoroutine") = false := by kernel_rfl
theorem sha_Parse_ok (N : Nat) : FnDoes Try.prog 16 (sha_Parse_g N) := fn_ok tabOK (sha_Parse_t N) mixedOK (J := sha_Parse_J N) (body := sha_Parse_c) Try.func16 sha_Parse_y sha_Parse_n Try.ntmps16 (jok_from sha_Parse_i ⟨⟨.inr ⟨_, rfl, sha_Parse_k0 N⟩, trivial⟩, trivial⟩) rfl rfl (le_of_ble rfl) (sha_Parse_e N)
noncomputable def sha_Hex_c : Code := codeOf Try.f18.body
noncomputable def sha_Hex_c0 : Code := codeOf (getLoop 0 sha_Hex_c)
def sha_Hex_d0 : LD := { ins := ⟨[(3, (.av (.one (.const (.slw 1 1))))), (6, (.av (.agg [(.arr (.int .u8) (some 32))]))), (7, (.av (.one (.int .i64))))], [(.keep, false), (.sh (.arr (.int .u8) none), false)]⟩, mov := [1], wr := [], outs := [(.exit 0, ⟨[(3, (.av (.one (.const (.slw 2 1)))))], [(.keep, false), (.dead, false), (.sh (.arr (.int .u8) none), false)]⟩)], its := [.lst (.int .u8), .int, .lst (.int .u8)], ots := [[.lst (.int .u8)]] }
noncomputable def sha_Hex_J (N : Nat) : Nat → Hint := fun cx => hintOf cx [(0, { reg := fun k => assoc0 k [], cnd := fun k => assoc0 k [], loop := fun k => assoc0 k [(0, ⟨sha_Hex_d0, loopF (sha_Hex_b0 N) N⟩)], nil := fun k => assoc0 k [], unr := fun k => assocN k [], blk := fun k => assoc0 k [] })]
noncomputable def sha_Hex_C (N : Nat) : Nat → List GS := fun k => tabOf k []
def sha_Hex_o : List (Shp × List Nat) := [(⟨[(0, (.av (.one .str)))], []⟩, [])]
noncomputable def sha_Hex_g (N : Nat) : GS := { ins := ⟨[(0, (.av (.agg [(.arr (.int .u8) (some 32))])))], []⟩, lend := [.keep], outs := sha_Hex_o.map fun s => ssOf s.1, its := [.lst (.int .u8)], ots := [[.str]], F := sha_Hex N }
theorem sha_Hex_t (N : Nat) : TabC Try.prog (sha_Hex_C N) := tab_ok trivial
theorem sha_Hex_i0 : loopsOf sha_Hex_c0 = [] := by kernel_rfl
theorem sha_Hex_e0 (N : Nat) (next) (x) : sha_Hex_b0 N next x = loopStep Γ (sha_Hex_C N) (sha_Hex_J N) 0 22 sha_Hex_d0 sha_Hex_c0 next x := by kernel_rfl
theorem sha_Hex_k0 (N : Nat) : LoopOK Try.prog 22 sha_Hex_c0 ⟨sha_Hex_d0, loopF (sha_Hex_b0 N) N⟩ := loop_ok tabOK (sha_Hex_t N) mixedOK (J := sha_Hex_J N) (cx := 0) (body := sha_Hex_c0) (nt := 22) (l := sha_Hex_d0) (b := sha_Hex_b0 N) (jok_from sha_Hex_i0 ⟨trivial, trivial⟩) (sha_Hex_e0 N) N
theorem sha_Hex_i : loopsOf sha_Hex_c = [(0, sha_Hex_c0)] := by kernel_rfl
theorem sha_Hex_e (N : Nat) (x) : (sha_Hex_g N).F x = fnStep Γ (sha_Hex_C N) (sha_Hex_J N) 22 Try.f18.results.toList (sha_Hex_g N) sha_Hex_o sha_Hex_c x := by kernel_rfl
theorem sha_Hex_y : Try.f18.body = some sha_Hex_c := by kernel_rfl
theorem sha_Hex_n : (Try.f18.name == "runtime.NumGoroutine") = false := by kernel_rfl
theorem sha_Hex_ok (N : Nat) : FnDoes Try.prog 18 (sha_Hex_g N) := fn_ok tabOK (sha_Hex_t N) mixedOK (J := sha_Hex_J N) (body := sha_Hex_c) Try.func18 sha_Hex_y sha_Hex_n Try.ntmps18 (jok_from sha_Hex_i ⟨⟨.inr ⟨_, rfl, sha_Hex_k0 N⟩, trivial⟩, trivial⟩) rfl rfl (le_of_ble rfl) (sha_Hex_e N)
noncomputable def sha_steps_c : Code := codeOf Try.f37.body
noncomputable def sha_steps_J (N : Nat) : Nat → Hint := fun cx => hintOf cx []
noncomputable def sha_steps_C (N : Nat) : Nat → List GS := fun k => tabOf k []
def sha_steps_o : List (Shp × List Nat) := [(⟨[(0, (.av (.agg [(.arr (.int .u32) (some 16))])))], []⟩, [])]
noncomputable def sha_steps_g (N : Nat) : GS := { ins := ⟨[], []⟩, lend := [], outs := sha_steps_o.map fun s => ssOf s.1, its := [], ots := [[.lst (.int .u32)]], F := sha_steps }
theorem sha_steps_t (N : Nat) : TabC Try.prog (sha_steps_C N) := tab_ok trivial
theorem sha_steps_i : loopsOf sha_steps_c = [] := by kernel_rfl
theorem sha_steps_e (N : Nat) (x) : (sha_steps_g N).F x = fnStep Γ (sha_steps_C N) (sha_steps_J N) 2 Try.f37.results.toList (sha_steps_g N) sha_steps_o sha_steps_c x := by kernel_rfl
theorem sha_steps_y : Try.f37.body = some sha_steps_c := by kernel_rfl
theorem sha_steps_n : (Try.f37.name == "runtime.NumGoroutine") = false := by kernel_rfl
theorem sha_steps_ok (N : Nat) : FnDoes Try.prog 37 (sha_steps_g N) := fn_ok tabOK (sha_steps_t N) mixedOK (J := sha_steps_J N) (body := sha_steps_c) Try.func37 sha_steps_y sha_steps_n Try.ntmps37 (jok_from sha_steps_i trivial) rfl rfl (le_of_ble rfl) (sha_steps_e N)
noncomputable def sha_More_c : Code := codeOf Try.f14.body
noncomputable def sha_More_c0 : Code := codeOf (getLoop 0 sha_More_c)
def sha_More_d0 : LD := { ins := ⟨[(5, (.av (.one (.const (.ptr ⟨0, 0, 0, 0⟩))))), (6, (.av (.one (.int .u32)))), (12, (.av (.one (.rsl (.int .u8))))), (13, (.av (.one (.int .i64)))), (14, (.av (.one (.int .i64))))], [(.sh (.arr (.int .u32) (some 16)), false)]⟩, mov := [], wr := [0], outs := [(.exit 0, ⟨[(6, (.av (.one (.int .u32))))], [(.sh (.arr (.int .u32) (some 16)), false)]⟩)], its := [.int, .lst (.int .u8), .int, .int, .lst (.int .u32)], ots := [[.int, .lst (.int .u32)]] }
noncomputable def sha_More_J (N : Nat) : Nat → Hint := fun cx => hintOf cx [(0, { reg := fun k => assoc0 k [], cnd := fun k => assoc0 k [], loop := fun k => assoc0 k [(0, ⟨sha_More_d0, loopF (sha_More_b0 N) N⟩)], nil := fun k => assoc0 k [], unr := fun k => assocN k [], blk := fun k => assoc0 k [] })]
noncomputable def sha_More_C (N : Nat) : Nat → List GS := fun k => tabOf k [(37, [sha_steps_g N])]
def sha_More_o : List (Shp × List Nat) := [(⟨[(0, (.av (.one (.int .u32))))], []⟩, [])]
noncomputable def sha_More_g (N : Nat) : GS := { ins := ⟨[(0, (.av (.one (.int .u32)))), (1, (.av (.one (.rsl (.int .u8)))))], []⟩, lend := [.keep, .keep], outs := sha_More_o.map fun s => ssOf s.1, its := [.int, .lst (.int .u8)], ots := [[.int]], F := sha_More N }
noncomputable def sha_More_CA (N : Nat) (f0 : Unit → Option ((List Int))) : Nat → List GS := fun k => tabOf k [(37, [{ sha_steps_g N with F := f0 }])]
theorem sha_More_CE (N : Nat) : sha_More_CA N (sha_steps) = sha_More_C N := by kernel_rfl
theorem sha_More_t (N : Nat) : TabC Try.prog (sha_More_C N) := tab_ok ⟨⟨sha_steps_ok N, trivial⟩, trivial⟩
theorem sha_More_i0 : loopsOf sha_More_c0 = [] := by kernel_rfl
noncomputable def sha_More_a0 (N : Nat) (f0 : Unit → Option ((List Int))) (next : Int × (List Int) × Int × Int × (List Int) → Option ((Int × (List Int)))) (x : Int × (List Int) × Int × Int × (List Int)) : Option ((Int × (List Int))) :=
  (cond (decide (x.2.2.2.1 < x.2.2.1))
  (cond ((decide ((0 : Int) ≤ x.2.2.2.1)) && (decide (x.2.2.2.1 < (((List.length x.2.1) : Nat) : Int))))
  ((let v4 : Int := (xorF .u32 x.1 (wrapF .u32 (List.getD x.2.1 (Int.toNat x.2.2.2.1) (EK.dflt (.int .u8)))))
  (let v6 : Int := (andF .u32 v4 (15 : Int))
  (cond ((decide ((0 : Int) ≤ v6)) && (decide (v6 < (16 : Int))))
  ((let v7 : Nat := (Int.toNat v6)
  (cond (decide (v7 < (List.length x.2.2.2.2)))
  ((let v9 : Int := (xorF .u32 (shrF .u32 v4 (4 : Int)) (List.getD x.2.2.2.2 v7 (EK.dflt (.int .u32))))
  (let v11 : Int := (andF .u32 v9 (15 : Int))
  (cond ((decide ((0 : Int) ≤ v11)) && (decide (v11 < (16 : Int))))
  ((let v12 : Nat := (Int.toNat v11)
  (cond (decide (v12 < (List.length x.2.2.2.2)))
  ((next ((xorF .u32 (shrF .u32 v9 (4 : Int)) (List.getD x.2.2.2.2 v12 (EK.dflt (.int .u32)))), x.2.1, x.2.2.1, (wrapF .i64 (x.2.2.2.1 + (1 : Int))), x.2.2.2.2)))
  none)))
  none))))
  none)))
  none))))
  none)
  (some (x.1, x.2.2.2.2)))
theorem sha_More_f0 (N : Nat) (f0 : Unit → Option ((List Int))) (next) (x) : sha_More_a0 N f0 next x = loopStep Γ (sha_More_CA N f0) (sha_More_J N) 0 39 sha_More_d0 sha_More_c0 next x := by kernel_rfl
theorem sha_More_e0 (N : Nat) (next) (x) : sha_More_b0 N next x = loopStep Γ (sha_More_C N) (sha_More_J N) 0 39 sha_More_d0 sha_More_c0 next x := by
  rw [← sha_More_CE N]
  exact Eq.trans (by kernel_rfl) (sha_More_f0 N (sha_steps) next x)
theorem sha_More_k0 (N : Nat) : LoopOK Try.prog 39 sha_More_c0 ⟨sha_More_d0, loopF (sha_More_b0 N) N⟩ := loop_ok tabOK (sha_More_t N) mixedOK (J := sha_More_J N) (cx := 0) (body := sha_More_c0) (nt := 39) (l := sha_More_d0) (b := sha_More_b0 N) (jok_from sha_More_i0 ⟨trivial, trivial⟩) (sha_More_e0 N) N
theorem sha_More_i : loopsOf sha_More_c = [(0, sha_More_c0)] := by kernel_rfl
noncomputable def sha_More_a (N : Nat) (f0 : Unit → Option ((List Int))) (x : Int × (List Int)) : Option (Int) :=
  (Option.bind (f0 ()) fun r1 =>
  (Option.bind (sha_More_l0 N ((xorF .u32 (4294967295 : Int) x.1), x.2, (((List.length x.2) : Nat) : Int), (0 : Int), r1)) fun r5 =>
  (some (xorF .u32 (4294967295 : Int) r5.1))))
theorem sha_More_f (N : Nat) (f0 : Unit → Option ((List Int))) (x) : sha_More_a N f0 x = fnStep Γ (sha_More_CA N f0) (sha_More_J N) 39 Try.f14.results.toList (sha_More_g N) sha_More_o sha_More_c x := by kernel_rfl
theorem sha_More_e (N : Nat) (x) : (sha_More_g N).F x = fnStep Γ (sha_More_C N) (sha_More_J N) 39 Try.f14.results.toList (sha_More_g N) sha_More_o sha_More_c x := by
  rw [← sha_More_CE N]
  exact Eq.trans (by kernel_rfl) (sha_More_f N (sha_steps) x)
theorem sha_More_y : Try.f14.body = some sha_More_c := by kernel_rfl
theorem sha_More_n : (Try.f14.name == "runtime.NumGoroutine") = false := by kernel_rfl
theorem sha_More_ok (N : Nat) : FnDoes Try.prog 14 (sha_More_g N) := fn_ok tabOK (sha_More_t N) mixedOK (J := sha_More_J N) (body := sha_More_c) Try.func14 sha_More_y sha_More_n Try.ntmps14 (jok_from sha_More_i ⟨⟨.inr ⟨_, rfl, sha_More_k0 N⟩, trivial⟩, trivial⟩) rfl rfl (le_of_ble rfl) (sha_More_e N)
noncomputable def sha_Crc_c : Code := codeOf Try.f12.body
noncomputable def sha_Crc_J (N : Nat) : Nat → Hint := fun cx => hintOf cx []
noncomputable def sha_Crc_C (N : Nat) : Nat → List GS := fun k => tabOf k [(14, [sha_More_g N])]
def sha_Crc_o : List (Shp × List Nat) := [(⟨[(0, (.av (.one (.int .u32))))], []⟩, [])]
noncomputable def sha_Crc_g (N : Nat) : GS := { ins := ⟨[(0, (.av (.one (.rsl (.int .u8)))))], []⟩, lend := [.lend (.int .u8)], outs := sha_Crc_o.map fun s => ssOf s.1, its := [.lst (.int .u8)], ots := [[.int]], F := sha_Crc N }
noncomputable def sha_Crc_CA (N : Nat) (f0 : Int × (List Int) → Option (Int)) : Nat → List GS := fun k => tabOf k [(14, [{ sha_More_g N with F := f0 }])]
theorem sha_Crc_CE (N : Nat) : sha_Crc_CA N (sha_More N) = sha_Crc_C N := by kernel_rfl
theorem sha_Crc_t (N : Nat) : TabC Try.prog (sha_Crc_C N) := tab_ok ⟨⟨sha_More_ok N, trivial⟩, trivial⟩
theorem sha_Crc_i : loopsOf sha_Crc_c = [] := by kernel_rfl
noncomputable def sha_Crc_a (N : Nat) (f0 : Int × (List Int) → Option (Int)) (x : (List Int)) : Option (Int) :=
  (Option.bind (f0 ((0 : Int), x)) fun r1 =>
  (some r1))
theorem sha_Crc_f (N : Nat) (f0 : Int × (List Int) → Option (Int)) (x) : sha_Crc_a N f0 x = fnStep Γ (sha_Crc_CA N f0) (sha_Crc_J N) 5 Try.f12.results.toList (sha_Crc_g N) sha_Crc_o sha_Crc_c x := by kernel_rfl
theorem sha_Crc_e (N : Nat) (x) : (sha_Crc_g N).F x = fnStep Γ (sha_Crc_C N) (sha_Crc_J N) 5 Try.f12.results.toList (sha_Crc_g N) sha_Crc_o sha_Crc_c x := by
  rw [← sha_Crc_CE N]
  exact Eq.trans (by kernel_rfl) (sha_Crc_f N (sha_More N) x)
theorem sha_Crc_y : Try.f12.body = some sha_Crc_c := by kernel_rfl
theorem sha_Crc_n : (Try.f12.name == "runtime.NumGoroutine") = false := by kernel_rfl
theorem sha_Crc_ok (N : Nat) : FnDoes Try.prog 12 (sha_Crc_g N) := fn_ok tabOK (sha_Crc_t N) mixedOK (J := sha_Crc_J N) (body := sha_Crc_c) Try.func12 sha_Crc_y sha_Crc_n Try.ntmps12 (jok_from sha_Crc_i trivial) rfl rfl (le_of_ble rfl) (sha_Crc_e N)
noncomputable def sha_Sum_v1_c : Code := codeOf Try.f10.body
noncomputable def sha_Sum_v1_J (N : Nat) : Nat → Hint := fun cx => hintOf cx []
noncomputable def sha_Sum_v1_C (N : Nat) : Nat → List GS := fun k => tabOf k [(32, [sha_New_g N]), (21, [sha_Hash_Write_g N]), (23, [sha_Hash_Sum_g N])]
def sha_Sum_v1_o : List (Shp × List Nat) := [(⟨[(0, (.av (.agg [(.arr (.int .u8) (some 32))])))], []⟩, [])]
noncomputable def sha_Sum_v1_g (N : Nat) : GS := { ins := ⟨[(0, (.av (.one (.rsl (.int .u8)))))], []⟩, lend := [.keep], outs := sha_Sum_v1_o.map fun s => ssOf s.1, its := [.lst (.int .u8)], ots := [[.lst (.int .u8)]], F := sha_Sum_v1 N }
noncomputable def sha_Sum_v1_CA (N : Nat) (f0 : Unit → Option ((List Int))) (f1 : (List Int) × (List Int) × Int → Option ((List Int) × Int × (List Int))) (f2 : (List Int) × Int × (List Int) → Option ((List Int) × (List Int) × Int × (List Int))) : Nat → List GS := fun k => tabOf k [(32, [{ sha_New_g N with F := f0 }]), (21, [{ sha_Hash_Write_g N with F := f1 }]), (23, [{ sha_Hash_Sum_g N with F := f2 }])]
theorem sha_Sum_v1_CE (N : Nat) : sha_Sum_v1_CA N (sha_New) (sha_Hash_Write N) (sha_Hash_Sum N) = sha_Sum_v1_C N := by kernel_rfl
theorem sha_Sum_v1_t (N : Nat) : TabC Try.prog (sha_Sum_v1_C N) := tab_ok ⟨⟨sha_New_ok N, trivial⟩, ⟨sha_Hash_Write_ok N, trivial⟩, ⟨sha_Hash_Sum_ok N, trivial⟩, trivial⟩
theorem sha_Sum_v1_i : loopsOf sha_Sum_v1_c = [] := by kernel_rfl
noncomputable def sha_Sum_v1_a (N : Nat) (f0 : Unit → Option ((List Int))) (f1 : (List Int) × (List Int) × Int → Option ((List Int) × Int × (List Int))) (f2 : (List Int) × Int × (List Int) → Option ((List Int) × (List Int) × Int × (List Int))) (x : (List Int)) : Option ((List Int)) :=
  (Option.bind (f0 ()) fun r2 =>
  (Option.bind (f1 (x, r2, (0 : Int))) fun r3 =>
  (Option.bind (f2 (r3.1, r3.2.1, r3.2.2)) fun r4 =>
  (some r4.1))))
theorem sha_Sum_v1_f (N : Nat) (f0 : Unit → Option ((List Int))) (f1 : (List Int) × (List Int) × Int → Option ((List Int) × Int × (List Int))) (f2 : (List Int) × Int × (List Int) → Option ((List Int) × (List Int) × Int × (List Int))) (x) : sha_Sum_v1_a N f0 f1 f2 x = fnStep Γ (sha_Sum_v1_CA N f0 f1 f2) (sha_Sum_v1_J N) 10 Try.f10.results.toList (sha_Sum_v1_g N) sha_Sum_v1_o sha_Sum_v1_c x := by kernel_rfl
theorem sha_Sum_v1_e (N : Nat) (x) : (sha_Sum_v1_g N).F x = fnStep Γ (sha_Sum_v1_C N) (sha_Sum_v1_J N) 10 Try.f10.results.toList (sha_Sum_v1_g N) sha_Sum_v1_o sha_Sum_v1_c x := by
  rw [← sha_Sum_v1_CE N]
  exact Eq.trans (by kernel_rfl) (sha_Sum_v1_f N (sha_New) (sha_Hash_Write N) (sha_Hash_Sum N) x)
theorem sha_Sum_v1_y : Try.f10.body = some sha_Sum_v1_c := by kernel_rfl
theorem sha_Sum_v1_n : (Try.f10.name == "runtime.NumGoroutine") = false := by kernel_rfl
theorem sha_Sum_v1_ok (N : Nat) : FnDoes Try.prog 10 (sha_Sum_v1_g N) := fn_ok tabOK (sha_Sum_v1_t N) mixedOK (J := sha_Sum_v1_J N) (body := sha_Sum_v1_c) Try.func10 sha_Sum_v1_y sha_Sum_v1_n Try.ntmps10 (jok_from sha_Sum_v1_i trivial) rfl rfl (le_of_ble rfl) (sha_Sum_v1_e N)
noncomputable def sha_half_c : Code := codeOf Try.f44.body
noncomputable def sha_half_c0 : Code := codeOf (getLoop 0 sha_half_c)
def sha_half_d0 : LD := { ins := ⟨[(0, (.av (.one (.int .i64)))), (3, (.av (.one (.int .i64))))], []⟩, mov := [], wr := [], outs := [(.exit 0, ⟨[(3, (.av (.one (.int .i64))))], []⟩)], its := [.int, .int], ots := [[.int]] }
noncomputable def sha_half_J (N : Nat) : Nat → Hint := fun cx => hintOf cx [(0, { reg := fun k => assoc0 k [], cnd := fun k => assoc0 k [], loop := fun k => assoc0 k [(0, ⟨sha_half_d0, loopF (sha_half_b0 N) N⟩)], nil := fun k => assoc0 k [], unr := fun k => assocN k [], blk := fun k => assoc0 k [] })]
noncomputable def sha_half_C (N : Nat) : Nat → List GS := fun k => tabOf k []
def sha_half_o : List (Shp × List Nat) := [(⟨[(0, (.av (.one (.int .i64))))], []⟩, [])]
noncomputable def sha_half_g (N : Nat) : GS := { ins := ⟨[(0, (.av (.one (.int .i64))))], []⟩, lend := [.keep], outs := sha_half_o.map fun s => ssOf s.1, its := [.int], ots := [[.int]], F := sha_half N }
theorem sha_half_t (N : Nat) : TabC Try.prog (sha_half_C N) := tab_ok trivial
theorem sha_half_i0 : loopsOf sha_half_c0 = [] := by kernel_rfl
theorem sha_half_e0 (N : Nat) (next) (x) : sha_half_b0 N next x = loopStep Γ (sha_half_C N) (sha_half_J N) 0 11 sha_half_d0 sha_half_c0 next x := by kernel_rfl
theorem sha_half_k0 (N : Nat) : LoopOK Try.prog 11 sha_half_c0 ⟨sha_half_d0, loopF (sha_half_b0 N) N⟩ := loop_ok tabOK (sha_half_t N) mixedOK (J := sha_half_J N) (cx := 0) (body := sha_half_c0) (nt := 11) (l := sha_half_d0) (b := sha_half_b0 N) (jok_from sha_half_i0 ⟨trivial, trivial⟩) (sha_half_e0 N) N
theorem sha_half_i : loopsOf sha_half_c = [(0, sha_half_c0)] := by kernel_rfl
theorem sha_half_e (N : Nat) (x) : (sha_half_g N).F x = fnStep Γ (sha_half_C N) (sha_half_J N) 11 Try.f44.results.toList (sha_half_g N) sha_half_o sha_half_c x := by kernel_rfl
theorem sha_half_y : Try.f44.body = some sha_half_c := by kernel_rfl
theorem sha_half_n : (Try.f44.name == "runtime.NumGoroutine") = false := by kernel_rfl
theorem sha_half_ok (N : Nat) : FnDoes Try.prog 44 (sha_half_g N) := fn_ok tabOK (sha_half_t N) mixedOK (J := sha_half_J N) (body := sha_half_c) Try.func44 sha_half_y sha_half_n Try.ntmps44 (jok_from sha_half_i ⟨⟨.inr ⟨_, rfl, sha_half_k0 N⟩, trivial⟩, trivial⟩) rfl rfl (le_of_ble rfl) (sha_half_e N)
noncomputable def sha_pair_c : Code := codeOf Try.f47.body
noncomputable def sha_pair_J (N : Nat) : Nat → Hint := fun cx => hintOf cx []
noncomputable def sha_pair_C (N : Nat) : Nat → List GS := fun k => tabOf k [(32, [sha_New_g N]), (21, [sha_Hash_Write_v2_g N, sha_Hash_Write_v1_g N]), (23, [sha_Hash_Sum_g N])]
def sha_pair_o : List (Shp × List Nat) := [(⟨[(0, (.av (.agg [(.arr (.int .u8) (some 32))])))], []⟩, [])]
noncomputable def sha_pair_g (N : Nat) : GS := { ins := ⟨[(0, (.av (.agg [(.arr (.int .u8) (some 32))]))), (1, (.av (.agg [(.arr (.int .u8) (some 32))])))], []⟩, lend := [.keep, .keep], outs := sha_pair_o.map fun s => ssOf s.1, its := [.lst (.int .u8), .lst (.int .u8)], ots := [[.lst (.int .u8)]], F := sha_pair N }
noncomputable def sha_pair_CA (N : Nat) (f0 : Unit → Option ((List Int))) (f1 : (List Int) × (List Int) × Int → Option ((List Int) × Int × (List Int))) (f2 : (List Int) × (List Int) × Int × (List Int) → Option ((List Int) × Int × (List Int))) (f3 : (List Int) × Int × (List Int) → Option ((List Int) × (List Int) × Int × (List Int))) : Nat → List GS := fun k => tabOf k [(32, [{ sha_New_g N with F := f0 }]), (21, [{ sha_Hash_Write_v2_g N with F := f1 }, { sha_Hash_Write_v1_g N with F := f2 }]), (23, [{ sha_Hash_Sum_g N with F := f3 }])]
theorem sha_pair_CE (N : Nat) : sha_pair_CA N (sha_New) (sha_Hash_Write_v2 N) (sha_Hash_Write_v1 N) (sha_Hash_Sum N) = sha_pair_C N := by kernel_rfl
theorem sha_pair_t (N : Nat) : TabC Try.prog (sha_pair_C N) := tab_ok ⟨⟨sha_New_ok N, trivial⟩, ⟨sha_Hash_Write_v2_ok N, sha_Hash_Write_v1_ok N, trivial⟩, ⟨sha_Hash_Sum_ok N, trivial⟩, trivial⟩
theorem sha_pair_i : loopsOf sha_pair_c = [] := by kernel_rfl
noncomputable def sha_pair_a (N : Nat) (f0 : Unit → Option ((List Int))) (f1 : (List Int) × (List Int) × Int → Option ((List Int) × Int × (List Int))) (f2 : (List Int) × (List Int) × Int × (List Int) → Option ((List Int) × Int × (List Int))) (f3 : (List Int) × Int × (List Int) → Option ((List Int) × (List Int) × Int × (List Int))) (x : (List Int) × (List Int)) : Option ((List Int)) :=
  (Option.bind (f0 ()) fun r2 =>
  (let v3 : List Int := ([(1 : Int)] : List Int)
  (cond (cond (decide (1 ≤ (List.length v3))) true false)
  (Option.bind (f1 ((List.take 1 (List.drop 0 v3)), r2, (0 : Int))) fun r4 =>
  (cond (cond (decide (32 ≤ (List.length x.1))) true false)
  (Option.bind (f2 ((List.take 32 (List.drop 0 x.1)), r4.1, r4.2.1, r4.2.2)) fun r5 =>
  (cond (cond (decide (32 ≤ (List.length x.2))) true false)
  (Option.bind (f2 ((List.take 32 (List.drop 0 x.2)), r5.1, r5.2.1, r5.2.2)) fun r6 =>
  (Option.bind (f3 (r6.1, r6.2.1, r6.2.2)) fun r7 =>
  (some r7.1)))
  none))
  none))
  none)))
theorem sha_pair_f (N : Nat) (f0 : Unit → Option ((List Int))) (f1 : (List Int) × (List Int) × Int → Option ((List Int) × Int × (List Int))) (f2 : (List Int) × (List Int) × Int × (List Int) → Option ((List Int) × Int × (List Int))) (f3 : (List Int) × Int × (List Int) → Option ((List Int) × (List Int) × Int × (List Int))) (x) : sha_pair_a N f0 f1 f2 f3 x = fnStep Γ (sha_pair_CA N f0 f1 f2 f3) (sha_pair_J N) 18 Try.f47.results.toList (sha_pair_g N) sha_pair_o sha_pair_c x := by kernel_rfl
theorem sha_pair_e (N : Nat) (x) : (sha_pair_g N).F x = fnStep Γ (sha_pair_C N) (sha_pair_J N) 18 Try.f47.results.toList (sha_pair_g N) sha_pair_o sha_pair_c x := by
  rw [← sha_pair_CE N]
  exact Eq.trans (by kernel_rfl) (sha_pair_f N (sha_New) (sha_Hash_Write_v2 N) (sha_Hash_Write_v1 N) (sha_Hash_Sum N) x)
theorem sha_pair_y : Try.f47.body = some sha_pair_c := by kernel_rfl
theorem sha_pair_n : (Try.f47.name == "runtime.NumGoroutine") = false := by kernel_rfl
theorem sha_pair_ok (N : Nat) : FnDoes Try.prog 47 (sha_pair_g N) := fn_ok tabOK (sha_pair_t N) mixedOK (J := sha_pair_J N) (body := sha_pair_c) Try.func47 sha_pair_y sha_pair_n Try.ntmps47 (jok_from sha_pair_i trivial) rfl rfl (le_of_ble rfl) (sha_pair_e N)
noncomputable def sha_Root_v1_c : Code := codeOf Try.f29.body
noncomputable def sha_Root_v1_J (N : Nat) : Nat → Hint := fun cx => hintOf cx []
def sha_Root_v1_o : List (Shp × List Nat) := [(⟨[(0, (.av (.agg [(.arr (.int .u8) (some 32))])))], []⟩, [])]
noncomputable def sha_Root_v1_g (N : Nat) : GS := { ins := ⟨[(0, (.av (.one (.rsl (.arr 32 (.int .u8))))))], []⟩, lend := [.keep], outs := sha_Root_v1_o.map fun s => ssOf s.1, its := [.lst (.arr 32 (.int .u8))], ots := [[.lst (.int .u8)]], F := sha_Root_v1 N }
noncomputable def sha_Root_v1_CA (N : Nat) (f0 : (List Int) → Option ((List Int))) (f1 : Int → Option (Int)) (f2 : (List (List Int)) → Option ((List Int))) (f3 : (List Int) × (List Int) → Option ((List Int))) : Nat → List GS := fun k => tabOf k [(10, [{ sha_Sum_v1_g N with F := f0 }]), (44, [{ sha_half_g N with F := f1 }]), (29, [{ sha_Root_v1_g N with F := f2 }]), (47, [{ sha_pair_g N with F := f3 }])]
theorem sha_Root_v1_i : loopsOf sha_Root_v1_c = [] := by kernel_rfl
noncomputable def sha_Root_v1_a (N : Nat) (f0 : (List Int) → Option ((List Int))) (f1 : Int → Option (Int)) (f2 : (List (List Int)) → Option ((List Int))) (f3 : (List Int) × (List Int) → Option ((List Int))) (x : (List (List Int))) : Option ((List Int)) :=
  (let v2 : Int := (((List.length x) : Nat) : Int)
  (cond (decide (v2 = (0 : Int)))
  (Option.bind (f0 ([] : List Int)) fun r4 =>
  (some r4))
  (cond (decide (v2 = (1 : Int)))
  (cond (decide ((0 : Int) < (((List.length x) : Nat) : Int)))
  ((some (List.getD x 0 (EK.dflt (.arr 32 (.int .u8))))))
  none)
  (Option.bind (f1 (((List.length x) : Nat) : Int)) fun r8 =>
  (cond ((decide ((0 : Int) ≤ r8)) && (decide (r8 ≤ (((List.length x) : Nat) : Int))))
  ((Option.bind (f2 (List.take (Int.toNat r8) (List.drop 0 x))) fun r10 =>
  (cond (((decide ((0 : Int) ≤ r8)) && (decide (r8 ≤ (((List.length x) : Nat) : Int)))) && (decide ((((List.length x) : Nat) : Int) ≤ (((List.length x) : Nat) : Int))))
  ((Option.bind (f2 (List.take ((List.length x) - (Int.toNat r8)) (List.drop (Int.toNat r8) x))) fun r12 =>
  (Option.bind (f3 (r10, r12)) fun r13 =>
  (some r13))))
  none)))
  none)))))
theorem sha_Root_v1_f (N : Nat) (f0 : (List Int) → Option ((List Int))) (f1 : Int → Option (Int)) (f2 : (List (List Int)) → Option ((List Int))) (f3 : (List Int) × (List Int) → Option ((List Int))) (x) : sha_Root_v1_a N f0 f1 f2 f3 x = fnStep Γ (sha_Root_v1_CA N f0 f1 f2 f3) (sha_Root_v1_J N) 26 Try.f29.results.toList (sha_Root_v1_g N) sha_Root_v1_o sha_Root_v1_c x := by kernel_rfl
theorem sha_Root_v1_y : Try.f29.body = some sha_Root_v1_c := by kernel_rfl
theorem sha_Root_v1_n : (Try.f29.name == "runtime.NumGoroutine") = false := by kernel_rfl
theorem sha_Root_v1_okn (N : Nat) : ∀ n, FnDoes Try.prog 29 { sha_Root_v1_g N with F := loopF (sha_Root_v1_b N) n }
  | 0 => fn_none Try.func29 sha_Root_v1_y sha_Root_v1_n (fun _ => rfl)
  | n + 1 => fn_ok tabOK (C := sha_Root_v1_CA N (sha_Sum_v1 N) (sha_half N) (loopF (sha_Root_v1_b N) n) (sha_pair N)) (tab_ok ⟨⟨sha_Sum_v1_ok N, trivial⟩, ⟨sha_half_ok N, trivial⟩, ⟨sha_Root_v1_okn N n, trivial⟩, ⟨sha_pair_ok N, trivial⟩, trivial⟩) mixedOK (J := sha_Root_v1_J N) (body := sha_Root_v1_c) Try.func29 sha_Root_v1_y sha_Root_v1_n Try.ntmps29 (jok_from sha_Root_v1_i trivial) (outs := sha_Root_v1_o) rfl rfl (le_of_ble rfl) (fun x => Eq.trans (by kernel_rfl) (sha_Root_v1_f N (sha_Sum_v1 N) (sha_half N) (loopF (sha_Root_v1_b N) n) (sha_pair N) x))
theorem sha_Root_v1_ok (N : Nat) : FnDoes Try.prog 29 (sha_Root_v1_g N) := sha_Root_v1_okn N N
noncomputable def sha_Root_c : Code := codeOf Try.f29.body
noncomputable def sha_Root_J (N : Nat) : Nat → Hint := fun cx => hintOf cx []
noncomputable def sha_Root_C (N : Nat) : Nat → List GS := fun k => tabOf k [(10, [sha_Sum_v1_g N]), (44, [sha_half_g N]), (29, [sha_Root_v1_g N]), (47, [sha_pair_g N])]
def sha_Root_o : List (Shp × List Nat) := [(⟨[(0, (.av (.agg [(.arr (.int .u8) (some 32))])))], []⟩, [])]
noncomputable def sha_Root_g (N : Nat) : GS := { ins := ⟨[(0, (.av (.one (.rsl (.arr 32 (.int .u8))))))], []⟩, lend := [.lend (.arr 32 (.int .u8))], outs := sha_Root_o.map fun s => ssOf s.1, its := [.lst (.arr 32 (.int .u8))], ots := [[.lst (.int .u8)]], F := sha_Root N }
noncomputable def sha_Root_CA (N : Nat) (f0 : (List Int) → Option ((List Int))) (f1 : Int → Option (Int)) (f2 : (List (List Int)) → Option ((List Int))) (f3 : (List Int) × (List Int) → Option ((List Int))) : Nat → List GS := fun k => tabOf k [(10, [{ sha_Sum_v1_g N with F := f0 }]), (44, [{ sha_half_g N with F := f1 }]), (29, [{ sha_Root_v1_g N with F := f2 }]), (47, [{ sha_pair_g N with F := f3 }])]
theorem sha_Root_CE (N : Nat) : sha_Root_CA N (sha_Sum_v1 N) (sha_half N) (sha_Root_v1 N) (sha_pair N) = sha_Root_C N := by kernel_rfl
theorem sha_Root_t (N : Nat) : TabC Try.prog (sha_Root_C N) := tab_ok ⟨⟨sha_Sum_v1_ok N, trivial⟩, ⟨sha_half_ok N, trivial⟩, ⟨sha_Root_v1_ok N, trivial⟩, ⟨sha_pair_ok N, trivial⟩, trivial⟩
theorem sha_Root_i : loopsOf sha_Root_c = [] := by kernel_rfl
noncomputable def sha_Root_a (N : Nat) (f0 : (List Int) → Option ((List Int))) (f1 : Int → Option (Int)) (f2 : (List (List Int)) → Option ((List Int))) (f3 : (List Int) × (List Int) → Option ((List Int))) (x : (List (List Int))) : Option ((List Int)) :=
  (let v2 : Int := (((List.length x) : Nat) : Int)
  (cond (decide (v2 = (0 : Int)))
  (Option.bind (f0 ([] : List Int)) fun r4 =>
  (some r4))
  (cond (decide (v2 = (1 : Int)))
  (cond (decide ((0 : Int) < (((List.length x) : Nat) : Int)))
  ((some (List.getD x 0 (EK.dflt (.arr 32 (.int .u8))))))
  none)
  (Option.bind (f1 (((List.length x) : Nat) : Int)) fun r8 =>
  (cond ((decide ((0 : Int) ≤ r8)) && (decide (r8 ≤ (((List.length x) : Nat) : Int))))
  ((Option.bind (f2 (List.take (Int.toNat r8) (List.drop 0 x))) fun r10 =>
  (cond (((decide ((0 : Int) ≤ r8)) && (decide (r8 ≤ (((List.length x) : Nat) : Int)))) && (decide ((((List.length x) : Nat) : Int) ≤ (((List.length x) : Nat) : Int))))
  ((Option.bind (f2 (List.take ((List.length x) - (Int.toNat r8)) (List.drop (Int.toNat r8) x))) fun r12 =>
  (Option.bind (f3 (r10, r12)) fun r13 =>
  (some r13))))
  none)))
  none)))))
theorem sha_Root_f (N : Nat) (f0 : (List Int) → Option ((List Int))) (f1 : Int → Option (Int)) (f2 : (List (List Int)) → Option ((List Int))) (f3 : (List Int) × (List Int) → Option ((List Int))) (x) : sha_Root_a N f0 f1 f2 f3 x = fnStep Γ (sha_Root_CA N f0 f1 f2 f3) (sha_Root_J N) 26 Try.f29.results.toList (sha_Root_g N) sha_Root_o sha_Root_c x := by kernel_rfl
theorem sha_Root_e (N : Nat) (x) : (sha_Root_g N).F x = fnStep Γ (sha_Root_C N) (sha_Root_J N) 26 Try.f29.results.toList (sha_Root_g N) sha_Root_o sha_Root_c x := by
  rw [← sha_Root_CE N]
  exact Eq.trans (by kernel_rfl) (sha_Root_f N (sha_Sum_v1 N) (sha_half N) (sha_Root_v1 N) (sha_pair N) x)
theorem sha_Root_y : Try.f29.body = some sha_Root_c := by kernel_rfl
theorem sha_Root_n : (Try.f29.name == "runtime.NumGoroutine") = false := by kernel_rfl
theorem sha_Root_ok (N : Nat) : FnDoes Try.prog 29 (sha_Root_g N) := fn_ok tabOK (sha_Root_t N) mixedOK (J := sha_Root_J N) (body := sha_Root_c) Try.func29 sha_Root_y sha_Root_n Try.ntmps29 (jok_from sha_Root_i trivial) rfl rfl (le_of_ble rfl) (sha_Root_e N)
noncomputable def granarylaw05_num_c : Code := codeOf Try.f20.body
noncomputable def granarylaw05_num_J (N : Nat) : Nat → Hint := fun cx => hintOf cx []
noncomputable def granarylaw05_num_C (N : Nat) : Nat → List GS := fun k => tabOf k []
def granarylaw05_num_o : List (Shp × List Nat) := [(⟨[(0, (.av (.one (.int .i64))))], []⟩, [])]
noncomputable def granarylaw05_num_g (N : Nat) : GS := { ins := ⟨[(0, (.av (.one (.int .i64))))], []⟩, lend := [.keep], outs := granarylaw05_num_o.map fun s => ssOf s.1, its := [.int], ots := [[.int]], F := granarylaw05_num }
theorem granarylaw05_num_t (N : Nat) : TabC Try.prog (granarylaw05_num_C N) := tab_ok trivial
theorem granarylaw05_num_i : loopsOf granarylaw05_num_c = [] := by kernel_rfl
theorem granarylaw05_num_e (N : Nat) (x) : (granarylaw05_num_g N).F x = fnStep Γ (granarylaw05_num_C N) (granarylaw05_num_J N) 4 Try.f20.results.toList (granarylaw05_num_g N) granarylaw05_num_o granarylaw05_num_c x := by kernel_rfl
theorem granarylaw05_num_y : Try.f20.body = some granarylaw05_num_c := by kernel_rfl
theorem granarylaw05_num_n : (Try.f20.name == "runtime.NumGoroutine") = false := by kernel_rfl
theorem granarylaw05_num_ok (N : Nat) : FnDoes Try.prog 20 (granarylaw05_num_g N) := fn_ok tabOK (granarylaw05_num_t N) mixedOK (J := granarylaw05_num_J N) (body := granarylaw05_num_c) Try.func20 granarylaw05_num_y granarylaw05_num_n Try.ntmps20 (jok_from granarylaw05_num_i trivial) rfl rfl (le_of_ble rfl) (granarylaw05_num_e N)
noncomputable def granarylaw05_live_c : Code := codeOf Try.f9.body
noncomputable def granarylaw05_live_J (N : Nat) : Nat → Hint := fun cx => hintOf cx [(0, { reg := fun k => assoc0 k [(8, ⟨⟨[(0, (.av (.one .bool)))], [(.keep, false), (.keep, false), (.sh (.arr (.int .u32) (some 8)), true), (.sh (.one (.int .u64)), true), (.sh (.one (.const (.slw 8 1))), false), (.keep, false), (.dead, false), (.keep, false), (.sh (.arr (.int .u8) none), false), (.keep, false)]⟩, [], [2, 3, 4, 8], [.bool, .lst (.int .u32), .int, .lst (.int .u8)]⟩)], cnd := fun k => assoc0 k [], loop := fun k => assoc0 k [], nil := fun k => assoc0 k [], unr := fun k => assocN k [], blk := fun k => assoc0 k [] })]
noncomputable def granarylaw05_live_C (N : Nat) : Nat → List GS := fun k => tabOf k [(10, [sha_Sum_g N]), (32, [sha_New_g N]), (21, [sha_Hash_Write_v2_g N, sha_Hash_Write_v1_g N]), (16, [sha_Parse_g N]), (18, [sha_Hex_g N]), (23, [sha_Hash_Sum_g N]), (12, [sha_Crc_g N]), (29, [sha_Root_g N]), (20, [granarylaw05_num_g N])]
def granarylaw05_live_o : List (Shp × List Nat) := [(⟨[(0, (.av (.one .bool)))], []⟩, [])]
noncomputable def granarylaw05_live_g (N : Nat) : GS := { ins := ⟨[], []⟩, lend := [], outs := granarylaw05_live_o.map fun s => ssOf s.1, its := [], ots := [[.bool]], F := granarylaw05_live N }
noncomputable def granarylaw05_live_CA (N : Nat) (f0 : (List Int) → Option ((List Int))) (f1 : Unit → Option ((List Int))) (f2 : (List Int) × (List Int) × Int → Option ((List Int) × Int × (List Int))) (f3 : (List Int) × (List Int) × Int × (List Int) → Option ((List Int) × Int × (List Int))) (f4 : (List UInt8) → Option ((List Int) × Int × Int)) (f5 : (List Int) → Option ((List UInt8))) (f6 : (List Int) × Int × (List Int) → Option ((List Int) × (List Int) × Int × (List Int))) (f7 : (List Int) → Option (Int)) (f8 : (List (List Int)) → Option ((List Int))) (f9 : Int → Option (Int)) : Nat → List GS := fun k => tabOf k [(10, [{ sha_Sum_g N with F := f0 }]), (32, [{ sha_New_g N with F := f1 }]), (21, [{ sha_Hash_Write_v2_g N with F := f2 }, { sha_Hash_Write_v1_g N with F := f3 }]), (16, [{ sha_Parse_g N with F := f4 }]), (18, [{ sha_Hex_g N with F := f5 }]), (23, [{ sha_Hash_Sum_g N with F := f6 }]), (12, [{ sha_Crc_g N with F := f7 }]), (29, [{ sha_Root_g N with F := f8 }]), (20, [{ granarylaw05_num_g N with F := f9 }])]
theorem granarylaw05_live_CE (N : Nat) : granarylaw05_live_CA N (sha_Sum N) (sha_New) (sha_Hash_Write_v2 N) (sha_Hash_Write_v1 N) (sha_Parse N) (sha_Hex N) (sha_Hash_Sum N) (sha_Crc N) (sha_Root N) (granarylaw05_num) = granarylaw05_live_C N := by kernel_rfl
theorem granarylaw05_live_t (N : Nat) : TabC Try.prog (granarylaw05_live_C N) := tab_ok ⟨⟨sha_Sum_ok N, trivial⟩, ⟨sha_New_ok N, trivial⟩, ⟨sha_Hash_Write_v2_ok N, sha_Hash_Write_v1_ok N, trivial⟩, ⟨sha_Parse_ok N, trivial⟩, ⟨sha_Hex_ok N, trivial⟩, ⟨sha_Hash_Sum_ok N, trivial⟩, ⟨sha_Crc_ok N, trivial⟩, ⟨sha_Root_ok N, trivial⟩, ⟨granarylaw05_num_ok N, trivial⟩, trivial⟩
theorem granarylaw05_live_i : loopsOf granarylaw05_live_c = [] := by kernel_rfl
noncomputable def granarylaw05_live_a (N : Nat) (f0 : (List Int) → Option ((List Int))) (f1 : Unit → Option ((List Int))) (f2 : (List Int) × (List Int) × Int → Option ((List Int) × Int × (List Int))) (f3 : (List Int) × (List Int) × Int × (List Int) → Option ((List Int) × Int × (List Int))) (f4 : (List UInt8) → Option ((List Int) × Int × Int)) (f5 : (List Int) → Option ((List UInt8))) (f6 : (List Int) × Int × (List Int) → Option ((List Int) × (List Int) × Int × (List Int))) (f7 : (List Int) → Option (Int)) (f8 : (List (List Int)) → Option ((List Int))) (f9 : Int → Option (Int)) (x : Unit) : Option (Bool) :=
  (let v1 : List Int := ([(97 : Int), (98 : Int), (99 : Int)] : List Int)
  (cond (cond (decide (3 ≤ (List.length v1))) true false)
  (Option.bind (f0 (List.take 3 (List.drop 0 v1))) fun r2 =>
  (Option.bind (f1 ()) fun r4 =>
  (let v5 : List Int := ([(97 : Int)] : List Int)
  (cond (cond (decide (1 ≤ (List.length v5))) true false)
  (Option.bind (f2 ((List.take 1 (List.drop 0 v5)), r4, (0 : Int))) fun r6 =>
  (let v7 : List Int := ([(98 : Int), (99 : Int)] : List Int)
  (cond (cond (decide (2 ≤ (List.length v7))) true false)
  (Option.bind (f3 ((List.take 2 (List.drop 0 v7)), r6.1, r6.2.1, r6.2.2)) fun r8 =>
  (Option.bind (f4 ([120] : List UInt8)) fun r9 =>
  (Option.bind
  (Option.bind (f5 r2) fun r11 =>
  (cond (decide (r11 = ([98, 97, 55, 56, 49, 54, 98, 102, 56, 102, 48, 49, 99, 102, 101, 97, 52, 49, 52, 49, 52, 48, 100, 101, 53, 100, 97, 101, 50, 50, 50, 51, 98, 48, 48, 51, 54, 49, 97, 51, 57, 54, 49, 55, 55, 97, 57, 99, 98, 52, 49, 48, 102, 102, 54, 49, 102, 50, 48, 48, 49, 53, 97, 100] : List UInt8)))
  (Option.bind (f6 (r8.1, r8.2.1, r8.2.2)) fun r13 =>
  (cond (decide (r13.1 = r2))
  (let v15 : List Int := ([(49 : Int), (50 : Int), (51 : Int), (52 : Int), (53 : Int), (54 : Int), (55 : Int), (56 : Int), (57 : Int)] : List Int)
  (cond (cond (decide (9 ≤ (List.length v15))) true false)
  (Option.bind (f7 (List.take 9 (List.drop 0 v15))) fun r16 =>
  (cond (decide (r16 = (3808858755 : Int)))
  (let v18 : List (List Int) := ([r2] : List (List Int))
  (cond (cond (decide (1 ≤ (List.length v18))) true false)
  (Option.bind (f8 (List.take 1 (List.drop 0 v18))) fun r19 =>
  (cond (decide (r19 = r2))
  (Option.bind (f9 r9.2.1) fun r21 =>
  (cond (decide (r21 = (50 : Int)))
  (some ((decide (r9.2.2 = (0 : Int))), r13.2.1, r13.2.2.1, r13.2.2.2))
  (some (false, r13.2.1, r13.2.2.1, r13.2.2.2))))
  (some (false, r13.2.1, r13.2.2.1, r13.2.2.2))))
  none))
  (some (false, r13.2.1, r13.2.2.1, r13.2.2.2))))
  none))
  (some (false, r13.2.1, r13.2.2.1, r13.2.2.2))))
  (some (false, r8.1, r8.2.1, r8.2.2))))
  fun r24 =>
  (some r24.1))))
  none)))
  none))))
  none))
theorem granarylaw05_live_f (N : Nat) (f0 : (List Int) → Option ((List Int))) (f1 : Unit → Option ((List Int))) (f2 : (List Int) × (List Int) × Int → Option ((List Int) × Int × (List Int))) (f3 : (List Int) × (List Int) × Int × (List Int) → Option ((List Int) × Int × (List Int))) (f4 : (List UInt8) → Option ((List Int) × Int × Int)) (f5 : (List Int) → Option ((List UInt8))) (f6 : (List Int) × Int × (List Int) → Option ((List Int) × (List Int) × Int × (List Int))) (f7 : (List Int) → Option (Int)) (f8 : (List (List Int)) → Option ((List Int))) (f9 : Int → Option (Int)) (x) : granarylaw05_live_a N f0 f1 f2 f3 f4 f5 f6 f7 f8 f9 x = fnStep Γ (granarylaw05_live_CA N f0 f1 f2 f3 f4 f5 f6 f7 f8 f9) (granarylaw05_live_J N) 56 Try.f9.results.toList (granarylaw05_live_g N) granarylaw05_live_o granarylaw05_live_c x := by kernel_rfl
theorem granarylaw05_live_e (N : Nat) (x) : (granarylaw05_live_g N).F x = fnStep Γ (granarylaw05_live_C N) (granarylaw05_live_J N) 56 Try.f9.results.toList (granarylaw05_live_g N) granarylaw05_live_o granarylaw05_live_c x := by
  rw [← granarylaw05_live_CE N]
  exact Eq.trans (by kernel_rfl) (granarylaw05_live_f N (sha_Sum N) (sha_New) (sha_Hash_Write_v2 N) (sha_Hash_Write_v1 N) (sha_Parse N) (sha_Hex N) (sha_Hash_Sum N) (sha_Crc N) (sha_Root N) (granarylaw05_num) x)
theorem granarylaw05_live_y : Try.f9.body = some granarylaw05_live_c := by kernel_rfl
theorem granarylaw05_live_n : (Try.f9.name == "runtime.NumGoroutine") = false := by kernel_rfl
theorem granarylaw05_live_ok (N : Nat) : FnDoes Try.prog 9 (granarylaw05_live_g N) := fn_ok tabOK (granarylaw05_live_t N) mixedOK (J := granarylaw05_live_J N) (body := granarylaw05_live_c) Try.func9 granarylaw05_live_y granarylaw05_live_n Try.ntmps9 (jok_from granarylaw05_live_i ⟨trivial, trivial⟩) rfl rfl (le_of_ble rfl) (granarylaw05_live_e N)
noncomputable def granaryref05_First_c : Code := codeOf Try.f53.body
noncomputable def granaryref05_First_J (N : Nat) : Nat → Hint := fun cx => hintOf cx []
noncomputable def granaryref05_First_C (N : Nat) : Nat → List GS := fun k => tabOf k []
def granaryref05_First_o : List (Shp × List Nat) := [(⟨[(0, (.av (.agg [(.arr (.int .u32) (some 8))])))], []⟩, [])]
noncomputable def granaryref05_First_g (N : Nat) : GS := { ins := ⟨[], []⟩, lend := [], outs := granaryref05_First_o.map fun s => ssOf s.1, its := [], ots := [[.lst (.int .u32)]], F := granaryref05_First }
theorem granaryref05_First_t (N : Nat) : TabC Try.prog (granaryref05_First_C N) := tab_ok trivial
theorem granaryref05_First_i : loopsOf granaryref05_First_c = [] := by kernel_rfl
theorem granaryref05_First_e (N : Nat) (x) : (granaryref05_First_g N).F x = fnStep Γ (granaryref05_First_C N) (granaryref05_First_J N) 2 Try.f53.results.toList (granaryref05_First_g N) granaryref05_First_o granaryref05_First_c x := by kernel_rfl
theorem granaryref05_First_y : Try.f53.body = some granaryref05_First_c := by kernel_rfl
theorem granaryref05_First_n : (Try.f53.name == "runtime.NumGoroutine") = false := by kernel_rfl
theorem granaryref05_First_ok (N : Nat) : FnDoes Try.prog 53 (granaryref05_First_g N) := fn_ok tabOK (granaryref05_First_t N) mixedOK (J := granaryref05_First_J N) (body := granaryref05_First_c) Try.func53 granaryref05_First_y granaryref05_First_n Try.ntmps53 (jok_from granaryref05_First_i trivial) rfl rfl (le_of_ble rfl) (granaryref05_First_e N)
noncomputable def granaryref05_New_c : Code := codeOf Try.f34.body
noncomputable def granaryref05_New_J (N : Nat) : Nat → Hint := fun cx => hintOf cx []
noncomputable def granaryref05_New_C (N : Nat) : Nat → List GS := fun k => tabOf k [(53, [granaryref05_First_g N])]
def granaryref05_New_o : List (Shp × List Nat) := [(⟨[(0, (.av (.one (.const (.ptr ⟨0, 0, 0, 0⟩)))))], [(.sh (.arr (.int .u32) (some 8)), true), (.sh (.one (.const (.int .u64 (0 : Int)))), true), (.sh (.one (.const .nils)), false)]⟩, [])]
noncomputable def granaryref05_New_g (N : Nat) : GS := { ins := ⟨[], []⟩, lend := [], outs := granaryref05_New_o.map fun s => ssOf s.1, its := [], ots := [[.lst (.int .u32)]], F := granaryref05_New }
noncomputable def granaryref05_New_CA (N : Nat) (f0 : Unit → Option ((List Int))) : Nat → List GS := fun k => tabOf k [(53, [{ granaryref05_First_g N with F := f0 }])]
theorem granaryref05_New_CE (N : Nat) : granaryref05_New_CA N (granaryref05_First) = granaryref05_New_C N := by kernel_rfl
theorem granaryref05_New_t (N : Nat) : TabC Try.prog (granaryref05_New_C N) := tab_ok ⟨⟨granaryref05_First_ok N, trivial⟩, trivial⟩
theorem granaryref05_New_i : loopsOf granaryref05_New_c = [] := by kernel_rfl
noncomputable def granaryref05_New_a (N : Nat) (f0 : Unit → Option ((List Int))) (x : Unit) : Option ((List Int)) :=
  (Option.bind (f0 ()) fun r1 =>
  (some r1))
theorem granaryref05_New_f (N : Nat) (f0 : Unit → Option ((List Int))) (x) : granaryref05_New_a N f0 x = fnStep Γ (granaryref05_New_CA N f0) (granaryref05_New_J N) 4 Try.f34.results.toList (granaryref05_New_g N) granaryref05_New_o granaryref05_New_c x := by kernel_rfl
theorem granaryref05_New_e (N : Nat) (x) : (granaryref05_New_g N).F x = fnStep Γ (granaryref05_New_C N) (granaryref05_New_J N) 4 Try.f34.results.toList (granaryref05_New_g N) granaryref05_New_o granaryref05_New_c x := by
  rw [← granaryref05_New_CE N]
  exact Eq.trans (by kernel_rfl) (granaryref05_New_f N (granaryref05_First) x)
theorem granaryref05_New_y : Try.f34.body = some granaryref05_New_c := by kernel_rfl
theorem granaryref05_New_n : (Try.f34.name == "runtime.NumGoroutine") = false := by kernel_rfl
theorem granaryref05_New_ok (N : Nat) : FnDoes Try.prog 34 (granaryref05_New_g N) := fn_ok tabOK (granaryref05_New_t N) mixedOK (J := granaryref05_New_J N) (body := granaryref05_New_c) Try.func34 granaryref05_New_y granaryref05_New_n Try.ntmps34 (jok_from granaryref05_New_i trivial) rfl rfl (le_of_ble rfl) (granaryref05_New_e N)
noncomputable def granaryref05_K_c : Code := codeOf Try.f60.body
noncomputable def granaryref05_K_J (N : Nat) : Nat → Hint := fun cx => hintOf cx []
noncomputable def granaryref05_K_C (N : Nat) : Nat → List GS := fun k => tabOf k []
def granaryref05_K_o : List (Shp × List Nat) := [(⟨[(0, (.av (.agg [(.arr (.int .u32) (some 64))])))], []⟩, [])]
noncomputable def granaryref05_K_g (N : Nat) : GS := { ins := ⟨[], []⟩, lend := [], outs := granaryref05_K_o.map fun s => ssOf s.1, its := [], ots := [[.lst (.int .u32)]], F := granaryref05_K }
theorem granaryref05_K_t (N : Nat) : TabC Try.prog (granaryref05_K_C N) := tab_ok trivial
theorem granaryref05_K_i : loopsOf granaryref05_K_c = [] := by kernel_rfl
theorem granaryref05_K_e (N : Nat) (x) : (granaryref05_K_g N).F x = fnStep Γ (granaryref05_K_C N) (granaryref05_K_J N) 2 Try.f60.results.toList (granaryref05_K_g N) granaryref05_K_o granaryref05_K_c x := by kernel_rfl
theorem granaryref05_K_y : Try.f60.body = some granaryref05_K_c := by kernel_rfl
theorem granaryref05_K_n : (Try.f60.name == "runtime.NumGoroutine") = false := by kernel_rfl
theorem granaryref05_K_ok (N : Nat) : FnDoes Try.prog 60 (granaryref05_K_g N) := fn_ok tabOK (granaryref05_K_t N) mixedOK (J := granaryref05_K_J N) (body := granaryref05_K_c) Try.func60 granaryref05_K_y granaryref05_K_n Try.ntmps60 (jok_from granaryref05_K_i trivial) rfl rfl (le_of_ble rfl) (granaryref05_K_e N)
noncomputable def granaryref05_r_c : Code := codeOf Try.f61.body
noncomputable def granaryref05_r_J (N : Nat) : Nat → Hint := fun cx => hintOf cx []
noncomputable def granaryref05_r_C (N : Nat) : Nat → List GS := fun k => tabOf k []
def granaryref05_r_o : List (Shp × List Nat) := [(⟨[(0, (.av (.one (.int .u32))))], []⟩, [])]
noncomputable def granaryref05_r_g (N : Nat) : GS := { ins := ⟨[(0, (.av (.one (.int .u32)))), (1, (.av (.one (.int .u64))))], []⟩, lend := [.keep, .keep], outs := granaryref05_r_o.map fun s => ssOf s.1, its := [.int, .int], ots := [[.int]], F := granaryref05_r }
theorem granaryref05_r_t (N : Nat) : TabC Try.prog (granaryref05_r_C N) := tab_ok trivial
theorem granaryref05_r_i : loopsOf granaryref05_r_c = [] := by kernel_rfl
theorem granaryref05_r_e (N : Nat) (x) : (granaryref05_r_g N).F x = fnStep Γ (granaryref05_r_C N) (granaryref05_r_J N) 13 Try.f61.results.toList (granaryref05_r_g N) granaryref05_r_o granaryref05_r_c x := by kernel_rfl
theorem granaryref05_r_y : Try.f61.body = some granaryref05_r_c := by kernel_rfl
theorem granaryref05_r_n : (Try.f61.name == "runtime.NumGoroutine") = false := by kernel_rfl
theorem granaryref05_r_ok (N : Nat) : FnDoes Try.prog 61 (granaryref05_r_g N) := fn_ok tabOK (granaryref05_r_t N) mixedOK (J := granaryref05_r_J N) (body := granaryref05_r_c) Try.func61 granaryref05_r_y granaryref05_r_n Try.ntmps61 (jok_from granaryref05_r_i trivial) rfl rfl (le_of_ble rfl) (granaryref05_r_e N)
end Go.Rf.W
