/-
  The printed functions are what the program does.
-/
import Derived.Test.YtcehhkdpdehjhaaInoF0
import Derived.Test.YtcehhkdpdehjhaaInoT
import Derived.Test.YtcehhkdpdehjhaaRfC
set_option linter.unusedVariables false
set_option maxRecDepth 100000
namespace Go.Rf.W
open Go Go.Rf Go.Proofs
noncomputable def granarylaw12_long_c : Code := codeOf Try.f11.body
noncomputable def granarylaw12_long_J (N : Nat) : Nat → Hint := fun cx => hintOf cx []
noncomputable def granarylaw12_long_C (N : Nat) : Nat → List GS := fun k => tabOf k []
def granarylaw12_long_o : List (Shp × List Nat) := [(⟨[(0, (.av (.one .bool)))], []⟩, [])]
noncomputable def granarylaw12_long_g (N : Nat) : GS := { ins := ⟨[(0, (.av (.agg [(.one (.int .u64)), (.one (.int .u32)), (.one (.int .i64)), (.one (.int .u32)), (.one (.int .u32)), (.one (.int .u32)), (.one (.int .u32)), (.one (.int .u64)), (.one (.int .u64)), (.one (.int .u64)), (.one (.int .u64)), (.one (.int .u64)), (.one (.int .u64)), (.one .str)])))], []⟩, lend := [.keep], outs := granarylaw12_long_o.map fun s => ssOf s.1, its := [.int, .int, .int, .int, .int, .int, .int, .int, .int, .int, .int, .int, .int, .str], ots := [[.bool]], F := granarylaw12_long }
theorem granarylaw12_long_t (N : Nat) : TabC Try.prog (granarylaw12_long_C N) := tab_ok trivial
theorem granarylaw12_long_i : loopsOf granarylaw12_long_c = [] := by kernel_rfl
theorem granarylaw12_long_e (N : Nat) (x) : (granarylaw12_long_g N).F x = fnStep Γ (granarylaw12_long_C N) (granarylaw12_long_J N) 7 Try.f11.results.toList (granarylaw12_long_g N) granarylaw12_long_o granarylaw12_long_c x := by kernel_rfl
theorem granarylaw12_long_y : Try.f11.body = some granarylaw12_long_c := by kernel_rfl
theorem granarylaw12_long_n : (Try.f11.name == "runtime.NumGoroutine") = false := by kernel_rfl
theorem granarylaw12_long_ok (N : Nat) : FnDoes Try.prog 11 (granarylaw12_long_g N) := fn_ok tabOK (granarylaw12_long_t N) mixedOK (J := granarylaw12_long_J N) (body := granarylaw12_long_c) Try.func11 granarylaw12_long_y granarylaw12_long_n Try.ntmps11 (jok_from granarylaw12_long_i trivial) rfl rfl (le_of_ble rfl) (granarylaw12_long_e N)
noncomputable def inode_New_c : Code := codeOf Try.f28.body
noncomputable def inode_New_J (N : Nat) : Nat → Hint := fun cx => hintOf cx [(0, { reg := fun k => assoc0 k [(2, ⟨⟨[(28, (.av (.one .bool)))], [(.keep, true), (.keep, true), (.keep, true), (.keep, true), (.keep, true), (.keep, true), (.keep, true), (.keep, true), (.keep, true), (.keep, true), (.keep, true), (.keep, true), (.keep, true), (.keep, false), (.keep, true), (.keep, true), (.keep, true), (.keep, true), (.keep, true), (.keep, true), (.keep, true), (.keep, true), (.keep, true), (.keep, true), (.keep, true), (.keep, true), (.keep, true), (.keep, false)]⟩, [], [], [.bool]⟩)], cnd := fun k => assoc0 k [(36, ⟨[], [0, 1, 2, 3, 4, 5, 6, 7, 8, 9, 10, 11, 12, 13, 18], [(.normal, ⟨[], [(.sh (.one (.const (.int .u64 (0 : Int)))), true), (.sh (.one (.const (.int .u32 (0 : Int)))), true), (.sh (.one (.const (.int .i64 (0 : Int)))), true), (.sh (.one (.const (.int .u32 (0 : Int)))), true), (.sh (.one (.const (.int .u32 (0 : Int)))), true), (.sh (.one (.const (.int .u32 (0 : Int)))), true), (.sh (.one (.const (.int .u32 (0 : Int)))), true), (.sh (.one (.const (.int .u64 (0 : Int)))), true), (.sh (.one (.const (.int .u64 (0 : Int)))), true), (.sh (.one (.const (.int .u64 (0 : Int)))), true), (.sh (.one (.const (.int .u64 (0 : Int)))), true), (.sh (.one (.const (.int .u64 (0 : Int)))), true), (.sh (.one (.const (.int .u64 (0 : Int)))), true), (.sh (.one .str), false), (.keep, true), (.keep, true), (.keep, true), (.keep, true), (.sh (.one (.int .u32)), true), (.keep, true), (.keep, true), (.keep, true), (.keep, true), (.keep, true), (.keep, true), (.keep, true), (.keep, true), (.keep, false)]⟩), (.ret, ⟨[(15, (.av (.one (.const (.int .i64 (120 : Int))))))], [(.sh (.one (.const (.int .u64 (0 : Int)))), true), (.sh (.one (.const (.int .u32 (0 : Int)))), true), (.sh (.one (.const (.int .i64 (0 : Int)))), true), (.sh (.one (.const (.int .u32 (0 : Int)))), true), (.sh (.one (.const (.int .u32 (0 : Int)))), true), (.sh (.one (.const (.int .u32 (0 : Int)))), true), (.sh (.one (.const (.int .u32 (0 : Int)))), true), (.sh (.one (.const (.int .u64 (0 : Int)))), true), (.sh (.one (.const (.int .u64 (0 : Int)))), true), (.sh (.one (.const (.int .u64 (0 : Int)))), true), (.sh (.one (.const (.int .u64 (0 : Int)))), true), (.sh (.one (.const (.int .u64 (0 : Int)))), true), (.sh (.one (.const (.int .u64 (0 : Int)))), true), (.sh (.one .str), false), (.keep, true), (.keep, true), (.keep, true), (.keep, true), (.sh (.one (.const (.int .u32 (1 : Int)))), true), (.keep, true), (.keep, true), (.keep, true), (.keep, true), (.keep, true), (.keep, true), (.keep, true), (.keep, true), (.keep, false)]⟩)], [[.str, .int], [.str]]⟩)], loop := fun k => assoc0 k [], nil := fun k => assoc0 k [], unr := fun k => assocN k [], blk := fun k => assoc0 k [] })]
noncomputable def inode_New_C (N : Nat) : Nat → List GS := fun k => tabOf k []
def inode_New_o : List (Shp × List Nat) := [(⟨[(0, (.tup [(.agg [(.one (.int .u64)), (.one (.int .u32)), (.one (.int .i64)), (.one (.int .u32)), (.one (.int .u32)), (.one (.int .u32)), (.one (.int .u32)), (.one (.const (.int .u64 (0 : Int)))), (.one (.const (.int .u64 (0 : Int)))), (.one (.int .u64)), (.one (.int .u64)), (.one (.int .u64)), (.one (.const (.int .u64 (0 : Int)))), (.one .str)]), (.one (.int .i64))]))], []⟩, [])]
noncomputable def inode_New_g (N : Nat) : GS := { ins := ⟨[(0, (.av (.one (.int .u64)))), (1, (.av (.one (.int .u32)))), (2, (.av (.one (.int .i64)))), (3, (.av (.one (.int .u32)))), (4, (.av (.one (.int .u32)))), (5, (.av (.one (.int .u32)))), (6, (.av (.one (.int .u64))))], []⟩, lend := [.keep, .keep, .keep, .keep, .keep, .keep, .keep], outs := inode_New_o.map fun s => ssOf s.1, its := [.int, .int, .int, .int, .int, .int, .int], ots := [[.int, .int, .int, .int, .int, .int, .int, .int, .int, .int, .str, .int]], F := inode_New }
theorem inode_New_t (N : Nat) : TabC Try.prog (inode_New_C N) := tab_ok trivial
theorem inode_New_i : loopsOf inode_New_c = [] := by kernel_rfl
theorem inode_New_e (N : Nat) (x) : (inode_New_g N).F x = fnStep Γ (inode_New_C N) (inode_New_J N) 45 Try.f28.results.toList (inode_New_g N) inode_New_o inode_New_c x := by kernel_rfl
theorem inode_New_y : Try.f28.body = some inode_New_c := by kernel_rfl
theorem inode_New_n : (Try.f28.name == "runtime.NumGoroutine") = false := by kernel_rfl
theorem inode_New_ok (N : Nat) : FnDoes Try.prog 28 (inode_New_g N) := fn_ok tabOK (inode_New_t N) mixedOK (J := inode_New_J N) (body := inode_New_c) Try.func28 inode_New_y inode_New_n Try.ntmps28 (jok_from inode_New_i ⟨trivial, trivial⟩) rfl rfl (le_of_ble rfl) (inode_New_e N)
noncomputable def inode_kind_c : Code := codeOf Try.f51.body
noncomputable def inode_kind_J (N : Nat) : Nat → Hint := fun cx => hintOf cx [(0, { reg := fun k => assoc0 k [(1, ⟨⟨[(2, (.av (.one .bool)))], []⟩, [], [], [.bool]⟩)], cnd := fun k => assoc0 k [], loop := fun k => assoc0 k [], nil := fun k => assoc0 k [], unr := fun k => assocN k [], blk := fun k => assoc0 k [] })]
noncomputable def inode_kind_C (N : Nat) : Nat → List GS := fun k => tabOf k []
def inode_kind_o : List (Shp × List Nat) := [(⟨[(0, (.av (.one .bool)))], []⟩, [])]
noncomputable def inode_kind_g (N : Nat) : GS := { ins := ⟨[(0, (.av (.one (.int .i64))))], []⟩, lend := [.keep], outs := inode_kind_o.map fun s => ssOf s.1, its := [.int], ots := [[.bool]], F := inode_kind }
theorem inode_kind_t (N : Nat) : TabC Try.prog (inode_kind_C N) := tab_ok trivial
theorem inode_kind_i : loopsOf inode_kind_c = [] := by kernel_rfl
theorem inode_kind_e (N : Nat) (x) : (inode_kind_g N).F x = fnStep Γ (inode_kind_C N) (inode_kind_J N) 13 Try.f51.results.toList (inode_kind_g N) inode_kind_o inode_kind_c x := by kernel_rfl
theorem inode_kind_y : Try.f51.body = some inode_kind_c := by kernel_rfl
theorem inode_kind_n : (Try.f51.name == "runtime.NumGoroutine") = false := by kernel_rfl
theorem inode_kind_ok (N : Nat) : FnDoes Try.prog 51 (inode_kind_g N) := fn_ok tabOK (inode_kind_t N) mixedOK (J := inode_kind_J N) (body := inode_kind_c) Try.func51 inode_kind_y inode_kind_n Try.ntmps51 (jok_from inode_kind_i ⟨trivial, trivial⟩) rfl rfl (le_of_ble rfl) (inode_kind_e N)
noncomputable def inode_Check_c : Code := codeOf Try.f18.body
noncomputable def inode_Check_J (N : Nat) : Nat → Hint := fun cx => hintOf cx [(0, { reg := fun k => assoc0 k [(1, ⟨⟨[(3, (.av (.one .bool)))], [(.keep, true), (.keep, true), (.keep, true), (.keep, true), (.keep, true), (.keep, true), (.keep, true), (.keep, true), (.keep, true), (.keep, true), (.keep, true), (.keep, true), (.keep, true), (.keep, false)]⟩, [], [], [.bool]⟩), (13, ⟨⟨[(63, (.av (.one .bool)))], [(.keep, true), (.keep, true), (.keep, true), (.keep, true), (.keep, true), (.keep, true), (.keep, true), (.keep, true), (.keep, true), (.keep, true), (.keep, true), (.keep, true), (.keep, true), (.keep, false)]⟩, [], [], [.bool]⟩)], cnd := fun k => assoc0 k [], loop := fun k => assoc0 k [], nil := fun k => assoc0 k [], unr := fun k => assocN k [], blk := fun k => assoc0 k [] })]
noncomputable def inode_Check_C (N : Nat) : Nat → List GS := fun k => tabOf k [(51, [inode_kind_g N])]
def inode_Check_o : List (Shp × List Nat) := [(⟨[(0, (.av (.one (.int .i64))))], []⟩, [])]
noncomputable def inode_Check_g (N : Nat) : GS := { ins := ⟨[(0, (.av (.agg [(.one (.int .u64)), (.one (.int .u32)), (.one (.int .i64)), (.one (.int .u32)), (.one (.int .u32)), (.one (.int .u32)), (.one (.int .u32)), (.one (.int .u64)), (.one (.int .u64)), (.one (.int .u64)), (.one (.int .u64)), (.one (.int .u64)), (.one (.int .u64)), (.one .str)])))], []⟩, lend := [.keep], outs := inode_Check_o.map fun s => ssOf s.1, its := [.int, .int, .int, .int, .int, .int, .int, .int, .int, .int, .int, .int, .int, .str], ots := [[.int]], F := inode_Check }
noncomputable def inode_Check_CA (N : Nat) (f0 : Int → Option (Bool)) : Nat → List GS := fun k => tabOf k [(51, [{ inode_kind_g N with F := f0 }])]
theorem inode_Check_CE (N : Nat) : inode_Check_CA N (inode_kind) = inode_Check_C N := by kernel_rfl
theorem inode_Check_t (N : Nat) : TabC Try.prog (inode_Check_C N) := tab_ok ⟨⟨inode_kind_ok N, trivial⟩, trivial⟩
theorem inode_Check_i : loopsOf inode_Check_c = [] := by kernel_rfl
noncomputable def inode_Check_a (N : Nat) (f0 : Int → Option (Bool)) (x : Int × Int × Int × Int × Int × Int × Int × Int × Int × Int × Int × Int × Int × (List UInt8)) : Option (Int) :=
  (Option.bind
  (cond (decide (x.1 = (0 : Int)))
  (some true)
  (cond (decide (x.2.1 = (0 : Int)))
  (some true)
  (Option.bind (f0 x.2.2.1) fun r3 =>
  (cond (!r3)
  (some true)
  (some (decide ((4095 : Int) < x.2.2.2.1)))))))
  fun r6 =>
  (cond r6
  (some (120 : Int))
  (cond (decide ((32000 : Int) < x.2.2.2.2.1))
  (some (123 : Int))
  (cond (decide ((255 : Int) < (((List.length x.2.2.2.2.2.2.2.2.2.2.2.2.2) : Nat) : Int)))
  (some (1 : Int))
  (cond (decide ((1048576 : Int) < x.2.2.2.2.2.2.2.1))
  (some (122 : Int))
  (cond (!(decide (x.2.2.1 = (5 : Int))))
  (cond (!(decide (x.2.2.2.2.2.2.2.2.2.2.2.2.2 = ([] : List UInt8))))
  (some (120 : Int))
  (some (0 : Int)))
  (Option.bind
  (cond (decide (x.2.2.2.2.2.2.2.2.2.2.2.2.2 = ([] : List UInt8)))
  (some true)
  (cond (!(decide (x.2.2.2.2.2.2.2.1 = (wrapF .u64 (((List.length x.2.2.2.2.2.2.2.2.2.2.2.2.2) : Nat) : Int)))))
  (some true)
  (cond (!(decide (x.2.2.2.2.2.2.2.2.2.2.2.2.1 = (0 : Int))))
  (some true)
  (some (!(decide (x.2.2.2.2.2.2.2.2.1 = (0 : Int))))))))
  fun r19 =>
  (cond r19
  (some (120 : Int))
  (some (0 : Int))))))))))
theorem inode_Check_f (N : Nat) (f0 : Int → Option (Bool)) (x) : inode_Check_a N f0 x = fnStep Γ (inode_Check_CA N f0) (inode_Check_J N) 64 Try.f18.results.toList (inode_Check_g N) inode_Check_o inode_Check_c x := by kernel_rfl
theorem inode_Check_e (N : Nat) (x) : (inode_Check_g N).F x = fnStep Γ (inode_Check_C N) (inode_Check_J N) 64 Try.f18.results.toList (inode_Check_g N) inode_Check_o inode_Check_c x := by
  rw [← inode_Check_CE N]
  exact Eq.trans (by kernel_rfl) (inode_Check_f N (inode_kind) x)
theorem inode_Check_y : Try.f18.body = some inode_Check_c := by kernel_rfl
theorem inode_Check_n : (Try.f18.name == "runtime.NumGoroutine") = false := by kernel_rfl
theorem inode_Check_ok (N : Nat) : FnDoes Try.prog 18 (inode_Check_g N) := fn_ok tabOK (inode_Check_t N) mixedOK (J := inode_Check_J N) (body := inode_Check_c) Try.func18 inode_Check_y inode_Check_n Try.ntmps18 (jok_from inode_Check_i ⟨trivial, trivial⟩) rfl rfl (le_of_ble rfl) (inode_Check_e N)
noncomputable def octet_Lay_c : Code := codeOf Try.f57.body
noncomputable def octet_Lay_c0 : Code := codeOf (getLoop 0 octet_Lay_c)
def octet_Lay_d0 : LD := { ins := ⟨[(0, (.av (.one (.sl 0 1)))), (1, (.av (.one (.int .u64)))), (4, (.av (.one (.int .i64))))], [(.sh (.arr (.int .u8) none), false)]⟩, mov := [], wr := [0], outs := [(.exit 0, ⟨[], [(.sh (.arr (.int .u8) none), false)]⟩)], its := [.nat, .nat, .int, .int, .lst (.int .u8)], ots := [[.lst (.int .u8)]] }
noncomputable def octet_Lay_J (N : Nat) : Nat → Hint := fun cx => hintOf cx [(0, { reg := fun k => assoc0 k [], cnd := fun k => assoc0 k [], loop := fun k => assoc0 k [(0, ⟨octet_Lay_d0, loopF (octet_Lay_b0 N) N⟩)], nil := fun k => assoc0 k [], unr := fun k => assocN k [], blk := fun k => assoc0 k [] })]
noncomputable def octet_Lay_C (N : Nat) : Nat → List GS := fun k => tabOf k []
def octet_Lay_o : List (Shp × List Nat) := [(⟨[(0, (.tup []))], [(.sh (.arr (.int .u8) none), false)]⟩, [])]
noncomputable def octet_Lay_g (N : Nat) : GS := { ins := ⟨[(0, (.av (.one (.sl 0 1)))), (1, (.av (.one (.int .u64))))], [(some (.arr (.int .u8) none), false)]⟩, lend := [.keep, .keep], outs := octet_Lay_o.map fun s => ssOf s.1, its := [.nat, .nat, .int, .lst (.int .u8)], ots := [[.lst (.int .u8)]], F := octet_Lay N }
theorem octet_Lay_t (N : Nat) : TabC Try.prog (octet_Lay_C N) := tab_ok trivial
theorem octet_Lay_i0 : loopsOf octet_Lay_c0 = [] := by kernel_rfl
theorem octet_Lay_e0 (N : Nat) (next) (x) : octet_Lay_b0 N next x = loopStep Γ (octet_Lay_C N) (octet_Lay_J N) 0 19 octet_Lay_d0 octet_Lay_c0 next x := by kernel_rfl
theorem octet_Lay_k0 (N : Nat) : LoopOK Try.prog 19 octet_Lay_c0 ⟨octet_Lay_d0, loopF (octet_Lay_b0 N) N⟩ := loop_ok tabOK (octet_Lay_t N) mixedOK (J := octet_Lay_J N) (cx := 0) (body := octet_Lay_c0) (nt := 19) (l := octet_Lay_d0) (b := octet_Lay_b0 N) (jok_from octet_Lay_i0 ⟨trivial, trivial⟩) (octet_Lay_e0 N) N
theorem octet_Lay_i : loopsOf octet_Lay_c = [(0, octet_Lay_c0)] := by kernel_rfl
theorem octet_Lay_e (N : Nat) (x) : (octet_Lay_g N).F x = fnStep Γ (octet_Lay_C N) (octet_Lay_J N) 19 Try.f57.results.toList (octet_Lay_g N) octet_Lay_o octet_Lay_c x := by kernel_rfl
theorem octet_Lay_y : Try.f57.body = some octet_Lay_c := by kernel_rfl
theorem octet_Lay_n : (Try.f57.name == "runtime.NumGoroutine") = false := by kernel_rfl
theorem octet_Lay_ok (N : Nat) : FnDoes Try.prog 57 (octet_Lay_g N) := fn_ok tabOK (octet_Lay_t N) mixedOK (J := octet_Lay_J N) (body := octet_Lay_c) Try.func57 octet_Lay_y octet_Lay_n Try.ntmps57 (jok_from octet_Lay_i ⟨⟨.inr ⟨_, rfl, octet_Lay_k0 N⟩, trivial⟩, trivial⟩) rfl rfl (le_of_ble rfl) (octet_Lay_e N)
noncomputable def octet_Put_c : Code := codeOf Try.f40.body
noncomputable def octet_Put_J (N : Nat) : Nat → Hint := fun cx => hintOf cx []
noncomputable def octet_Put_C (N : Nat) : Nat → List GS := fun k => tabOf k [(57, [octet_Lay_g N])]
def octet_Put_o : List (Shp × List Nat) := [(⟨[(0, (.av (.one (.const (.slw 0 1)))))], [(.sh (.arr (.int .u8) none), false)]⟩, [])]
noncomputable def octet_Put_g (N : Nat) : GS := { ins := ⟨[(0, (.av (.one (.const .nils)))), (1, (.av (.one (.int .u64)))), (2, (.av (.one (.int .i64))))], []⟩, lend := [.keep, .keep, .keep], outs := octet_Put_o.map fun s => ssOf s.1, its := [.int, .int], ots := [[.lst (.int .u8)]], F := octet_Put N }
noncomputable def octet_Put_CA (N : Nat) (f0 : Nat × Nat × Int × (List Int) → Option ((List Int))) : Nat → List GS := fun k => tabOf k [(57, [{ octet_Lay_g N with F := f0 }])]
theorem octet_Put_CE (N : Nat) : octet_Put_CA N (octet_Lay N) = octet_Put_C N := by kernel_rfl
theorem octet_Put_t (N : Nat) : TabC Try.prog (octet_Put_C N) := tab_ok ⟨⟨octet_Lay_ok N, trivial⟩, trivial⟩
theorem octet_Put_i : loopsOf octet_Put_c = [] := by kernel_rfl
noncomputable def octet_Put_a (N : Nat) (f0 : Nat × Nat × Int × (List Int) → Option ((List Int))) (x : Int × Int) : Option ((List Int)) :=
  (cond (((decide ((0 : Int) ≤ x.2)) && (fits 1 (Int.toNat x.2))) && (fits 1 (List.length (List.replicate (Int.toNat x.2) (EK.dflt (.int .u8))))))
  ((let v1 : List Int := (List.replicate (Int.toNat x.2) (EK.dflt (.int .u8)))
  (let v3 : Int := (wrapF .i64 ((((List.length v1) : Nat) : Int) - x.2))
  (cond (((decide ((0 : Int) ≤ v3)) && (decide (v3 ≤ (((List.length v1) : Nat) : Int)))) && (decide ((((List.length v1) : Nat) : Int) ≤ (((List.length v1) : Nat) : Int))))
  ((Option.bind (f0 ((Int.toNat v3), ((List.length v1) - (Int.toNat v3)), x.1, v1)) fun r6 =>
  (some r6)))
  none))))
  none)
theorem octet_Put_f (N : Nat) (f0 : Nat × Nat × Int × (List Int) → Option ((List Int))) (x) : octet_Put_a N f0 x = fnStep Γ (octet_Put_CA N f0) (octet_Put_J N) 19 Try.f40.results.toList (octet_Put_g N) octet_Put_o octet_Put_c x := by kernel_rfl
theorem octet_Put_e (N : Nat) (x) : (octet_Put_g N).F x = fnStep Γ (octet_Put_C N) (octet_Put_J N) 19 Try.f40.results.toList (octet_Put_g N) octet_Put_o octet_Put_c x := by
  rw [← octet_Put_CE N]
  exact Eq.trans (by kernel_rfl) (octet_Put_f N (octet_Lay N) x)
theorem octet_Put_y : Try.f40.body = some octet_Put_c := by kernel_rfl
theorem octet_Put_n : (Try.f40.name == "runtime.NumGoroutine") = false := by kernel_rfl
theorem octet_Put_ok (N : Nat) : FnDoes Try.prog 40 (octet_Put_g N) := fn_ok tabOK (octet_Put_t N) mixedOK (J := octet_Put_J N) (body := octet_Put_c) Try.func40 octet_Put_y octet_Put_n Try.ntmps40 (jok_from octet_Put_i trivial) rfl rfl (le_of_ble rfl) (octet_Put_e N)
noncomputable def inode_words_c : Code := codeOf Try.f41.body
noncomputable def inode_words_J (N : Nat) : Nat → Hint := fun cx => hintOf cx []
noncomputable def inode_words_C (N : Nat) : Nat → List GS := fun k => tabOf k []
def inode_words_o : List (Shp × List Nat) := [(⟨[(0, (.av (.one (.sl 0 1))))], [(.sh (.arr (.int .u64) none), false)]⟩, [])]
noncomputable def inode_words_g (N : Nat) : GS := { ins := ⟨[(0, (.av (.agg [(.one (.int .u64)), (.one (.int .u32)), (.one (.int .i64)), (.one (.int .u32)), (.one (.int .u32)), (.one (.int .u32)), (.one (.int .u32)), (.one (.int .u64)), (.one (.int .u64)), (.one (.int .u64)), (.one (.int .u64)), (.one (.int .u64)), (.one (.int .u64)), (.one .str)])))], []⟩, lend := [.keep], outs := inode_words_o.map fun s => ssOf s.1, its := [.int, .int, .int, .int, .int, .int, .int, .int, .int, .int, .int, .int, .int, .str], ots := [[.nat, .nat, .lst (.int .u64)]], F := inode_words }
theorem inode_words_t (N : Nat) : TabC Try.prog (inode_words_C N) := tab_ok trivial
theorem inode_words_i : loopsOf inode_words_c = [] := by kernel_rfl
theorem inode_words_e (N : Nat) (x) : (inode_words_g N).F x = fnStep Γ (inode_words_C N) (inode_words_J N) 22 Try.f41.results.toList (inode_words_g N) inode_words_o inode_words_c x := by kernel_rfl
theorem inode_words_y : Try.f41.body = some inode_words_c := by kernel_rfl
theorem inode_words_n : (Try.f41.name == "runtime.NumGoroutine") = false := by kernel_rfl
theorem inode_words_ok (N : Nat) : FnDoes Try.prog 41 (inode_words_g N) := fn_ok tabOK (inode_words_t N) mixedOK (J := inode_words_J N) (body := inode_words_c) Try.func41 inode_words_y inode_words_n Try.ntmps41 (jok_from inode_words_i trivial) rfl rfl (le_of_ble rfl) (inode_words_e N)
noncomputable def octet_Put_v1_c : Code := codeOf Try.f40.body
noncomputable def octet_Put_v1_J (N : Nat) : Nat → Hint := fun cx => hintOf cx []
noncomputable def octet_Put_v1_C (N : Nat) : Nat → List GS := fun k => tabOf k [(57, [octet_Lay_g N])]
def octet_Put_v1_o : List (Shp × List Nat) := [(⟨[(0, (.av (.one (.const (.slw 1 1)))))], [(.dead, false), (.sh (.arr (.int .u8) none), false)]⟩, [])]
noncomputable def octet_Put_v1_g (N : Nat) : GS := { ins := ⟨[(0, (.av (.one (.const (.slw 0 1))))), (1, (.av (.one (.int .u64)))), (2, (.av (.one (.int .i64))))], [(some (.arr (.int .u8) none), false)]⟩, lend := [.keep, .keep, .keep], outs := octet_Put_v1_o.map fun s => ssOf s.1, its := [.int, .int, .lst (.int .u8)], ots := [[.lst (.int .u8)]], F := octet_Put_v1 N }
noncomputable def octet_Put_v1_CA (N : Nat) (f0 : Nat × Nat × Int × (List Int) → Option ((List Int))) : Nat → List GS := fun k => tabOf k [(57, [{ octet_Lay_g N with F := f0 }])]
theorem octet_Put_v1_CE (N : Nat) : octet_Put_v1_CA N (octet_Lay N) = octet_Put_v1_C N := by kernel_rfl
theorem octet_Put_v1_t (N : Nat) : TabC Try.prog (octet_Put_v1_C N) := tab_ok ⟨⟨octet_Lay_ok N, trivial⟩, trivial⟩
theorem octet_Put_v1_i : loopsOf octet_Put_v1_c = [] := by kernel_rfl
noncomputable def octet_Put_v1_a (N : Nat) (f0 : Nat × Nat × Int × (List Int) → Option ((List Int))) (x : Int × Int × (List Int)) : Option ((List Int)) :=
  (cond (((decide ((0 : Int) ≤ x.2.1)) && (fits 1 (Int.toNat x.2.1))) && (fits 1 ((List.length x.2.2) + (List.length (List.replicate (Int.toNat x.2.1) (EK.dflt (.int .u8)))))))
  ((let v1 : List Int := (x.2.2 ++ (List.replicate (Int.toNat x.2.1) (EK.dflt (.int .u8))))
  (let v3 : Int := (wrapF .i64 ((((List.length v1) : Nat) : Int) - x.2.1))
  (cond (((decide ((0 : Int) ≤ v3)) && (decide (v3 ≤ (((List.length v1) : Nat) : Int)))) && (decide ((((List.length v1) : Nat) : Int) ≤ (((List.length v1) : Nat) : Int))))
  ((Option.bind (f0 ((Int.toNat v3), ((List.length v1) - (Int.toNat v3)), x.1, v1)) fun r6 =>
  (some r6)))
  none))))
  none)
theorem octet_Put_v1_f (N : Nat) (f0 : Nat × Nat × Int × (List Int) → Option ((List Int))) (x) : octet_Put_v1_a N f0 x = fnStep Γ (octet_Put_v1_CA N f0) (octet_Put_v1_J N) 19 Try.f40.results.toList (octet_Put_v1_g N) octet_Put_v1_o octet_Put_v1_c x := by kernel_rfl
theorem octet_Put_v1_e (N : Nat) (x) : (octet_Put_v1_g N).F x = fnStep Γ (octet_Put_v1_C N) (octet_Put_v1_J N) 19 Try.f40.results.toList (octet_Put_v1_g N) octet_Put_v1_o octet_Put_v1_c x := by
  rw [← octet_Put_v1_CE N]
  exact Eq.trans (by kernel_rfl) (octet_Put_v1_f N (octet_Lay N) x)
theorem octet_Put_v1_y : Try.f40.body = some octet_Put_v1_c := by kernel_rfl
theorem octet_Put_v1_n : (Try.f40.name == "runtime.NumGoroutine") = false := by kernel_rfl
theorem octet_Put_v1_ok (N : Nat) : FnDoes Try.prog 40 (octet_Put_v1_g N) := fn_ok tabOK (octet_Put_v1_t N) mixedOK (J := octet_Put_v1_J N) (body := octet_Put_v1_c) Try.func40 octet_Put_v1_y octet_Put_v1_n Try.ntmps40 (jok_from octet_Put_v1_i trivial) rfl rfl (le_of_ble rfl) (octet_Put_v1_e N)
noncomputable def inode_longs_c : Code := codeOf Try.f42.body
noncomputable def inode_longs_J (N : Nat) : Nat → Hint := fun cx => hintOf cx []
noncomputable def inode_longs_C (N : Nat) : Nat → List GS := fun k => tabOf k []
def inode_longs_o : List (Shp × List Nat) := [(⟨[(0, (.av (.one (.sl 0 1))))], [(.sh (.arr (.int .u64) none), false)]⟩, [])]
noncomputable def inode_longs_g (N : Nat) : GS := { ins := ⟨[(0, (.av (.agg [(.one (.int .u64)), (.one (.int .u32)), (.one (.int .i64)), (.one (.int .u32)), (.one (.int .u32)), (.one (.int .u32)), (.one (.int .u32)), (.one (.int .u64)), (.one (.int .u64)), (.one (.int .u64)), (.one (.int .u64)), (.one (.int .u64)), (.one (.int .u64)), (.one .str)])))], []⟩, lend := [.keep], outs := inode_longs_o.map fun s => ssOf s.1, its := [.int, .int, .int, .int, .int, .int, .int, .int, .int, .int, .int, .int, .int, .str], ots := [[.nat, .nat, .lst (.int .u64)]], F := inode_longs }
theorem inode_longs_t (N : Nat) : TabC Try.prog (inode_longs_C N) := tab_ok trivial
theorem inode_longs_i : loopsOf inode_longs_c = [] := by kernel_rfl
theorem inode_longs_e (N : Nat) (x) : (inode_longs_g N).F x = fnStep Γ (inode_longs_C N) (inode_longs_J N) 16 Try.f42.results.toList (inode_longs_g N) inode_longs_o inode_longs_c x := by kernel_rfl
theorem inode_longs_y : Try.f42.body = some inode_longs_c := by kernel_rfl
theorem inode_longs_n : (Try.f42.name == "runtime.NumGoroutine") = false := by kernel_rfl
theorem inode_longs_ok (N : Nat) : FnDoes Try.prog 42 (inode_longs_g N) := fn_ok tabOK (inode_longs_t N) mixedOK (J := inode_longs_J N) (body := inode_longs_c) Try.func42 inode_longs_y inode_longs_n Try.ntmps42 (jok_from inode_longs_i trivial) rfl rfl (le_of_ble rfl) (inode_longs_e N)
noncomputable def inode_Put_c : Code := codeOf Try.f13.body
noncomputable def inode_Put_c0 : Code := codeOf (getLoop 0 inode_Put_c)
noncomputable def inode_Put_c2 : Code := codeOf (getLoop 2 inode_Put_c)
def inode_Put_d0 : LD := { ins := ⟨[(1, (.av (.one (.const (.ptr ⟨0, 0, 0, 0⟩))))), (5, (.av (.one (.const (.slw 14 1))))), (19, (.av (.one (.sl 15 1)))), (20, (.av (.one (.int .i64)))), (21, (.av (.one (.int .i64))))], [(.keep, false), (.keep, false), (.keep, false), (.keep, false), (.keep, false), (.keep, false), (.keep, false), (.keep, false), (.keep, false), (.keep, false), (.keep, false), (.keep, false), (.keep, false), (.keep, false), (.sh (.arr (.int .u8) none), false), (.sh (.arr (.int .u64) none), false)]⟩, mov := [14], wr := [15], outs := [(.exit 0, ⟨[(5, (.av (.one (.const (.slw 16 1)))))], [(.keep, false), (.keep, false), (.keep, false), (.keep, false), (.keep, false), (.keep, false), (.keep, false), (.keep, false), (.keep, false), (.keep, false), (.keep, false), (.keep, false), (.keep, false), (.keep, false), (.dead, false), (.sh (.arr (.int .u64) none), false), (.sh (.arr (.int .u8) none), false)]⟩)], its := [.nat, .nat, .int, .int, .lst (.int .u8), .lst (.int .u64)], ots := [[.lst (.int .u64), .lst (.int .u8)]] }
def inode_Put_d2 : LD := { ins := ⟨[(1, (.av (.one (.const (.ptr ⟨0, 0, 0, 0⟩))))), (5, (.av (.one (.const (.slw 16 1))))), (30, (.av (.one (.sl 17 1)))), (31, (.av (.one (.int .i64)))), (32, (.av (.one (.int .i64))))], [(.keep, false), (.keep, false), (.keep, false), (.keep, false), (.keep, false), (.keep, false), (.keep, false), (.keep, false), (.keep, false), (.keep, false), (.keep, false), (.keep, false), (.keep, false), (.keep, false), (.keep, false), (.keep, false), (.sh (.arr (.int .u8) none), false), (.sh (.arr (.int .u64) none), false)]⟩, mov := [16], wr := [17], outs := [(.exit 2, ⟨[(5, (.av (.one (.const (.slw 18 1)))))], [(.keep, false), (.keep, false), (.keep, false), (.keep, false), (.keep, false), (.keep, false), (.keep, false), (.keep, false), (.keep, false), (.keep, false), (.keep, false), (.keep, false), (.keep, false), (.keep, false), (.keep, false), (.keep, false), (.dead, false), (.sh (.arr (.int .u64) none), false), (.sh (.arr (.int .u8) none), false)]⟩)], its := [.nat, .nat, .int, .int, .lst (.int .u8), .lst (.int .u64)], ots := [[.lst (.int .u64), .lst (.int .u8)]] }
noncomputable def inode_Put_J (N : Nat) : Nat → Hint := fun cx => hintOf cx [(0, { reg := fun k => assoc0 k [], cnd := fun k => assoc0 k [], loop := fun k => assoc0 k [(0, ⟨inode_Put_d0, loopF (inode_Put_b0 N) N⟩), (2, ⟨inode_Put_d2, loopF (inode_Put_b2 N) N⟩)], nil := fun k => assoc0 k [], unr := fun k => assocN k [], blk := fun k => assoc0 k [] })]
noncomputable def inode_Put_C (N : Nat) : Nat → List GS := fun k => tabOf k [(18, [inode_Check_g N]), (40, [octet_Put_g N, octet_Put_v1_g N]), (41, [inode_words_g N]), (42, [inode_longs_g N])]
def inode_Put_o : List (Shp × List Nat) := [(⟨[(0, (.tup [(.one (.const (.slw 0 1))), (.one (.int .i64))]))], [(.sh (.arr (.int .u8) none), false)]⟩, [])]
noncomputable def inode_Put_g (N : Nat) : GS := { ins := ⟨[(0, (.av (.agg [(.one (.int .u64)), (.one (.int .u32)), (.one (.int .i64)), (.one (.int .u32)), (.one (.int .u32)), (.one (.int .u32)), (.one (.int .u32)), (.one (.int .u64)), (.one (.int .u64)), (.one (.int .u64)), (.one (.int .u64)), (.one (.int .u64)), (.one (.int .u64)), (.one .str)])))], []⟩, lend := [.keep], outs := inode_Put_o.map fun s => ssOf s.1, its := [.int, .int, .int, .int, .int, .int, .int, .int, .int, .int, .int, .int, .int, .str], ots := [[.int, .lst (.int .u8)]], F := inode_Put N }
noncomputable def inode_Put_CA (N : Nat) (f0 : Int × Int × Int × Int × Int × Int × Int × Int × Int × Int × Int × Int × Int × (List UInt8) → Option (Int)) (f1 : Int × Int → Option ((List Int))) (f2 : Int × Int × (List Int) → Option ((List Int))) (f3 : Int × Int × Int × Int × Int × Int × Int × Int × Int × Int × Int × Int × Int × (List UInt8) → Option (Nat × Nat × (List Int))) (f4 : Int × Int × Int × Int × Int × Int × Int × Int × Int × Int × Int × Int × Int × (List UInt8) → Option (Nat × Nat × (List Int))) : Nat → List GS := fun k => tabOf k [(18, [{ inode_Check_g N with F := f0 }]), (40, [{ octet_Put_g N with F := f1 }, { octet_Put_v1_g N with F := f2 }]), (41, [{ inode_words_g N with F := f3 }]), (42, [{ inode_longs_g N with F := f4 }])]
theorem inode_Put_CE (N : Nat) : inode_Put_CA N (inode_Check) (octet_Put N) (octet_Put_v1 N) (inode_words) (inode_longs) = inode_Put_C N := by kernel_rfl
theorem inode_Put_t (N : Nat) : TabC Try.prog (inode_Put_C N) := tab_ok ⟨⟨inode_Check_ok N, trivial⟩, ⟨octet_Put_ok N, octet_Put_v1_ok N, trivial⟩, ⟨inode_words_ok N, trivial⟩, ⟨inode_longs_ok N, trivial⟩, trivial⟩
theorem inode_Put_i0 : loopsOf inode_Put_c0 = [] := by kernel_rfl
noncomputable def inode_Put_a0 (N : Nat) (f0 : Int × Int × Int × Int × Int × Int × Int × Int × Int × Int × Int × Int × Int × (List UInt8) → Option (Int)) (f1 : Int × Int → Option ((List Int))) (f2 : Int × Int × (List Int) → Option ((List Int))) (f3 : Int × Int × Int × Int × Int × Int × Int × Int × Int × Int × Int × Int × Int × (List UInt8) → Option (Nat × Nat × (List Int))) (f4 : Int × Int × Int × Int × Int × Int × Int × Int × Int × Int × Int × Int × Int × (List UInt8) → Option (Nat × Nat × (List Int))) (next : Nat × Nat × Int × Int × (List Int) × (List Int) → Option (((List Int) × (List Int)))) (x : Nat × Nat × Int × Int × (List Int) × (List Int)) : Option (((List Int) × (List Int))) :=
  (cond (decide (x.2.2.2.1 < x.2.2.1))
  (cond ((decide ((0 : Int) ≤ x.2.2.2.1)) && (decide (x.2.2.2.1 < ((x.2.1 : Nat) : Int))))
  ((let v2 : Nat := ((Int.toNat x.2.2.2.1) + x.1)
  (cond (decide (v2 < (List.length x.2.2.2.2.2)))
  ((Option.bind (f2 ((List.getD x.2.2.2.2.2 v2 (EK.dflt (.int .u64))), (4 : Int), x.2.2.2.2.1)) fun r4 =>
  (next (x.1, x.2.1, x.2.2.1, (wrapF .i64 (x.2.2.2.1 + (1 : Int))), r4, x.2.2.2.2.2))))
  none)))
  none)
  (some (x.2.2.2.2.2, x.2.2.2.2.1)))
theorem inode_Put_f0 (N : Nat) (f0 : Int × Int × Int × Int × Int × Int × Int × Int × Int × Int × Int × Int × Int × (List UInt8) → Option (Int)) (f1 : Int × Int → Option ((List Int))) (f2 : Int × Int × (List Int) → Option ((List Int))) (f3 : Int × Int × Int × Int × Int × Int × Int × Int × Int × Int × Int × Int × Int × (List UInt8) → Option (Nat × Nat × (List Int))) (f4 : Int × Int × Int × Int × Int × Int × Int × Int × Int × Int × Int × Int × Int × (List UInt8) → Option (Nat × Nat × (List Int))) (next) (x) : inode_Put_a0 N f0 f1 f2 f3 f4 next x = loopStep Γ (inode_Put_CA N f0 f1 f2 f3 f4) (inode_Put_J N) 0 56 inode_Put_d0 inode_Put_c0 next x := by kernel_rfl
theorem inode_Put_e0 (N : Nat) (next) (x) : inode_Put_b0 N next x = loopStep Γ (inode_Put_C N) (inode_Put_J N) 0 56 inode_Put_d0 inode_Put_c0 next x := by
  rw [← inode_Put_CE N]
  exact Eq.trans (by kernel_rfl) (inode_Put_f0 N (inode_Check) (octet_Put N) (octet_Put_v1 N) (inode_words) (inode_longs) next x)
theorem inode_Put_k0 (N : Nat) : LoopOK Try.prog 56 inode_Put_c0 ⟨inode_Put_d0, loopF (inode_Put_b0 N) N⟩ := loop_ok tabOK (inode_Put_t N) mixedOK (J := inode_Put_J N) (cx := 0) (body := inode_Put_c0) (nt := 56) (l := inode_Put_d0) (b := inode_Put_b0 N) (jok_from inode_Put_i0 ⟨trivial, trivial⟩) (inode_Put_e0 N) N
theorem inode_Put_i2 : loopsOf inode_Put_c2 = [] := by kernel_rfl
noncomputable def inode_Put_a2 (N : Nat) (f0 : Int × Int × Int × Int × Int × Int × Int × Int × Int × Int × Int × Int × Int × (List UInt8) → Option (Int)) (f1 : Int × Int → Option ((List Int))) (f2 : Int × Int × (List Int) → Option ((List Int))) (f3 : Int × Int × Int × Int × Int × Int × Int × Int × Int × Int × Int × Int × Int × (List UInt8) → Option (Nat × Nat × (List Int))) (f4 : Int × Int × Int × Int × Int × Int × Int × Int × Int × Int × Int × Int × Int × (List UInt8) → Option (Nat × Nat × (List Int))) (next : Nat × Nat × Int × Int × (List Int) × (List Int) → Option (((List Int) × (List Int)))) (x : Nat × Nat × Int × Int × (List Int) × (List Int)) : Option (((List Int) × (List Int))) :=
  (cond (decide (x.2.2.2.1 < x.2.2.1))
  (cond ((decide ((0 : Int) ≤ x.2.2.2.1)) && (decide (x.2.2.2.1 < ((x.2.1 : Nat) : Int))))
  ((let v2 : Nat := ((Int.toNat x.2.2.2.1) + x.1)
  (cond (decide (v2 < (List.length x.2.2.2.2.2)))
  ((Option.bind (f2 ((List.getD x.2.2.2.2.2 v2 (EK.dflt (.int .u64))), (8 : Int), x.2.2.2.2.1)) fun r4 =>
  (next (x.1, x.2.1, x.2.2.1, (wrapF .i64 (x.2.2.2.1 + (1 : Int))), r4, x.2.2.2.2.2))))
  none)))
  none)
  (some (x.2.2.2.2.2, x.2.2.2.2.1)))
theorem inode_Put_f2 (N : Nat) (f0 : Int × Int × Int × Int × Int × Int × Int × Int × Int × Int × Int × Int × Int × (List UInt8) → Option (Int)) (f1 : Int × Int → Option ((List Int))) (f2 : Int × Int × (List Int) → Option ((List Int))) (f3 : Int × Int × Int × Int × Int × Int × Int × Int × Int × Int × Int × Int × Int × (List UInt8) → Option (Nat × Nat × (List Int))) (f4 : Int × Int × Int × Int × Int × Int × Int × Int × Int × Int × Int × Int × Int × (List UInt8) → Option (Nat × Nat × (List Int))) (next) (x) : inode_Put_a2 N f0 f1 f2 f3 f4 next x = loopStep Γ (inode_Put_CA N f0 f1 f2 f3 f4) (inode_Put_J N) 0 56 inode_Put_d2 inode_Put_c2 next x := by kernel_rfl
theorem inode_Put_e2 (N : Nat) (next) (x) : inode_Put_b2 N next x = loopStep Γ (inode_Put_C N) (inode_Put_J N) 0 56 inode_Put_d2 inode_Put_c2 next x := by
  rw [← inode_Put_CE N]
  exact Eq.trans (by kernel_rfl) (inode_Put_f2 N (inode_Check) (octet_Put N) (octet_Put_v1 N) (inode_words) (inode_longs) next x)
theorem inode_Put_k2 (N : Nat) : LoopOK Try.prog 56 inode_Put_c2 ⟨inode_Put_d2, loopF (inode_Put_b2 N) N⟩ := loop_ok tabOK (inode_Put_t N) mixedOK (J := inode_Put_J N) (cx := 0) (body := inode_Put_c2) (nt := 56) (l := inode_Put_d2) (b := inode_Put_b2 N) (jok_from inode_Put_i2 ⟨trivial, trivial⟩) (inode_Put_e2 N) N
theorem inode_Put_i : loopsOf inode_Put_c = [(0, inode_Put_c0), (2, inode_Put_c2)] := by kernel_rfl
noncomputable def inode_Put_a (N : Nat) (f0 : Int × Int × Int × Int × Int × Int × Int × Int × Int × Int × Int × Int × Int × (List UInt8) → Option (Int)) (f1 : Int × Int → Option ((List Int))) (f2 : Int × Int × (List Int) → Option ((List Int))) (f3 : Int × Int × Int × Int × Int × Int × Int × Int × Int × Int × Int × Int × Int × (List UInt8) → Option (Nat × Nat × (List Int))) (f4 : Int × Int × Int × Int × Int × Int × Int × Int × Int × Int × Int × Int × Int × (List UInt8) → Option (Nat × Nat × (List Int))) (x : Int × Int × Int × Int × Int × Int × Int × Int × Int × Int × Int × Int × Int × (List UInt8)) : Option (Int × (List Int)) :=
  (Option.bind (f0 (x.1, x.2.1, x.2.2.1, x.2.2.2.1, x.2.2.2.2.1, x.2.2.2.2.2.1, x.2.2.2.2.2.2.1, x.2.2.2.2.2.2.2.1, x.2.2.2.2.2.2.2.2.1, x.2.2.2.2.2.2.2.2.2.1, x.2.2.2.2.2.2.2.2.2.2.1, x.2.2.2.2.2.2.2.2.2.2.2.1, x.2.2.2.2.2.2.2.2.2.2.2.2.1, x.2.2.2.2.2.2.2.2.2.2.2.2.2)) fun r1 =>
  (cond (!(decide (r1 = (0 : Int))))
  (some (r1, ([] : List Int)))
  (Option.bind (f1 (x.1, (8 : Int))) fun r3 =>
  (Option.bind (f3 (x.1, x.2.1, x.2.2.1, x.2.2.2.1, x.2.2.2.2.1, x.2.2.2.2.2.1, x.2.2.2.2.2.2.1, x.2.2.2.2.2.2.2.1, x.2.2.2.2.2.2.2.2.1, x.2.2.2.2.2.2.2.2.2.1, x.2.2.2.2.2.2.2.2.2.2.1, x.2.2.2.2.2.2.2.2.2.2.2.1, x.2.2.2.2.2.2.2.2.2.2.2.2.1, x.2.2.2.2.2.2.2.2.2.2.2.2.2)) fun r4 =>
  (Option.bind (inode_Put_l0 N (r4.1, r4.2.1, ((r4.2.1 : Nat) : Int), (0 : Int), r3, r4.2.2)) fun r6 =>
  (Option.bind (f4 (x.1, x.2.1, x.2.2.1, x.2.2.2.1, x.2.2.2.2.1, x.2.2.2.2.2.1, x.2.2.2.2.2.2.1, x.2.2.2.2.2.2.2.1, x.2.2.2.2.2.2.2.2.1, x.2.2.2.2.2.2.2.2.2.1, x.2.2.2.2.2.2.2.2.2.2.1, x.2.2.2.2.2.2.2.2.2.2.2.1, x.2.2.2.2.2.2.2.2.2.2.2.2.1, x.2.2.2.2.2.2.2.2.2.2.2.2.2)) fun r7 =>
  (Option.bind (inode_Put_l2 N (r7.1, r7.2.1, ((r7.2.1 : Nat) : Int), (0 : Int), r6.2, r7.2.2)) fun r9 =>
  (Option.bind (f2 ((wrapF .u64 (((List.length x.2.2.2.2.2.2.2.2.2.2.2.2.2) : Nat) : Int)), (4 : Int), r9.2)) fun r12 =>
  (cond (fits 1 ((List.length r12) + (List.length (List.map (fun b => (b.toNat : Int)) x.2.2.2.2.2.2.2.2.2.2.2.2.2))))
  ((let v13 : List Int := (r12 ++ (List.map (fun b => (b.toNat : Int)) x.2.2.2.2.2.2.2.2.2.2.2.2.2))
  (let v16 : Int := (andF .i64 (wrapF .i64 ((0 : Int) - (((List.length x.2.2.2.2.2.2.2.2.2.2.2.2.2) : Nat) : Int))) (3 : Int))
  (cond (((decide ((0 : Int) ≤ v16)) && (fits 1 (Int.toNat v16))) && (fits 1 ((List.length v13) + (List.length (List.replicate (Int.toNat v16) (EK.dflt (.int .u8)))))))
  ((some ((0 : Int), (v13 ++ (List.replicate (Int.toNat v16) (EK.dflt (.int .u8)))))))
  none))))
  none)))))))))
theorem inode_Put_f (N : Nat) (f0 : Int × Int × Int × Int × Int × Int × Int × Int × Int × Int × Int × Int × Int × (List UInt8) → Option (Int)) (f1 : Int × Int → Option ((List Int))) (f2 : Int × Int × (List Int) → Option ((List Int))) (f3 : Int × Int × Int × Int × Int × Int × Int × Int × Int × Int × Int × Int × Int × (List UInt8) → Option (Nat × Nat × (List Int))) (f4 : Int × Int × Int × Int × Int × Int × Int × Int × Int × Int × Int × Int × Int × (List UInt8) → Option (Nat × Nat × (List Int))) (x) : inode_Put_a N f0 f1 f2 f3 f4 x = fnStep Γ (inode_Put_CA N f0 f1 f2 f3 f4) (inode_Put_J N) 56 Try.f13.results.toList (inode_Put_g N) inode_Put_o inode_Put_c x := by kernel_rfl
theorem inode_Put_e (N : Nat) (x) : (inode_Put_g N).F x = fnStep Γ (inode_Put_C N) (inode_Put_J N) 56 Try.f13.results.toList (inode_Put_g N) inode_Put_o inode_Put_c x := by
  rw [← inode_Put_CE N]
  exact Eq.trans (by kernel_rfl) (inode_Put_f N (inode_Check) (octet_Put N) (octet_Put_v1 N) (inode_words) (inode_longs) x)
theorem inode_Put_y : Try.f13.body = some inode_Put_c := by kernel_rfl
theorem inode_Put_n : (Try.f13.name == "runtime.NumGoroutine") = false := by kernel_rfl
theorem inode_Put_ok (N : Nat) : FnDoes Try.prog 13 (inode_Put_g N) := fn_ok tabOK (inode_Put_t N) mixedOK (J := inode_Put_J N) (body := inode_Put_c) Try.func13 inode_Put_y inode_Put_n Try.ntmps13 (jok_from inode_Put_i ⟨⟨.inr ⟨_, rfl, inode_Put_k0 N⟩, .inr ⟨_, rfl, inode_Put_k2 N⟩, trivial⟩, trivial⟩) rfl rfl (le_of_ble rfl) (inode_Put_e N)
noncomputable def octet_Get_c : Code := codeOf Try.f45.body
noncomputable def octet_Get_c0 : Code := codeOf (getLoop 0 octet_Get_c)
def octet_Get_d0 : LD := { ins := ⟨[(3, (.av (.one (.int .u64)))), (6, (.av (.one (.rsl (.int .u8))))), (7, (.av (.one (.int .i64)))), (8, (.av (.one (.int .i64))))], []⟩, mov := [], wr := [], outs := [(.exit 0, ⟨[(3, (.av (.one (.int .u64))))], []⟩)], its := [.int, .lst (.int .u8), .int, .int], ots := [[.int]] }
noncomputable def octet_Get_J (N : Nat) : Nat → Hint := fun cx => hintOf cx [(0, { reg := fun k => assoc0 k [], cnd := fun k => assoc0 k [], loop := fun k => assoc0 k [(0, ⟨octet_Get_d0, loopF (octet_Get_b0 N) N⟩)], nil := fun k => assoc0 k [], unr := fun k => assocN k [], blk := fun k => assoc0 k [] })]
noncomputable def octet_Get_C (N : Nat) : Nat → List GS := fun k => tabOf k []
def octet_Get_o : List (Shp × List Nat) := [(⟨[(0, (.av (.one (.int .u64))))], []⟩, [])]
noncomputable def octet_Get_g (N : Nat) : GS := { ins := ⟨[(0, (.av (.one (.rsl (.int .u8)))))], []⟩, lend := [.keep], outs := octet_Get_o.map fun s => ssOf s.1, its := [.lst (.int .u8)], ots := [[.int]], F := octet_Get N }
theorem octet_Get_t (N : Nat) : TabC Try.prog (octet_Get_C N) := tab_ok trivial
theorem octet_Get_i0 : loopsOf octet_Get_c0 = [] := by kernel_rfl
theorem octet_Get_e0 (N : Nat) (next) (x) : octet_Get_b0 N next x = loopStep Γ (octet_Get_C N) (octet_Get_J N) 0 19 octet_Get_d0 octet_Get_c0 next x := by kernel_rfl
theorem octet_Get_k0 (N : Nat) : LoopOK Try.prog 19 octet_Get_c0 ⟨octet_Get_d0, loopF (octet_Get_b0 N) N⟩ := loop_ok tabOK (octet_Get_t N) mixedOK (J := octet_Get_J N) (cx := 0) (body := octet_Get_c0) (nt := 19) (l := octet_Get_d0) (b := octet_Get_b0 N) (jok_from octet_Get_i0 ⟨trivial, trivial⟩) (octet_Get_e0 N) N
theorem octet_Get_i : loopsOf octet_Get_c = [(0, octet_Get_c0)] := by kernel_rfl
theorem octet_Get_e (N : Nat) (x) : (octet_Get_g N).F x = fnStep Γ (octet_Get_C N) (octet_Get_J N) 19 Try.f45.results.toList (octet_Get_g N) octet_Get_o octet_Get_c x := by kernel_rfl
theorem octet_Get_y : Try.f45.body = some octet_Get_c := by kernel_rfl
theorem octet_Get_n : (Try.f45.name == "runtime.NumGoroutine") = false := by kernel_rfl
theorem octet_Get_ok (N : Nat) : FnDoes Try.prog 45 (octet_Get_g N) := fn_ok tabOK (octet_Get_t N) mixedOK (J := octet_Get_J N) (body := octet_Get_c) Try.func45 octet_Get_y octet_Get_n Try.ntmps45 (jok_from octet_Get_i ⟨⟨.inr ⟨_, rfl, octet_Get_k0 N⟩, trivial⟩, trivial⟩) rfl rfl (le_of_ble rfl) (octet_Get_e N)
noncomputable def inode_Get_1_c : Code := codeOf Try.f47.body
noncomputable def inode_Get_1_J (N : Nat) : Nat → Hint := fun cx => hintOf cx []
noncomputable def inode_Get_1_C (N : Nat) : Nat → List GS := fun k => tabOf k []
def inode_Get_1_o : List (Shp × List Nat) := [(⟨[(0, (.av (.one .bool)))], []⟩, [])]
noncomputable def inode_Get_1_g (N : Nat) : GS := { ins := ⟨[(0, (.av (.one (.int .u8))))], []⟩, lend := [.keep], outs := inode_Get_1_o.map fun s => ssOf s.1, its := [.int], ots := [[.bool]], F := inode_Get_1 }
theorem inode_Get_1_t (N : Nat) : TabC Try.prog (inode_Get_1_C N) := tab_ok trivial
theorem inode_Get_1_i : loopsOf inode_Get_1_c = [] := by kernel_rfl
theorem inode_Get_1_e (N : Nat) (x) : (inode_Get_1_g N).F x = fnStep Γ (inode_Get_1_C N) (inode_Get_1_J N) 5 Try.f47.results.toList (inode_Get_1_g N) inode_Get_1_o inode_Get_1_c x := by kernel_rfl
theorem inode_Get_1_y : Try.f47.body = some inode_Get_1_c := by kernel_rfl
theorem inode_Get_1_n : (Try.f47.name == "runtime.NumGoroutine") = false := by kernel_rfl
theorem inode_Get_1_ok (N : Nat) : FnDoes Try.prog 47 (inode_Get_1_g N) := fn_ok tabOK (inode_Get_1_t N) mixedOK (J := inode_Get_1_J N) (body := inode_Get_1_c) Try.func47 inode_Get_1_y inode_Get_1_n Try.ntmps47 (jok_from inode_Get_1_i trivial) rfl rfl (le_of_ble rfl) (inode_Get_1_e N)
noncomputable def slices_IndexFunc_byte_byte_c : Code := codeOf Try.f58.body
noncomputable def slices_IndexFunc_byte_byte_c0 : Code := codeOf (getLoop 0 slices_IndexFunc_byte_byte_c)
def slices_IndexFunc_byte_byte_d0 : LD := { ins := ⟨[(0, (.av (.one (.rsl (.int .u8))))), (1, (.av (.one (.const (.fn 47 []))))), (7, (.av (.one (.int .i64)))), (8, (.av (.one (.int .i64))))], []⟩, mov := [], wr := [], outs := [(.ret, ⟨[(4, (.av (.one (.int .i64))))], []⟩), (.exit 0, ⟨[], []⟩)], its := [.lst (.int .u8), .int, .int], ots := [[.int], []] }
noncomputable def slices_IndexFunc_byte_byte_J (N : Nat) : Nat → Hint := fun cx => hintOf cx [(0, { reg := fun k => assoc0 k [], cnd := fun k => assoc0 k [], loop := fun k => assoc0 k [(0, ⟨slices_IndexFunc_byte_byte_d0, loopF (slices_IndexFunc_byte_byte_b0 N) N⟩)], nil := fun k => assoc0 k [], unr := fun k => assocN k [], blk := fun k => assoc0 k [] })]
noncomputable def slices_IndexFunc_byte_byte_C (N : Nat) : Nat → List GS := fun k => tabOf k [(47, [inode_Get_1_g N])]
def slices_IndexFunc_byte_byte_o : List (Shp × List Nat) := [(⟨[(0, (.av (.one (.int .i64))))], []⟩, [])]
noncomputable def slices_IndexFunc_byte_byte_g (N : Nat) : GS := { ins := ⟨[(0, (.av (.one (.rsl (.int .u8))))), (1, (.av (.one (.const (.fn 47 [])))))], []⟩, lend := [.keep, .keep], outs := slices_IndexFunc_byte_byte_o.map fun s => ssOf s.1, its := [.lst (.int .u8)], ots := [[.int]], F := slices_IndexFunc_byte_byte N }
noncomputable def slices_IndexFunc_byte_byte_CA (N : Nat) (f0 : Int → Option (Bool)) : Nat → List GS := fun k => tabOf k [(47, [{ inode_Get_1_g N with F := f0 }])]
theorem slices_IndexFunc_byte_byte_CE (N : Nat) : slices_IndexFunc_byte_byte_CA N (inode_Get_1) = slices_IndexFunc_byte_byte_C N := by kernel_rfl
theorem slices_IndexFunc_byte_byte_t (N : Nat) : TabC Try.prog (slices_IndexFunc_byte_byte_C N) := tab_ok ⟨⟨inode_Get_1_ok N, trivial⟩, trivial⟩
theorem slices_IndexFunc_byte_byte_i0 : loopsOf slices_IndexFunc_byte_byte_c0 = [] := by kernel_rfl
noncomputable def slices_IndexFunc_byte_byte_a0 (N : Nat) (f0 : Int → Option (Bool)) (next : (List Int) × Int × Int → Option (Int ⊕ Unit)) (x : (List Int) × Int × Int) : Option (Int ⊕ Unit) :=
  (cond (decide (x.2.2 < x.2.1))
  (cond ((decide ((0 : Int) ≤ x.2.2)) && (decide (x.2.2 < (((List.length x.1) : Nat) : Int))))
  ((Option.bind (f0 (List.getD x.1 (Int.toNat x.2.2) (EK.dflt (.int .u8)))) fun r3 =>
  (cond r3
  (some (.inl x.2.2))
  (next (x.1, x.2.1, (wrapF .i64 (x.2.2 + (1 : Int))))))))
  none)
  (some (.inr (()))))
theorem slices_IndexFunc_byte_byte_f0 (N : Nat) (f0 : Int → Option (Bool)) (next) (x) : slices_IndexFunc_byte_byte_a0 N f0 next x = loopStep Γ (slices_IndexFunc_byte_byte_CA N f0) (slices_IndexFunc_byte_byte_J N) 0 19 slices_IndexFunc_byte_byte_d0 slices_IndexFunc_byte_byte_c0 next x := by kernel_rfl
theorem slices_IndexFunc_byte_byte_e0 (N : Nat) (next) (x) : slices_IndexFunc_byte_byte_b0 N next x = loopStep Γ (slices_IndexFunc_byte_byte_C N) (slices_IndexFunc_byte_byte_J N) 0 19 slices_IndexFunc_byte_byte_d0 slices_IndexFunc_byte_byte_c0 next x := by
  rw [← slices_IndexFunc_byte_byte_CE N]
  exact Eq.trans (by kernel_rfl) (slices_IndexFunc_byte_byte_f0 N (inode_Get_1) next x)
theorem slices_IndexFunc_byte_byte_k0 (N : Nat) : LoopOK Try.prog 19 slices_IndexFunc_byte_byte_c0 ⟨slices_IndexFunc_byte_byte_d0, loopF (slices_IndexFunc_byte_byte_b0 N) N⟩ := loop_ok tabOK (slices_IndexFunc_byte_byte_t N) mixedOK (J := slices_IndexFunc_byte_byte_J N) (cx := 0) (body := slices_IndexFunc_byte_byte_c0) (nt := 19) (l := slices_IndexFunc_byte_byte_d0) (b := slices_IndexFunc_byte_byte_b0 N) (jok_from slices_IndexFunc_byte_byte_i0 ⟨trivial, trivial⟩) (slices_IndexFunc_byte_byte_e0 N) N
theorem slices_IndexFunc_byte_byte_i : loopsOf slices_IndexFunc_byte_byte_c = [(0, slices_IndexFunc_byte_byte_c0)] := by kernel_rfl
noncomputable def slices_IndexFunc_byte_byte_a (N : Nat) (f0 : Int → Option (Bool)) (x : (List Int)) : Option (Int) :=
  (Option.bind (slices_IndexFunc_byte_byte_l0 N (x, (((List.length x) : Nat) : Int), (0 : Int))) fun r2 =>
  (match r2 with
  | .inl y3 =>
  (some y3)
  | .inr z4 =>
  (some (-1 : Int))))
theorem slices_IndexFunc_byte_byte_f (N : Nat) (f0 : Int → Option (Bool)) (x) : slices_IndexFunc_byte_byte_a N f0 x = fnStep Γ (slices_IndexFunc_byte_byte_CA N f0) (slices_IndexFunc_byte_byte_J N) 19 Try.f58.results.toList (slices_IndexFunc_byte_byte_g N) slices_IndexFunc_byte_byte_o slices_IndexFunc_byte_byte_c x := by kernel_rfl
theorem slices_IndexFunc_byte_byte_e (N : Nat) (x) : (slices_IndexFunc_byte_byte_g N).F x = fnStep Γ (slices_IndexFunc_byte_byte_C N) (slices_IndexFunc_byte_byte_J N) 19 Try.f58.results.toList (slices_IndexFunc_byte_byte_g N) slices_IndexFunc_byte_byte_o slices_IndexFunc_byte_byte_c x := by
  rw [← slices_IndexFunc_byte_byte_CE N]
  exact Eq.trans (by kernel_rfl) (slices_IndexFunc_byte_byte_f N (inode_Get_1) x)
theorem slices_IndexFunc_byte_byte_y : Try.f58.body = some slices_IndexFunc_byte_byte_c := by kernel_rfl
theorem slices_IndexFunc_byte_byte_n : (Try.f58.name == "runtime.NumGoroutine") = false := by kernel_rfl
theorem slices_IndexFunc_byte_byte_ok (N : Nat) : FnDoes Try.prog 58 (slices_IndexFunc_byte_byte_g N) := fn_ok tabOK (slices_IndexFunc_byte_byte_t N) mixedOK (J := slices_IndexFunc_byte_byte_J N) (body := slices_IndexFunc_byte_byte_c) Try.func58 slices_IndexFunc_byte_byte_y slices_IndexFunc_byte_byte_n Try.ntmps58 (jok_from slices_IndexFunc_byte_byte_i ⟨⟨.inr ⟨_, rfl, slices_IndexFunc_byte_byte_k0 N⟩, trivial⟩, trivial⟩) rfl rfl (le_of_ble rfl) (slices_IndexFunc_byte_byte_e N)
noncomputable def slices_ContainsFunc_byte_byte_c : Code := codeOf Try.f46.body
noncomputable def slices_ContainsFunc_byte_byte_J (N : Nat) : Nat → Hint := fun cx => hintOf cx []
noncomputable def slices_ContainsFunc_byte_byte_C (N : Nat) : Nat → List GS := fun k => tabOf k [(58, [slices_IndexFunc_byte_byte_g N])]
def slices_ContainsFunc_byte_byte_o : List (Shp × List Nat) := [(⟨[(0, (.av (.one .bool)))], []⟩, [])]
noncomputable def slices_ContainsFunc_byte_byte_g (N : Nat) : GS := { ins := ⟨[(0, (.av (.one (.rsl (.int .u8))))), (1, (.av (.one (.const (.fn 47 [])))))], []⟩, lend := [.keep, .keep], outs := slices_ContainsFunc_byte_byte_o.map fun s => ssOf s.1, its := [.lst (.int .u8)], ots := [[.bool]], F := slices_ContainsFunc_byte_byte N }
noncomputable def slices_ContainsFunc_byte_byte_CA (N : Nat) (f0 : (List Int) → Option (Int)) : Nat → List GS := fun k => tabOf k [(58, [{ slices_IndexFunc_byte_byte_g N with F := f0 }])]
theorem slices_ContainsFunc_byte_byte_CE (N : Nat) : slices_ContainsFunc_byte_byte_CA N (slices_IndexFunc_byte_byte N) = slices_ContainsFunc_byte_byte_C N := by kernel_rfl
theorem slices_ContainsFunc_byte_byte_t (N : Nat) : TabC Try.prog (slices_ContainsFunc_byte_byte_C N) := tab_ok ⟨⟨slices_IndexFunc_byte_byte_ok N, trivial⟩, trivial⟩
theorem slices_ContainsFunc_byte_byte_i : loopsOf slices_ContainsFunc_byte_byte_c = [] := by kernel_rfl
noncomputable def slices_ContainsFunc_byte_byte_a (N : Nat) (f0 : (List Int) → Option (Int)) (x : (List Int)) : Option (Bool) :=
  (Option.bind (f0 x) fun r1 =>
  (some (decide ((0 : Int) ≤ r1))))
theorem slices_ContainsFunc_byte_byte_f (N : Nat) (f0 : (List Int) → Option (Int)) (x) : slices_ContainsFunc_byte_byte_a N f0 x = fnStep Γ (slices_ContainsFunc_byte_byte_CA N f0) (slices_ContainsFunc_byte_byte_J N) 9 Try.f46.results.toList (slices_ContainsFunc_byte_byte_g N) slices_ContainsFunc_byte_byte_o slices_ContainsFunc_byte_byte_c x := by kernel_rfl
theorem slices_ContainsFunc_byte_byte_e (N : Nat) (x) : (slices_ContainsFunc_byte_byte_g N).F x = fnStep Γ (slices_ContainsFunc_byte_byte_C N) (slices_ContainsFunc_byte_byte_J N) 9 Try.f46.results.toList (slices_ContainsFunc_byte_byte_g N) slices_ContainsFunc_byte_byte_o slices_ContainsFunc_byte_byte_c x := by
  rw [← slices_ContainsFunc_byte_byte_CE N]
  exact Eq.trans (by kernel_rfl) (slices_ContainsFunc_byte_byte_f N (slices_IndexFunc_byte_byte N) x)
theorem slices_ContainsFunc_byte_byte_y : Try.f46.body = some slices_ContainsFunc_byte_byte_c := by kernel_rfl
theorem slices_ContainsFunc_byte_byte_n : (Try.f46.name == "runtime.NumGoroutine") = false := by kernel_rfl
theorem slices_ContainsFunc_byte_byte_ok (N : Nat) : FnDoes Try.prog 46 (slices_ContainsFunc_byte_byte_g N) := fn_ok tabOK (slices_ContainsFunc_byte_byte_t N) mixedOK (J := slices_ContainsFunc_byte_byte_J N) (body := slices_ContainsFunc_byte_byte_c) Try.func46 slices_ContainsFunc_byte_byte_y slices_ContainsFunc_byte_byte_n Try.ntmps46 (jok_from slices_ContainsFunc_byte_byte_i trivial) rfl rfl (le_of_ble rfl) (slices_ContainsFunc_byte_byte_e N)
noncomputable def inode_Get_2_c : Code := codeOf Try.f48.body
noncomputable def inode_Get_2_J (N : Nat) : Nat → Hint := fun cx => hintOf cx []
noncomputable def inode_Get_2_C (N : Nat) : Nat → List GS := fun k => tabOf k [(45, [octet_Get_g N])]
def inode_Get_2_o : List (Shp × List Nat) := [(⟨[(0, (.av (.one (.int .u32))))], []⟩, [])]
noncomputable def inode_Get_2_g (N : Nat) : GS := { ins := ⟨[(0, (.av (.one (.int .i64)))), (1, (.av (.one (.rps (.int .u8)))))], []⟩, lend := [.keep, .lendp (.int .u8)], outs := inode_Get_2_o.map fun s => ssOf s.1, its := [.int, .lst (.int .u8)], ots := [[.int]], F := inode_Get_2 N }
noncomputable def inode_Get_2_CA (N : Nat) (f0 : (List Int) → Option (Int)) : Nat → List GS := fun k => tabOf k [(45, [{ octet_Get_g N with F := f0 }])]
theorem inode_Get_2_CE (N : Nat) : inode_Get_2_CA N (octet_Get N) = inode_Get_2_C N := by kernel_rfl
theorem inode_Get_2_t (N : Nat) : TabC Try.prog (inode_Get_2_C N) := tab_ok ⟨⟨octet_Get_ok N, trivial⟩, trivial⟩
theorem inode_Get_2_i : loopsOf inode_Get_2_c = [] := by kernel_rfl
noncomputable def inode_Get_2_a (N : Nat) (f0 : (List Int) → Option (Int)) (x : Int × (List Int)) : Option (Int) :=
  (let v2 : Int := (wrapF .i64 ((8 : Int) + (wrapF .i64 ((4 : Int) * x.1))))
  (let v4 : Int := (wrapF .i64 ((12 : Int) + (wrapF .i64 ((4 : Int) * x.1))))
  (cond (((decide ((0 : Int) ≤ v2)) && (decide (v2 ≤ v4))) && (decide (v4 ≤ (((List.length x.2) : Nat) : Int))))
  ((Option.bind (f0 (List.take ((Int.toNat v4) - (Int.toNat v2)) (List.drop (Int.toNat v2) x.2))) fun r6 =>
  (some (wrapF .u32 r6))))
  none)))
theorem inode_Get_2_f (N : Nat) (f0 : (List Int) → Option (Int)) (x) : inode_Get_2_a N f0 x = fnStep Γ (inode_Get_2_CA N f0) (inode_Get_2_J N) 14 Try.f48.results.toList (inode_Get_2_g N) inode_Get_2_o inode_Get_2_c x := by kernel_rfl
theorem inode_Get_2_e (N : Nat) (x) : (inode_Get_2_g N).F x = fnStep Γ (inode_Get_2_C N) (inode_Get_2_J N) 14 Try.f48.results.toList (inode_Get_2_g N) inode_Get_2_o inode_Get_2_c x := by
  rw [← inode_Get_2_CE N]
  exact Eq.trans (by kernel_rfl) (inode_Get_2_f N (octet_Get N) x)
theorem inode_Get_2_y : Try.f48.body = some inode_Get_2_c := by kernel_rfl
theorem inode_Get_2_n : (Try.f48.name == "runtime.NumGoroutine") = false := by kernel_rfl
theorem inode_Get_2_ok (N : Nat) : FnDoes Try.prog 48 (inode_Get_2_g N) := fn_ok tabOK (inode_Get_2_t N) mixedOK (J := inode_Get_2_J N) (body := inode_Get_2_c) Try.func48 inode_Get_2_y inode_Get_2_n Try.ntmps48 (jok_from inode_Get_2_i trivial) rfl rfl (le_of_ble rfl) (inode_Get_2_e N)
noncomputable def inode_Get_3_c : Code := codeOf Try.f49.body
noncomputable def inode_Get_3_J (N : Nat) : Nat → Hint := fun cx => hintOf cx []
noncomputable def inode_Get_3_C (N : Nat) : Nat → List GS := fun k => tabOf k [(45, [octet_Get_g N])]
def inode_Get_3_o : List (Shp × List Nat) := [(⟨[(0, (.av (.one (.int .u64))))], []⟩, [])]
noncomputable def inode_Get_3_g (N : Nat) : GS := { ins := ⟨[(0, (.av (.one (.int .i64)))), (1, (.av (.one (.rps (.int .u8)))))], []⟩, lend := [.keep, .lendp (.int .u8)], outs := inode_Get_3_o.map fun s => ssOf s.1, its := [.int, .lst (.int .u8)], ots := [[.int]], F := inode_Get_3 N }
noncomputable def inode_Get_3_CA (N : Nat) (f0 : (List Int) → Option (Int)) : Nat → List GS := fun k => tabOf k [(45, [{ octet_Get_g N with F := f0 }])]
theorem inode_Get_3_CE (N : Nat) : inode_Get_3_CA N (octet_Get N) = inode_Get_3_C N := by kernel_rfl
theorem inode_Get_3_t (N : Nat) : TabC Try.prog (inode_Get_3_C N) := tab_ok ⟨⟨octet_Get_ok N, trivial⟩, trivial⟩
theorem inode_Get_3_i : loopsOf inode_Get_3_c = [] := by kernel_rfl
noncomputable def inode_Get_3_a (N : Nat) (f0 : (List Int) → Option (Int)) (x : Int × (List Int)) : Option (Int) :=
  (let v2 : Int := (wrapF .i64 ((32 : Int) + (wrapF .i64 ((8 : Int) * x.1))))
  (let v4 : Int := (wrapF .i64 ((40 : Int) + (wrapF .i64 ((8 : Int) * x.1))))
  (cond (((decide ((0 : Int) ≤ v2)) && (decide (v2 ≤ v4))) && (decide (v4 ≤ (((List.length x.2) : Nat) : Int))))
  ((Option.bind (f0 (List.take ((Int.toNat v4) - (Int.toNat v2)) (List.drop (Int.toNat v2) x.2))) fun r6 =>
  (some r6)))
  none)))
theorem inode_Get_3_f (N : Nat) (f0 : (List Int) → Option (Int)) (x) : inode_Get_3_a N f0 x = fnStep Γ (inode_Get_3_CA N f0) (inode_Get_3_J N) 13 Try.f49.results.toList (inode_Get_3_g N) inode_Get_3_o inode_Get_3_c x := by kernel_rfl
theorem inode_Get_3_e (N : Nat) (x) : (inode_Get_3_g N).F x = fnStep Γ (inode_Get_3_C N) (inode_Get_3_J N) 13 Try.f49.results.toList (inode_Get_3_g N) inode_Get_3_o inode_Get_3_c x := by
  rw [← inode_Get_3_CE N]
  exact Eq.trans (by kernel_rfl) (inode_Get_3_f N (octet_Get N) x)
theorem inode_Get_3_y : Try.f49.body = some inode_Get_3_c := by kernel_rfl
theorem inode_Get_3_n : (Try.f49.name == "runtime.NumGoroutine") = false := by kernel_rfl
theorem inode_Get_3_ok (N : Nat) : FnDoes Try.prog 49 (inode_Get_3_g N) := fn_ok tabOK (inode_Get_3_t N) mixedOK (J := inode_Get_3_J N) (body := inode_Get_3_c) Try.func49 inode_Get_3_y inode_Get_3_n Try.ntmps49 (jok_from inode_Get_3_i trivial) rfl rfl (le_of_ble rfl) (inode_Get_3_e N)
noncomputable def inode_Get_c : Code := codeOf Try.f15.body
noncomputable def inode_Get_J (N : Nat) : Nat → Hint := fun cx => hintOf cx []
noncomputable def inode_Get_C (N : Nat) : Nat → List GS := fun k => tabOf k [(45, [octet_Get_g N]), (46, [slices_ContainsFunc_byte_byte_g N]), (48, [inode_Get_2_g N]), (49, [inode_Get_3_g N]), (18, [inode_Check_g N])]
def inode_Get_o : List (Shp × List Nat) := [(⟨[(0, (.tup [(.agg [(.one (.int .u64)), (.one (.int .u32)), (.one (.int .i64)), (.one (.int .u32)), (.one (.int .u32)), (.one (.int .u32)), (.one (.int .u32)), (.one (.int .u64)), (.one (.int .u64)), (.one (.int .u64)), (.one (.int .u64)), (.one (.int .u64)), (.one (.int .u64)), (.one .str)]), (.one (.int .i64))]))], []⟩, [])]
noncomputable def inode_Get_g (N : Nat) : GS := { ins := ⟨[(0, (.av (.one (.rsl (.int .u8)))))], []⟩, lend := [.lend (.int .u8)], outs := inode_Get_o.map fun s => ssOf s.1, its := [.lst (.int .u8)], ots := [[.int, .int, .int, .int, .int, .int, .int, .int, .int, .int, .int, .int, .int, .str, .int]], F := inode_Get N }
noncomputable def inode_Get_CA (N : Nat) (f0 : (List Int) → Option (Int)) (f1 : (List Int) → Option (Bool)) (f2 : Int × (List Int) → Option (Int)) (f3 : Int × (List Int) → Option (Int)) (f4 : Int × Int × Int × Int × Int × Int × Int × Int × Int × Int × Int × Int × Int × (List UInt8) → Option (Int)) : Nat → List GS := fun k => tabOf k [(45, [{ octet_Get_g N with F := f0 }]), (46, [{ slices_ContainsFunc_byte_byte_g N with F := f1 }]), (48, [{ inode_Get_2_g N with F := f2 }]), (49, [{ inode_Get_3_g N with F := f3 }]), (18, [{ inode_Check_g N with F := f4 }])]
theorem inode_Get_CE (N : Nat) : inode_Get_CA N (octet_Get N) (slices_ContainsFunc_byte_byte N) (inode_Get_2 N) (inode_Get_3 N) (inode_Check) = inode_Get_C N := by kernel_rfl
theorem inode_Get_t (N : Nat) : TabC Try.prog (inode_Get_C N) := tab_ok ⟨⟨octet_Get_ok N, trivial⟩, ⟨slices_ContainsFunc_byte_byte_ok N, trivial⟩, ⟨inode_Get_2_ok N, trivial⟩, ⟨inode_Get_3_ok N, trivial⟩, ⟨inode_Check_ok N, trivial⟩, trivial⟩
theorem inode_Get_i : loopsOf inode_Get_c = [] := by kernel_rfl
noncomputable def inode_Get_a (N : Nat) (f0 : (List Int) → Option (Int)) (f1 : (List Int) → Option (Bool)) (f2 : Int × (List Int) → Option (Int)) (f3 : Int × (List Int) → Option (Int)) (f4 : Int × Int × Int × Int × Int × Int × Int × Int × Int × Int × Int × Int × Int × (List UInt8) → Option (Int)) (x : (List Int)) : Option (Int × Int × Int × Int × Int × Int × Int × Int × Int × Int × Int × Int × Int × (List UInt8) × Int) :=
  (cond (decide ((((List.length x) : Nat) : Int) < (84 : Int)))
  (some ((0 : Int), (0 : Int), (0 : Int), (0 : Int), (0 : Int), (0 : Int), (0 : Int), (0 : Int), (0 : Int), (0 : Int), (0 : Int), (0 : Int), (0 : Int), ([] : List UInt8), (3 : Int)))
  (cond (decide ((84 : Int) ≤ (((List.length x) : Nat) : Int)))
  ((Option.bind (f0 (List.take 4 (List.drop 80 x))) fun r6 =>
  (cond (decide ((255 : Int) < r6))
  (some ((0 : Int), (0 : Int), (0 : Int), (0 : Int), (0 : Int), (0 : Int), (0 : Int), (0 : Int), (0 : Int), (0 : Int), (0 : Int), (0 : Int), (0 : Int), ([] : List UInt8), (1 : Int)))
  (let v10 : Int := (wrapF .i64 ((84 : Int) + (wrapF .i64 r6)))
  (let v13 : Int := (wrapF .i64 (v10 + (andF .i64 (wrapF .i64 ((0 : Int) - v10)) (3 : Int))))
  (cond (decide ((((List.length x) : Nat) : Int) < v13))
  (some ((0 : Int), (0 : Int), (0 : Int), (0 : Int), (0 : Int), (0 : Int), (0 : Int), (0 : Int), (0 : Int), (0 : Int), (0 : Int), (0 : Int), (0 : Int), ([] : List UInt8), (3 : Int)))
  (cond (decide (v13 < (((List.length x) : Nat) : Int)))
  (some ((0 : Int), (0 : Int), (0 : Int), (0 : Int), (0 : Int), (0 : Int), (0 : Int), (0 : Int), (0 : Int), (0 : Int), (0 : Int), (0 : Int), (0 : Int), ([] : List UInt8), (4 : Int)))
  (cond (((decide ((0 : Int) ≤ v10)) && (decide (v10 ≤ (((List.length x) : Nat) : Int)))) && (decide ((((List.length x) : Nat) : Int) ≤ (((List.length x) : Nat) : Int))))
  ((Option.bind (f1 (List.take ((List.length x) - (Int.toNat v10)) (List.drop (Int.toNat v10) x))) fun r21 =>
  (cond r21
  (some ((0 : Int), (0 : Int), (0 : Int), (0 : Int), (0 : Int), (0 : Int), (0 : Int), (0 : Int), (0 : Int), (0 : Int), (0 : Int), (0 : Int), (0 : Int), ([] : List UInt8), (120 : Int)))
  (cond (decide ((8 : Int) ≤ (((List.length x) : Nat) : Int)))
  ((Option.bind (f0 (List.take 8 (List.drop 0 x))) fun r24 =>
  (Option.bind (f2 ((0 : Int), x)) fun r25 =>
  (Option.bind (f2 ((1 : Int), x)) fun r26 =>
  (let v27 : Int := (wrapF .i64 r26)
  (Option.bind (f2 ((2 : Int), x)) fun r28 =>
  (Option.bind (f2 ((3 : Int), x)) fun r29 =>
  (Option.bind (f2 ((4 : Int), x)) fun r30 =>
  (Option.bind (f2 ((5 : Int), x)) fun r31 =>
  (Option.bind (f3 ((0 : Int), x)) fun r32 =>
  (Option.bind (f3 ((1 : Int), x)) fun r33 =>
  (Option.bind (f3 ((2 : Int), x)) fun r34 =>
  (Option.bind (f3 ((3 : Int), x)) fun r35 =>
  (Option.bind (f3 ((4 : Int), x)) fun r36 =>
  (Option.bind (f3 ((5 : Int), x)) fun r37 =>
  (cond ((decide ((84 : Int) ≤ v10)) && (decide (v10 ≤ (((List.length x) : Nat) : Int))))
  ((let v39 : List UInt8 := (List.map (fun (n : Int) => UInt8.ofNat n.toNat) (List.take ((Int.toNat v10) - 84) (List.drop 84 x)))
  (Option.bind (f4 (r24, r25, v27, r28, r29, r30, r31, r32, r33, r34, r35, r36, r37, v39)) fun r41 =>
  (cond (!(decide (r41 = (0 : Int))))
  (some ((0 : Int), (0 : Int), (0 : Int), (0 : Int), (0 : Int), (0 : Int), (0 : Int), (0 : Int), (0 : Int), (0 : Int), (0 : Int), (0 : Int), (0 : Int), ([] : List UInt8), r41))
  (some (r24, r25, v27, r28, r29, r30, r31, r32, r33, r34, r35, r36, r37, v39, (0 : Int)))))))
  none))))))))))))))))
  none))))
  none))))))))
  none))
theorem inode_Get_f (N : Nat) (f0 : (List Int) → Option (Int)) (f1 : (List Int) → Option (Bool)) (f2 : Int × (List Int) → Option (Int)) (f3 : Int × (List Int) → Option (Int)) (f4 : Int × Int × Int × Int × Int × Int × Int × Int × Int × Int × Int × Int × Int × (List UInt8) → Option (Int)) (x) : inode_Get_a N f0 f1 f2 f3 f4 x = fnStep Γ (inode_Get_CA N f0 f1 f2 f3 f4) (inode_Get_J N) 89 Try.f15.results.toList (inode_Get_g N) inode_Get_o inode_Get_c x := by kernel_rfl
theorem inode_Get_e (N : Nat) (x) : (inode_Get_g N).F x = fnStep Γ (inode_Get_C N) (inode_Get_J N) 89 Try.f15.results.toList (inode_Get_g N) inode_Get_o inode_Get_c x := by
  rw [← inode_Get_CE N]
  exact Eq.trans (by kernel_rfl) (inode_Get_f N (octet_Get N) (slices_ContainsFunc_byte_byte N) (inode_Get_2 N) (inode_Get_3 N) (inode_Check) x)
theorem inode_Get_y : Try.f15.body = some inode_Get_c := by kernel_rfl
theorem inode_Get_n : (Try.f15.name == "runtime.NumGoroutine") = false := by kernel_rfl
theorem inode_Get_ok (N : Nat) : FnDoes Try.prog 15 (inode_Get_g N) := fn_ok tabOK (inode_Get_t N) mixedOK (J := inode_Get_J N) (body := inode_Get_c) Try.func15 inode_Get_y inode_Get_n Try.ntmps15 (jok_from inode_Get_i trivial) rfl rfl (le_of_ble rfl) (inode_Get_e N)
noncomputable def inode_wrong_1_c : Code := codeOf Try.f59.body
noncomputable def inode_wrong_1_J (N : Nat) : Nat → Hint := fun cx => hintOf cx [(0, { reg := fun k => assoc0 k [(1, ⟨⟨[(5, (.av (.one .bool)))], [(.keep, false)]⟩, [], [], [.bool]⟩)], cnd := fun k => assoc0 k [], loop := fun k => assoc0 k [], nil := fun k => assoc0 k [], unr := fun k => assocN k [], blk := fun k => assoc0 k [] })]
noncomputable def inode_wrong_1_C (N : Nat) : Nat → List GS := fun k => tabOf k []
def inode_wrong_1_o : List (Shp × List Nat) := [(⟨[(0, (.av (.one .bool)))], [(.sh (.one (.int .i64)), false)]⟩, [])]
noncomputable def inode_wrong_1_g (N : Nat) : GS := { ins := ⟨[(0, (.av (.one (.int .i64)))), (1, (.av (.one (.int .i64)))), (2, (.av (.one (.const (.ptr ⟨0, 0, 0, 0⟩)))))], [(some (.one (.int .i64)), false)]⟩, lend := [.keep, .keep, .keep], outs := inode_wrong_1_o.map fun s => ssOf s.1, its := [.int, .int, .int], ots := [[.bool, .int]], F := inode_wrong_1 }
theorem inode_wrong_1_t (N : Nat) : TabC Try.prog (inode_wrong_1_C N) := tab_ok trivial
theorem inode_wrong_1_i : loopsOf inode_wrong_1_c = [] := by kernel_rfl
theorem inode_wrong_1_e (N : Nat) (x) : (inode_wrong_1_g N).F x = fnStep Γ (inode_wrong_1_C N) (inode_wrong_1_J N) 18 Try.f59.results.toList (inode_wrong_1_g N) inode_wrong_1_o inode_wrong_1_c x := by kernel_rfl
theorem inode_wrong_1_y : Try.f59.body = some inode_wrong_1_c := by kernel_rfl
theorem inode_wrong_1_n : (Try.f59.name == "runtime.NumGoroutine") = false := by kernel_rfl
theorem inode_wrong_1_ok (N : Nat) : FnDoes Try.prog 59 (inode_wrong_1_g N) := fn_ok tabOK (inode_wrong_1_t N) mixedOK (J := inode_wrong_1_J N) (body := inode_wrong_1_c) Try.func59 inode_wrong_1_y inode_wrong_1_n Try.ntmps59 (jok_from inode_wrong_1_i ⟨trivial, trivial⟩) rfl rfl (le_of_ble rfl) (inode_wrong_1_e N)
noncomputable def inode_wrong_c : Code := codeOf Try.f52.body
noncomputable def inode_wrong_J (N : Nat) : Nat → Hint := fun cx => hintOf cx [(0, { reg := fun k => assoc0 k [(2, ⟨⟨[(4, (.av (.one .bool)))], [(.keep, true), (.keep, true), (.keep, true), (.keep, true), (.keep, true), (.keep, true), (.keep, true), (.keep, true), (.keep, true), (.keep, true), (.keep, true), (.keep, true), (.keep, true), (.keep, false), (.sh (.one (.int .i64)), true), (.keep, true), (.keep, true), (.keep, true), (.keep, true), (.keep, true), (.keep, false)]⟩, [], [14], [.bool, .int]⟩)], cnd := fun k => assoc0 k [], loop := fun k => assoc0 k [], nil := fun k => assoc0 k [], unr := fun k => assocN k [], blk := fun k => assoc0 k [] })]
noncomputable def inode_wrong_C (N : Nat) : Nat → List GS := fun k => tabOf k [(59, [inode_wrong_1_g N])]
def inode_wrong_o : List (Shp × List Nat) := [(⟨[(0, (.av (.one .bool)))], []⟩, [])]
noncomputable def inode_wrong_g (N : Nat) : GS := { ins := ⟨[(0, (.av (.agg [(.one (.int .u64)), (.one (.int .u32)), (.one (.int .i64)), (.one (.int .u32)), (.one (.int .u32)), (.one (.int .u32)), (.one (.int .u32)), (.one (.int .u64)), (.one (.int .u64)), (.one (.int .u64)), (.one (.int .u64)), (.one (.int .u64)), (.one (.int .u64)), (.one .str)]))), (1, (.av (.agg [(.one (.int .i64)), (.one (.int .u32)), (.one (.int .u32)), (.one (.int .u32)), (.one (.int .u64)), (.one (.int .u64)), (.one (.int .u64))])))], []⟩, lend := [.keep, .keep], outs := inode_wrong_o.map fun s => ssOf s.1, its := ((.int : LK) :: (.int : LK) :: (.int : LK) :: (.int : LK) :: (.int : LK) :: (.int : LK) :: (.int : LK) :: (.int : LK) :: (.int : LK) :: (.int : LK) :: (.int : LK) :: (.int : LK) :: (.int : LK) :: (.str : LK) :: (.int : LK) :: (.int : LK) :: (.int : LK) :: (.int : LK) :: (.int : LK) :: (.int : LK) :: (.int : LK) :: []), ots := [[.bool]], F := inode_wrong }
noncomputable def inode_wrong_CA (N : Nat) (f0 : Int × Int × Int → Option (Bool × Int)) : Nat → List GS := fun k => tabOf k [(59, [{ inode_wrong_1_g N with F := f0 }])]
theorem inode_wrong_CE (N : Nat) : inode_wrong_CA N (inode_wrong_1) = inode_wrong_C N := by kernel_rfl
theorem inode_wrong_t (N : Nat) : TabC Try.prog (inode_wrong_C N) := tab_ok ⟨⟨inode_wrong_1_ok N, trivial⟩, trivial⟩
theorem inode_wrong_i : loopsOf inode_wrong_c = [] := by kernel_rfl
noncomputable def inode_wrong_a (N : Nat) (f0 : Int × Int × Int → Option (Bool × Int)) (x : Int × Int × Int × Int × Int × Int × Int × Int × Int × Int × Int × Int × Int × (List UInt8) × Int × Int × Int × Int × Int × Int × Int) : Option (Bool) :=
  (Option.bind
  (cond (decide (x.2.2.2.2.2.2.2.2.2.2.2.2.2.2.1 < (0 : Int)))
  (some (true, x.2.2.2.2.2.2.2.2.2.2.2.2.2.2.1))
  (cond (decide ((255 : Int) < x.2.2.2.2.2.2.2.2.2.2.2.2.2.2.1))
  (some (true, x.2.2.2.2.2.2.2.2.2.2.2.2.2.2.1))
  (Option.bind (f0 ((16 : Int), (64 : Int), x.2.2.2.2.2.2.2.2.2.2.2.2.2.2.1)) fun r3 =>
  (cond r3.1
  (some (true, r3.2))
  (Option.bind (f0 ((32 : Int), (128 : Int), r3.2)) fun r4 =>
  (cond r4.1
  (some (true, r4.2))
  (cond (!(decide ((andF .i64 r4.2 (1 : Int)) = (0 : Int))))
  (cond (decide ((4095 : Int) < x.2.2.2.2.2.2.2.2.2.2.2.2.2.2.2.1))
  (some (true, r4.2))
  (cond (!(decide ((andF .i64 r4.2 (8 : Int)) = (0 : Int))))
  (cond (decide ((1048576 : Int) < x.2.2.2.2.2.2.2.2.2.2.2.2.2.2.2.2.2.2.1))
  (some (true, r4.2))
  (some ((!(decide (x.2.2.1 = (1 : Int)))), r4.2)))
  (some (false, r4.2))))
  (cond (!(decide ((andF .i64 r4.2 (8 : Int)) = (0 : Int))))
  (cond (decide ((1048576 : Int) < x.2.2.2.2.2.2.2.2.2.2.2.2.2.2.2.2.2.2.1))
  (some (true, r4.2))
  (some ((!(decide (x.2.2.1 = (1 : Int)))), r4.2)))
  (some (false, r4.2))))))))))
  fun r16 =>
  (some r16.1))
theorem inode_wrong_f (N : Nat) (f0 : Int × Int × Int → Option (Bool × Int)) (x) : inode_wrong_a N f0 x = fnStep Γ (inode_wrong_CA N f0) (inode_wrong_J N) 50 Try.f52.results.toList (inode_wrong_g N) inode_wrong_o inode_wrong_c x := by kernel_rfl
theorem inode_wrong_e (N : Nat) (x) : (inode_wrong_g N).F x = fnStep Γ (inode_wrong_C N) (inode_wrong_J N) 50 Try.f52.results.toList (inode_wrong_g N) inode_wrong_o inode_wrong_c x := by
  rw [← inode_wrong_CE N]
  exact Eq.trans (by kernel_rfl) (inode_wrong_f N (inode_wrong_1) x)
theorem inode_wrong_y : Try.f52.body = some inode_wrong_c := by kernel_rfl
theorem inode_wrong_n : (Try.f52.name == "runtime.NumGoroutine") = false := by kernel_rfl
theorem inode_wrong_ok (N : Nat) : FnDoes Try.prog 52 (inode_wrong_g N) := fn_ok tabOK (inode_wrong_t N) mixedOK (J := inode_wrong_J N) (body := inode_wrong_c) Try.func52 inode_wrong_y inode_wrong_n Try.ntmps52 (jok_from inode_wrong_i ⟨trivial, trivial⟩) rfl rfl (le_of_ble rfl) (inode_wrong_e N)
noncomputable def inode_Apply_1_c : Code := codeOf Try.f53.body
noncomputable def inode_Apply_1_J (N : Nat) : Nat → Hint := fun cx => hintOf cx []
noncomputable def inode_Apply_1_C (N : Nat) : Nat → List GS := fun k => tabOf k []
def inode_Apply_1_o : List (Shp × List Nat) := [(⟨[(0, (.av (.one .bool)))], [(.sh (.one (.int .i64)), false)]⟩, [])]
noncomputable def inode_Apply_1_g (N : Nat) : GS := { ins := ⟨[(0, (.av (.one (.int .i64)))), (1, (.av (.one (.const (.ptr ⟨0, 0, 0, 0⟩)))))], [(some (.one (.int .i64)), false)]⟩, lend := [.keep, .keep], outs := inode_Apply_1_o.map fun s => ssOf s.1, its := [.int, .int], ots := [[.bool, .int]], F := inode_Apply_1 }
theorem inode_Apply_1_t (N : Nat) : TabC Try.prog (inode_Apply_1_C N) := tab_ok trivial
theorem inode_Apply_1_i : loopsOf inode_Apply_1_c = [] := by kernel_rfl
theorem inode_Apply_1_e (N : Nat) (x) : (inode_Apply_1_g N).F x = fnStep Γ (inode_Apply_1_C N) (inode_Apply_1_J N) 9 Try.f53.results.toList (inode_Apply_1_g N) inode_Apply_1_o inode_Apply_1_c x := by kernel_rfl
theorem inode_Apply_1_y : Try.f53.body = some inode_Apply_1_c := by kernel_rfl
theorem inode_Apply_1_n : (Try.f53.name == "runtime.NumGoroutine") = false := by kernel_rfl
theorem inode_Apply_1_ok (N : Nat) : FnDoes Try.prog 53 (inode_Apply_1_g N) := fn_ok tabOK (inode_Apply_1_t N) mixedOK (J := inode_Apply_1_J N) (body := inode_Apply_1_c) Try.func53 inode_Apply_1_y inode_Apply_1_n Try.ntmps53 (jok_from inode_Apply_1_i trivial) rfl rfl (le_of_ble rfl) (inode_Apply_1_e N)
noncomputable def inode_Apply_c : Code := codeOf Try.f20.body
noncomputable def inode_Apply_J (N : Nat) : Nat → Hint := fun cx => hintOf cx [(0, { reg := fun k => assoc0 k [(16, ⟨⟨[(11, (.av (.one .bool)))], [(.keep, true), (.keep, true), (.keep, true), (.keep, true), (.keep, true), (.keep, true), (.keep, true), (.keep, true), (.keep, true), (.keep, true), (.keep, true), (.keep, true), (.keep, true), (.keep, false), (.sh (.one (.int .i64)), true), (.keep, true), (.keep, true), (.keep, true), (.keep, true), (.keep, true), (.keep, false), (.keep, true), (.keep, true), (.keep, true), (.keep, true), (.keep, true), (.keep, true), (.keep, true), (.keep, true), (.keep, true), (.keep, true), (.keep, true), (.keep, true), (.keep, true), (.keep, false)]⟩, [], [14], [.bool, .int]⟩)], cnd := fun k => assoc0 k [(30, ⟨[], [3], [(.normal, ⟨[], [(.keep, true), (.keep, true), (.keep, true), (.sh (.one (.int .u32)), true), (.keep, true), (.keep, true), (.keep, true), (.keep, true), (.keep, true), (.keep, true), (.keep, true), (.keep, true), (.keep, true), (.keep, false), (.keep, true), (.keep, true), (.keep, true), (.keep, true), (.keep, true), (.keep, true), (.keep, false), (.keep, true), (.keep, true), (.keep, true), (.keep, true), (.keep, true), (.keep, true), (.keep, true), (.keep, true), (.keep, true), (.keep, true), (.keep, true), (.keep, true), (.keep, true), (.keep, false)]⟩)], [[.int]]⟩), (35, ⟨[], [5], [(.normal, ⟨[], [(.keep, true), (.keep, true), (.keep, true), (.keep, true), (.keep, true), (.sh (.one (.int .u32)), true), (.keep, true), (.keep, true), (.keep, true), (.keep, true), (.keep, true), (.keep, true), (.keep, true), (.keep, false), (.keep, true), (.keep, true), (.keep, true), (.keep, true), (.keep, true), (.keep, true), (.keep, false), (.keep, true), (.keep, true), (.keep, true), (.keep, true), (.keep, true), (.keep, true), (.keep, true), (.keep, true), (.keep, true), (.keep, true), (.keep, true), (.keep, true), (.keep, true), (.keep, false)]⟩)], [[.int]]⟩), (40, ⟨[], [6], [(.normal, ⟨[], [(.keep, true), (.keep, true), (.keep, true), (.keep, true), (.keep, true), (.keep, true), (.sh (.one (.int .u32)), true), (.keep, true), (.keep, true), (.keep, true), (.keep, true), (.keep, true), (.keep, true), (.keep, false), (.keep, true), (.keep, true), (.keep, true), (.keep, true), (.keep, true), (.keep, true), (.keep, false), (.keep, true), (.keep, true), (.keep, true), (.keep, true), (.keep, true), (.keep, true), (.keep, true), (.keep, true), (.keep, true), (.keep, true), (.keep, true), (.keep, true), (.keep, true), (.keep, false)]⟩)], [[.int]]⟩), (53, ⟨[], [7, 10], [(.normal, ⟨[], [(.keep, true), (.keep, true), (.keep, true), (.keep, true), (.keep, true), (.keep, true), (.keep, true), (.sh (.one (.int .u64)), true), (.keep, true), (.keep, true), (.sh (.one (.int .u64)), true), (.keep, true), (.keep, true), (.keep, false), (.keep, true), (.keep, true), (.keep, true), (.keep, true), (.keep, true), (.keep, true), (.keep, false), (.keep, true), (.keep, true), (.keep, true), (.keep, true), (.keep, true), (.keep, true), (.keep, true), (.keep, true), (.keep, true), (.keep, true), (.keep, true), (.keep, true), (.keep, true), (.keep, false)]⟩)], [[.int, .int]]⟩), (65, ⟨[], [9], [(.normal, ⟨[], [(.keep, true), (.keep, true), (.keep, true), (.keep, true), (.keep, true), (.keep, true), (.keep, true), (.keep, true), (.keep, true), (.sh (.one (.int .u64)), true), (.keep, true), (.keep, true), (.keep, true), (.keep, false), (.keep, true), (.keep, true), (.keep, true), (.keep, true), (.keep, true), (.keep, true), (.keep, false), (.keep, true), (.keep, true), (.keep, true), (.keep, true), (.keep, true), (.keep, true), (.keep, true), (.keep, true), (.keep, true), (.keep, true), (.keep, true), (.keep, true), (.keep, true), (.keep, false)]⟩)], [[.int]]⟩), (59, ⟨[], [9, 14], [(.normal, ⟨[], [(.keep, true), (.keep, true), (.keep, true), (.keep, true), (.keep, true), (.keep, true), (.keep, true), (.keep, true), (.keep, true), (.sh (.one (.int .u64)), true), (.keep, true), (.keep, true), (.keep, true), (.keep, false), (.sh (.one (.int .i64)), true), (.keep, true), (.keep, true), (.keep, true), (.keep, true), (.keep, true), (.keep, false), (.keep, true), (.keep, true), (.keep, true), (.keep, true), (.keep, true), (.keep, true), (.keep, true), (.keep, true), (.keep, true), (.keep, true), (.keep, true), (.keep, true), (.keep, true), (.keep, false)]⟩)], [[.int, .int]]⟩), (76, ⟨[], [10], [(.normal, ⟨[], [(.keep, true), (.keep, true), (.keep, true), (.keep, true), (.keep, true), (.keep, true), (.keep, true), (.keep, true), (.keep, true), (.keep, true), (.sh (.one (.int .u64)), true), (.keep, true), (.keep, true), (.keep, false), (.keep, true), (.keep, true), (.keep, true), (.keep, true), (.keep, true), (.keep, true), (.keep, false), (.keep, true), (.keep, true), (.keep, true), (.keep, true), (.keep, true), (.keep, true), (.keep, true), (.keep, true), (.keep, true), (.keep, true), (.keep, true), (.keep, true), (.keep, true), (.keep, false)]⟩)], [[.int]]⟩), (70, ⟨[], [10, 14], [(.normal, ⟨[], [(.keep, true), (.keep, true), (.keep, true), (.keep, true), (.keep, true), (.keep, true), (.keep, true), (.keep, true), (.keep, true), (.keep, true), (.sh (.one (.int .u64)), true), (.keep, true), (.keep, true), (.keep, false), (.sh (.one (.int .i64)), true), (.keep, true), (.keep, true), (.keep, true), (.keep, true), (.keep, true), (.keep, false), (.keep, true), (.keep, true), (.keep, true), (.keep, true), (.keep, true), (.keep, true), (.keep, true), (.keep, true), (.keep, true), (.keep, true), (.keep, true), (.keep, true), (.keep, true), (.keep, false)]⟩)], [[.int, .int]]⟩)], loop := fun k => assoc0 k [], nil := fun k => assoc0 k [], unr := fun k => assocN k [], blk := fun k => assoc0 k [] })]
noncomputable def inode_Apply_C (N : Nat) : Nat → List GS := fun k => tabOf k [(18, [inode_Check_g N]), (52, [inode_wrong_g N]), (53, [inode_Apply_1_g N])]
def inode_Apply_o : List (Shp × List Nat) := [(⟨[(0, (.tup [(.agg [(.one (.int .u64)), (.one (.int .u32)), (.one (.int .i64)), (.one (.int .u32)), (.one (.int .u32)), (.one (.int .u32)), (.one (.int .u32)), (.one (.int .u64)), (.one (.int .u64)), (.one (.int .u64)), (.one (.int .u64)), (.one (.int .u64)), (.one (.int .u64)), (.one .str)]), (.one .bool), (.one (.int .i64))]))], []⟩, [])]
noncomputable def inode_Apply_g (N : Nat) : GS := { ins := ⟨[(0, (.av (.agg [(.one (.int .u64)), (.one (.int .u32)), (.one (.int .i64)), (.one (.int .u32)), (.one (.int .u32)), (.one (.int .u32)), (.one (.int .u32)), (.one (.int .u64)), (.one (.int .u64)), (.one (.int .u64)), (.one (.int .u64)), (.one (.int .u64)), (.one (.int .u64)), (.one .str)]))), (1, (.av (.agg [(.one (.int .i64)), (.one (.int .u32)), (.one (.int .u32)), (.one (.int .u32)), (.one (.int .u64)), (.one (.int .u64)), (.one (.int .u64))]))), (2, (.av (.one (.int .u64))))], []⟩, lend := [.keep, .keep, .keep], outs := inode_Apply_o.map fun s => ssOf s.1, its := ((.int : LK) :: (.int : LK) :: (.int : LK) :: (.int : LK) :: (.int : LK) :: (.int : LK) :: (.int : LK) :: (.int : LK) :: (.int : LK) :: (.int : LK) :: (.int : LK) :: (.int : LK) :: (.int : LK) :: (.str : LK) :: (.int : LK) :: (.int : LK) :: (.int : LK) :: (.int : LK) :: (.int : LK) :: (.int : LK) :: (.int : LK) :: (.int : LK) :: []), ots := [[.int, .int, .int, .int, .int, .int, .int, .int, .int, .int, .int, .int, .int, .str, .bool, .int]], F := inode_Apply }
noncomputable def inode_Apply_CA (N : Nat) (f0 : Int × Int × Int × Int × Int × Int × Int × Int × Int × Int × Int × Int × Int × (List UInt8) → Option (Int)) (f1 : Int × Int × Int × Int × Int × Int × Int × Int × Int × Int × Int × Int × Int × (List UInt8) × Int × Int × Int × Int × Int × Int × Int → Option (Bool)) (f2 : Int × Int → Option (Bool × Int)) : Nat → List GS := fun k => tabOf k [(18, [{ inode_Check_g N with F := f0 }]), (52, [{ inode_wrong_g N with F := f1 }]), (53, [{ inode_Apply_1_g N with F := f2 }])]
theorem inode_Apply_CE (N : Nat) : inode_Apply_CA N (inode_Check) (inode_wrong) (inode_Apply_1) = inode_Apply_C N := by kernel_rfl
theorem inode_Apply_t (N : Nat) : TabC Try.prog (inode_Apply_C N) := tab_ok ⟨⟨inode_Check_ok N, trivial⟩, ⟨inode_wrong_ok N, trivial⟩, ⟨inode_Apply_1_ok N, trivial⟩, trivial⟩
theorem inode_Apply_i : loopsOf inode_Apply_c = [] := by kernel_rfl
noncomputable def inode_Apply_a (N : Nat) (f0 : Int × Int × Int × Int × Int × Int × Int × Int × Int × Int × Int × Int × Int × (List UInt8) → Option (Int)) (f1 : Int × Int × Int × Int × Int × Int × Int × Int × Int × Int × Int × Int × Int × (List UInt8) × Int × Int × Int × Int × Int × Int × Int → Option (Bool)) (f2 : Int × Int → Option (Bool × Int)) (x : Int × Int × Int × Int × Int × Int × Int × Int × Int × Int × Int × Int × Int × (List UInt8) × Int × Int × Int × Int × Int × Int × Int × Int) : Option (Int × Int × Int × Int × Int × Int × Int × Int × Int × Int × Int × Int × Int × (List UInt8) × Bool × Int) :=
  (Option.bind (f0 (x.1, x.2.1, x.2.2.1, x.2.2.2.1, x.2.2.2.2.1, x.2.2.2.2.2.1, x.2.2.2.2.2.2.1, x.2.2.2.2.2.2.2.1, x.2.2.2.2.2.2.2.2.1, x.2.2.2.2.2.2.2.2.2.1, x.2.2.2.2.2.2.2.2.2.2.1, x.2.2.2.2.2.2.2.2.2.2.2.1, x.2.2.2.2.2.2.2.2.2.2.2.2.1, x.2.2.2.2.2.2.2.2.2.2.2.2.2.1)) fun r2 =>
  (cond (!(decide (r2 = (0 : Int))))
  (some ((0 : Int), (0 : Int), (0 : Int), (0 : Int), (0 : Int), (0 : Int), (0 : Int), (0 : Int), (0 : Int), (0 : Int), (0 : Int), (0 : Int), (0 : Int), ([] : List UInt8), false, r2))
  (Option.bind (f1 (x.1, x.2.1, x.2.2.1, x.2.2.2.1, x.2.2.2.2.1, x.2.2.2.2.2.1, x.2.2.2.2.2.2.1, x.2.2.2.2.2.2.2.1, x.2.2.2.2.2.2.2.2.1, x.2.2.2.2.2.2.2.2.2.1, x.2.2.2.2.2.2.2.2.2.2.1, x.2.2.2.2.2.2.2.2.2.2.2.1, x.2.2.2.2.2.2.2.2.2.2.2.2.1, x.2.2.2.2.2.2.2.2.2.2.2.2.2.1, x.2.2.2.2.2.2.2.2.2.2.2.2.2.2.1, x.2.2.2.2.2.2.2.2.2.2.2.2.2.2.2.1, x.2.2.2.2.2.2.2.2.2.2.2.2.2.2.2.2.1, x.2.2.2.2.2.2.2.2.2.2.2.2.2.2.2.2.2.1, x.2.2.2.2.2.2.2.2.2.2.2.2.2.2.2.2.2.2.1, x.2.2.2.2.2.2.2.2.2.2.2.2.2.2.2.2.2.2.2.1, x.2.2.2.2.2.2.2.2.2.2.2.2.2.2.2.2.2.2.2.2.1)) fun r5 =>
  (cond r5
  (some ((0 : Int), (0 : Int), (0 : Int), (0 : Int), (0 : Int), (0 : Int), (0 : Int), (0 : Int), (0 : Int), (0 : Int), (0 : Int), (0 : Int), (0 : Int), ([] : List UInt8), false, (122 : Int)))
  (cond (decide (x.2.2.2.2.2.2.2.2.2.2.2.2.2.2.1 = (0 : Int)))
  (some (x.1, x.2.1, x.2.2.1, x.2.2.2.1, x.2.2.2.2.1, x.2.2.2.2.2.1, x.2.2.2.2.2.2.1, x.2.2.2.2.2.2.2.1, x.2.2.2.2.2.2.2.2.1, x.2.2.2.2.2.2.2.2.2.1, x.2.2.2.2.2.2.2.2.2.2.1, x.2.2.2.2.2.2.2.2.2.2.2.1, x.2.2.2.2.2.2.2.2.2.2.2.2.1, x.2.2.2.2.2.2.2.2.2.2.2.2.2.1, false, (0 : Int)))
  (Option.bind (f2 ((1 : Int), x.2.2.2.2.2.2.2.2.2.2.2.2.2.2.1)) fun r8 =>
  (Option.bind
  (cond r8.1
  (some x.2.2.2.2.2.2.2.2.2.2.2.2.2.2.2.1)
  (some x.2.2.2.1))
  fun r9 =>
  (Option.bind (f2 ((2 : Int), r8.2)) fun r10 =>
  (Option.bind
  (cond r10.1
  (some x.2.2.2.2.2.2.2.2.2.2.2.2.2.2.2.2.1)
  (some x.2.2.2.2.2.1))
  fun r11 =>
  (Option.bind (f2 ((4 : Int), r10.2)) fun r12 =>
  (Option.bind
  (cond r12.1
  (some x.2.2.2.2.2.2.2.2.2.2.2.2.2.2.2.2.2.1)
  (some x.2.2.2.2.2.2.1))
  fun r13 =>
  (Option.bind
  (Option.bind (f2 ((8 : Int), r12.2)) fun r14 =>
  (cond r14.1
  (some ((!(decide (x.2.2.2.2.2.2.2.2.2.2.2.2.2.2.2.2.2.2.1 = x.2.2.2.2.2.2.2.1))), r14.2))
  (some (false, r14.2))))
  fun r16 =>
  (Option.bind
  (cond r16.1
  (some (x.2.2.2.2.2.2.2.2.2.2.2.2.2.2.2.2.2.2.1, x.2.2.2.2.2.2.2.2.2.2.2.2.2.2.2.2.2.2.2.2.2))
  (some (x.2.2.2.2.2.2.2.1, x.2.2.2.2.2.2.2.2.2.2.1)))
  fun r17 =>
  (Option.bind (f2 ((16 : Int), r16.2)) fun r18 =>
  (Option.bind
  (cond r18.1
  (some (x.2.2.2.2.2.2.2.2.2.2.2.2.2.2.2.2.2.2.2.1, r18.2))
  (Option.bind (f2 ((64 : Int), r18.2)) fun r19 =>
  (Option.bind
  (cond r19.1
  (some x.2.2.2.2.2.2.2.2.2.2.2.2.2.2.2.2.2.2.2.2.2)
  (some x.2.2.2.2.2.2.2.2.2.1))
  fun r20 =>
  (some (r20, r19.2)))))
  fun r21 =>
  (Option.bind (f2 ((32 : Int), r21.2)) fun r22 =>
  (Option.bind
  (cond r22.1
  (some (x.2.2.2.2.2.2.2.2.2.2.2.2.2.2.2.2.2.2.2.2.1, r22.2))
  (Option.bind (f2 ((128 : Int), r22.2)) fun r23 =>
  (Option.bind
  (cond r23.1
  (some x.2.2.2.2.2.2.2.2.2.2.2.2.2.2.2.2.2.2.2.2.2)
  (some r17.2))
  fun r24 =>
  (some (r24, r23.2)))))
  fun r25 =>
  (some (x.1, x.2.1, x.2.2.1, r9, x.2.2.2.2.1, r11, r13, r17.1, x.2.2.2.2.2.2.2.2.1, r21.1, r25.1, x.2.2.2.2.2.2.2.2.2.2.2.2.2.2.2.2.2.2.2.2.2, x.2.2.2.2.2.2.2.2.2.2.2.2.1, x.2.2.2.2.2.2.2.2.2.2.2.2.2.1, r16.1, (0 : Int))))))))))))))))))))
theorem inode_Apply_f (N : Nat) (f0 : Int × Int × Int × Int × Int × Int × Int × Int × Int × Int × Int × Int × Int × (List UInt8) → Option (Int)) (f1 : Int × Int × Int × Int × Int × Int × Int × Int × Int × Int × Int × Int × Int × (List UInt8) × Int × Int × Int × Int × Int × Int × Int → Option (Bool)) (f2 : Int × Int → Option (Bool × Int)) (x) : inode_Apply_a N f0 f1 f2 x = fnStep Γ (inode_Apply_CA N f0 f1 f2) (inode_Apply_J N) 83 Try.f20.results.toList (inode_Apply_g N) inode_Apply_o inode_Apply_c x := by kernel_rfl
theorem inode_Apply_e (N : Nat) (x) : (inode_Apply_g N).F x = fnStep Γ (inode_Apply_C N) (inode_Apply_J N) 83 Try.f20.results.toList (inode_Apply_g N) inode_Apply_o inode_Apply_c x := by
  rw [← inode_Apply_CE N]
  exact Eq.trans (by kernel_rfl) (inode_Apply_f N (inode_Check) (inode_wrong) (inode_Apply_1) x)
theorem inode_Apply_y : Try.f20.body = some inode_Apply_c := by kernel_rfl
theorem inode_Apply_n : (Try.f20.name == "runtime.NumGoroutine") = false := by kernel_rfl
theorem inode_Apply_ok (N : Nat) : FnDoes Try.prog 20 (inode_Apply_g N) := fn_ok tabOK (inode_Apply_t N) mixedOK (J := inode_Apply_J N) (body := inode_Apply_c) Try.func20 inode_Apply_y inode_Apply_n Try.ntmps20 (jok_from inode_Apply_i ⟨trivial, trivial⟩) rfl rfl (le_of_ble rfl) (inode_Apply_e N)
noncomputable def octet_Put_v2_c : Code := codeOf Try.f40.body
noncomputable def octet_Put_v2_J (N : Nat) : Nat → Hint := fun cx => hintOf cx []
noncomputable def octet_Put_v2_C (N : Nat) : Nat → List GS := fun k => tabOf k [(57, [octet_Lay_g N])]
def octet_Put_v2_o : List (Shp × List Nat) := [(⟨[(0, (.av (.one (.const (.slw 1 1)))))], [(.dead, false), (.sh (.arr (.int .u8) none), false)]⟩, [])]
noncomputable def octet_Put_v2_g (N : Nat) : GS := { ins := ⟨[(0, (.av (.one (.sl 0 1)))), (1, (.av (.one (.int .u64)))), (2, (.av (.one (.int .i64))))], [(some (.arr (.int .u8) none), false)]⟩, lend := [.keep, .keep, .keep], outs := octet_Put_v2_o.map fun s => ssOf s.1, its := [.nat, .nat, .int, .int, .lst (.int .u8)], ots := [[.lst (.int .u8)]], F := octet_Put_v2 N }
noncomputable def octet_Put_v2_CA (N : Nat) (f0 : Nat × Nat × Int × (List Int) → Option ((List Int))) : Nat → List GS := fun k => tabOf k [(57, [{ octet_Lay_g N with F := f0 }])]
theorem octet_Put_v2_CE (N : Nat) : octet_Put_v2_CA N (octet_Lay N) = octet_Put_v2_C N := by kernel_rfl
theorem octet_Put_v2_t (N : Nat) : TabC Try.prog (octet_Put_v2_C N) := tab_ok ⟨⟨octet_Lay_ok N, trivial⟩, trivial⟩
theorem octet_Put_v2_i : loopsOf octet_Put_v2_c = [] := by kernel_rfl
noncomputable def octet_Put_v2_a (N : Nat) (f0 : Nat × Nat × Int × (List Int) → Option ((List Int))) (x : Nat × Nat × Int × Int × (List Int)) : Option ((List Int)) :=
  (cond ((((decide ((0 : Int) ≤ x.2.2.2.1)) && (fits 1 (Int.toNat x.2.2.2.1))) && (decide (x.1 + x.2.1 = (List.length x.2.2.2.2)))) && (fits 1 (x.2.1 + (List.length (List.replicate (Int.toNat x.2.2.2.1) (EK.dflt (.int .u8)))))))
  ((let v1 : List Int := (List.drop x.1 x.2.2.2.2 ++ (List.replicate (Int.toNat x.2.2.2.1) (EK.dflt (.int .u8))))
  (let v3 : Int := (wrapF .i64 ((((List.length v1) : Nat) : Int) - x.2.2.2.1))
  (cond (((decide ((0 : Int) ≤ v3)) && (decide (v3 ≤ (((List.length v1) : Nat) : Int)))) && (decide ((((List.length v1) : Nat) : Int) ≤ (((List.length v1) : Nat) : Int))))
  ((Option.bind (f0 ((Int.toNat v3), ((List.length v1) - (Int.toNat v3)), x.2.2.1, v1)) fun r6 =>
  (some r6)))
  none))))
  none)
theorem octet_Put_v2_f (N : Nat) (f0 : Nat × Nat × Int × (List Int) → Option ((List Int))) (x) : octet_Put_v2_a N f0 x = fnStep Γ (octet_Put_v2_CA N f0) (octet_Put_v2_J N) 19 Try.f40.results.toList (octet_Put_v2_g N) octet_Put_v2_o octet_Put_v2_c x := by kernel_rfl
theorem octet_Put_v2_e (N : Nat) (x) : (octet_Put_v2_g N).F x = fnStep Γ (octet_Put_v2_C N) (octet_Put_v2_J N) 19 Try.f40.results.toList (octet_Put_v2_g N) octet_Put_v2_o octet_Put_v2_c x := by
  rw [← octet_Put_v2_CE N]
  exact Eq.trans (by kernel_rfl) (octet_Put_v2_f N (octet_Lay N) x)
theorem octet_Put_v2_y : Try.f40.body = some octet_Put_v2_c := by kernel_rfl
theorem octet_Put_v2_n : (Try.f40.name == "runtime.NumGoroutine") = false := by kernel_rfl
theorem octet_Put_v2_ok (N : Nat) : FnDoes Try.prog 40 (octet_Put_v2_g N) := fn_ok tabOK (octet_Put_v2_t N) mixedOK (J := octet_Put_v2_J N) (body := octet_Put_v2_c) Try.func40 octet_Put_v2_y octet_Put_v2_n Try.ntmps40 (jok_from octet_Put_v2_i trivial) rfl rfl (le_of_ble rfl) (octet_Put_v2_e N)
noncomputable def inode_PutHandle_c : Code := codeOf Try.f24.body
noncomputable def inode_PutHandle_J (N : Nat) : Nat → Hint := fun cx => hintOf cx [(0, { reg := fun k => assoc0 k [(1, ⟨⟨[(12, (.av (.one .bool)))], [(.keep, true), (.keep, true), (.keep, false)]⟩, [], [], [.bool]⟩)], cnd := fun k => assoc0 k [], loop := fun k => assoc0 k [], nil := fun k => assoc0 k [], unr := fun k => assocN k [], blk := fun k => assoc0 k [] })]
noncomputable def inode_PutHandle_C (N : Nat) : Nat → List GS := fun k => tabOf k [(40, [octet_Put_v1_g N, octet_Put_v2_g N])]
def inode_PutHandle_o : List (Shp × List Nat) := [(⟨[(0, (.tup [(.one (.const (.slw 0 1))), (.one (.int .i64))]))], [(.sh (.arr (.int .u8) none), false)]⟩, [])]
noncomputable def inode_PutHandle_g (N : Nat) : GS := { ins := ⟨[(0, (.av (.agg [(.one (.int .u32)), (.one (.int .u64)), (.one (.int .u32))])))], []⟩, lend := [.keep], outs := inode_PutHandle_o.map fun s => ssOf s.1, its := [.int, .int, .int], ots := [[.int, .lst (.int .u8)]], F := inode_PutHandle N }
noncomputable def inode_PutHandle_CA (N : Nat) (f0 : Int × Int × (List Int) → Option ((List Int))) (f1 : Nat × Nat × Int × Int × (List Int) → Option ((List Int))) : Nat → List GS := fun k => tabOf k [(40, [{ octet_Put_v1_g N with F := f0 }, { octet_Put_v2_g N with F := f1 }])]
theorem inode_PutHandle_CE (N : Nat) : inode_PutHandle_CA N (octet_Put_v1 N) (octet_Put_v2 N) = inode_PutHandle_C N := by kernel_rfl
theorem inode_PutHandle_t (N : Nat) : TabC Try.prog (inode_PutHandle_C N) := tab_ok ⟨⟨octet_Put_v1_ok N, octet_Put_v2_ok N, trivial⟩, trivial⟩
theorem inode_PutHandle_i : loopsOf inode_PutHandle_c = [] := by kernel_rfl
noncomputable def inode_PutHandle_a (N : Nat) (f0 : Int × Int × (List Int) → Option ((List Int))) (f1 : Nat × Nat × Int × Int × (List Int) → Option ((List Int))) (x : Int × Int × Int) : Option (Int × (List Int)) :=
  (Option.bind
  (cond (decide (x.2.1 = (0 : Int)))
  (some true)
  (some (decide (x.2.2 = (0 : Int)))))
  fun r3 =>
  (cond r3
  (some ((121 : Int), ([] : List Int)))
  (Option.bind (f1 (0, 4, (wrapF .u64 x.1), (4 : Int), ([(71 : Int), (82 : Int), (78 : Int), (49 : Int)] : List Int))) fun r6 =>
  (Option.bind (f0 (x.2.1, (8 : Int), r6)) fun r7 =>
  (Option.bind (f0 ((wrapF .u64 x.2.2), (4 : Int), r7)) fun r9 =>
  (some ((0 : Int), r9)))))))
theorem inode_PutHandle_f (N : Nat) (f0 : Int × Int × (List Int) → Option ((List Int))) (f1 : Nat × Nat × Int × Int × (List Int) → Option ((List Int))) (x) : inode_PutHandle_a N f0 f1 x = fnStep Γ (inode_PutHandle_CA N f0 f1) (inode_PutHandle_J N) 27 Try.f24.results.toList (inode_PutHandle_g N) inode_PutHandle_o inode_PutHandle_c x := by kernel_rfl
theorem inode_PutHandle_e (N : Nat) (x) : (inode_PutHandle_g N).F x = fnStep Γ (inode_PutHandle_C N) (inode_PutHandle_J N) 27 Try.f24.results.toList (inode_PutHandle_g N) inode_PutHandle_o inode_PutHandle_c x := by
  rw [← inode_PutHandle_CE N]
  exact Eq.trans (by kernel_rfl) (inode_PutHandle_f N (octet_Put_v1 N) (octet_Put_v2 N) x)
theorem inode_PutHandle_y : Try.f24.body = some inode_PutHandle_c := by kernel_rfl
theorem inode_PutHandle_n : (Try.f24.name == "runtime.NumGoroutine") = false := by kernel_rfl
theorem inode_PutHandle_ok (N : Nat) : FnDoes Try.prog 24 (inode_PutHandle_g N) := fn_ok tabOK (inode_PutHandle_t N) mixedOK (J := inode_PutHandle_J N) (body := inode_PutHandle_c) Try.func24 inode_PutHandle_y inode_PutHandle_n Try.ntmps24 (jok_from inode_PutHandle_i ⟨trivial, trivial⟩) rfl rfl (le_of_ble rfl) (inode_PutHandle_e N)
noncomputable def inode_GetHandle_c : Code := codeOf Try.f26.body
noncomputable def inode_GetHandle_J (N : Nat) : Nat → Hint := fun cx => hintOf cx [(0, { reg := fun k => assoc0 k [(1, ⟨⟨[(13, (.av (.one .bool)))], [(.keep, true), (.keep, true), (.keep, false)]⟩, [], [], [.bool]⟩), (4, ⟨⟨[(34, (.av (.one .bool)))], [(.keep, true), (.keep, true), (.keep, false), (.keep, true), (.keep, true), (.keep, false)]⟩, [], [], [.bool]⟩)], cnd := fun k => assoc0 k [], loop := fun k => assoc0 k [], nil := fun k => assoc0 k [], unr := fun k => assocN k [], blk := fun k => assoc0 k [] })]
noncomputable def inode_GetHandle_C (N : Nat) : Nat → List GS := fun k => tabOf k [(45, [octet_Get_g N])]
def inode_GetHandle_o : List (Shp × List Nat) := [(⟨[(0, (.tup [(.agg [(.one (.int .u32)), (.one (.int .u64)), (.one (.int .u32))]), (.one (.int .i64))]))], []⟩, [])]
noncomputable def inode_GetHandle_g (N : Nat) : GS := { ins := ⟨[(0, (.av (.one (.rsl (.int .u8)))))], []⟩, lend := [.lend (.int .u8)], outs := inode_GetHandle_o.map fun s => ssOf s.1, its := [.lst (.int .u8)], ots := [[.int, .int, .int, .int]], F := inode_GetHandle N }
noncomputable def inode_GetHandle_CA (N : Nat) (f0 : (List Int) → Option (Int)) : Nat → List GS := fun k => tabOf k [(45, [{ octet_Get_g N with F := f0 }])]
theorem inode_GetHandle_CE (N : Nat) : inode_GetHandle_CA N (octet_Get N) = inode_GetHandle_C N := by kernel_rfl
theorem inode_GetHandle_t (N : Nat) : TabC Try.prog (inode_GetHandle_C N) := tab_ok ⟨⟨octet_Get_ok N, trivial⟩, trivial⟩
theorem inode_GetHandle_i : loopsOf inode_GetHandle_c = [] := by kernel_rfl
noncomputable def inode_GetHandle_a (N : Nat) (f0 : (List Int) → Option (Int)) (x : (List Int)) : Option (Int × Int × Int × Int) :=
  (Option.bind
  (cond (!(decide ((((List.length x) : Nat) : Int) = (20 : Int))))
  (some true)
  (cond (decide ((4 : Int) ≤ (((List.length x) : Nat) : Int)))
  ((some (!(decide ((List.map (fun (n : Int) => UInt8.ofNat n.toNat) (List.take 4 (List.drop 0 x))) = ([71, 82, 78, 49] : List UInt8))))))
  none))
  fun r6 =>
  (cond r6
  (some ((0 : Int), (0 : Int), (0 : Int), (121 : Int)))
  (cond (decide ((8 : Int) ≤ (((List.length x) : Nat) : Int)))
  ((Option.bind (f0 (List.take 4 (List.drop 4 x))) fun r8 =>
  (cond (decide ((16 : Int) ≤ (((List.length x) : Nat) : Int)))
  ((Option.bind (f0 (List.take 8 (List.drop 8 x))) fun r11 =>
  (cond ((decide ((16 : Int) ≤ (((List.length x) : Nat) : Int))) && (decide ((((List.length x) : Nat) : Int) ≤ (((List.length x) : Nat) : Int))))
  ((Option.bind (f0 (List.take ((List.length x) - 16) (List.drop 16 x))) fun r13 =>
  (let v14 : Int := (wrapF .u32 r13)
  (Option.bind
  (cond (decide (r11 = (0 : Int)))
  (some true)
  (some (decide (v14 = (0 : Int)))))
  fun r17 =>
  (cond r17
  (some ((0 : Int), (0 : Int), (0 : Int), (121 : Int)))
  (some ((wrapF .u32 r8), r11, v14, (0 : Int))))))))
  none)))
  none)))
  none)))
theorem inode_GetHandle_f (N : Nat) (f0 : (List Int) → Option (Int)) (x) : inode_GetHandle_a N f0 x = fnStep Γ (inode_GetHandle_CA N f0) (inode_GetHandle_J N) 37 Try.f26.results.toList (inode_GetHandle_g N) inode_GetHandle_o inode_GetHandle_c x := by kernel_rfl
theorem inode_GetHandle_e (N : Nat) (x) : (inode_GetHandle_g N).F x = fnStep Γ (inode_GetHandle_C N) (inode_GetHandle_J N) 37 Try.f26.results.toList (inode_GetHandle_g N) inode_GetHandle_o inode_GetHandle_c x := by
  rw [← inode_GetHandle_CE N]
  exact Eq.trans (by kernel_rfl) (inode_GetHandle_f N (octet_Get N) x)
theorem inode_GetHandle_y : Try.f26.body = some inode_GetHandle_c := by kernel_rfl
theorem inode_GetHandle_n : (Try.f26.name == "runtime.NumGoroutine") = false := by kernel_rfl
theorem inode_GetHandle_ok (N : Nat) : FnDoes Try.prog 26 (inode_GetHandle_g N) := fn_ok tabOK (inode_GetHandle_t N) mixedOK (J := inode_GetHandle_J N) (body := inode_GetHandle_c) Try.func26 inode_GetHandle_y inode_GetHandle_n Try.ntmps26 (jok_from inode_GetHandle_i ⟨trivial, trivial⟩) rfl rfl (le_of_ble rfl) (inode_GetHandle_e N)
noncomputable def granarylaw12_num_c : Code := codeOf Try.f17.body
noncomputable def granarylaw12_num_J (N : Nat) : Nat → Hint := fun cx => hintOf cx []
noncomputable def granarylaw12_num_C (N : Nat) : Nat → List GS := fun k => tabOf k []
def granarylaw12_num_o : List (Shp × List Nat) := [(⟨[(0, (.av (.one (.int .i64))))], []⟩, [])]
noncomputable def granarylaw12_num_g (N : Nat) : GS := { ins := ⟨[(0, (.av (.one (.int .i64))))], []⟩, lend := [.keep], outs := granarylaw12_num_o.map fun s => ssOf s.1, its := [.int], ots := [[.int]], F := granarylaw12_num }
theorem granarylaw12_num_t (N : Nat) : TabC Try.prog (granarylaw12_num_C N) := tab_ok trivial
theorem granarylaw12_num_i : loopsOf granarylaw12_num_c = [] := by kernel_rfl
theorem granarylaw12_num_e (N : Nat) (x) : (granarylaw12_num_g N).F x = fnStep Γ (granarylaw12_num_C N) (granarylaw12_num_J N) 4 Try.f17.results.toList (granarylaw12_num_g N) granarylaw12_num_o granarylaw12_num_c x := by kernel_rfl
theorem granarylaw12_num_y : Try.f17.body = some granarylaw12_num_c := by kernel_rfl
theorem granarylaw12_num_n : (Try.f17.name == "runtime.NumGoroutine") = false := by kernel_rfl
theorem granarylaw12_num_ok (N : Nat) : FnDoes Try.prog 17 (granarylaw12_num_g N) := fn_ok tabOK (granarylaw12_num_t N) mixedOK (J := granarylaw12_num_J N) (body := granarylaw12_num_c) Try.func17 granarylaw12_num_y granarylaw12_num_n Try.ntmps17 (jok_from granarylaw12_num_i trivial) rfl rfl (le_of_ble rfl) (granarylaw12_num_e N)
noncomputable def slices_Index_uint32_uint32_c : Code := codeOf Try.f60.body
noncomputable def slices_Index_uint32_uint32_c0 : Code := codeOf (getLoop 0 slices_Index_uint32_uint32_c)
def slices_Index_uint32_uint32_d0 : LD := { ins := ⟨[(0, (.av (.one (.rsl (.int .u32))))), (1, (.av (.one (.int .u32)))), (7, (.av (.one (.int .i64)))), (8, (.av (.one (.int .i64))))], []⟩, mov := [], wr := [], outs := [(.ret, ⟨[(4, (.av (.one (.int .i64))))], []⟩), (.exit 0, ⟨[], []⟩)], its := [.lst (.int .u32), .int, .int, .int], ots := [[.int], []] }
noncomputable def slices_Index_uint32_uint32_J (N : Nat) : Nat → Hint := fun cx => hintOf cx [(0, { reg := fun k => assoc0 k [], cnd := fun k => assoc0 k [], loop := fun k => assoc0 k [(0, ⟨slices_Index_uint32_uint32_d0, loopF (slices_Index_uint32_uint32_b0 N) N⟩)], nil := fun k => assoc0 k [], unr := fun k => assocN k [], blk := fun k => assoc0 k [] })]
noncomputable def slices_Index_uint32_uint32_C (N : Nat) : Nat → List GS := fun k => tabOf k []
def slices_Index_uint32_uint32_o : List (Shp × List Nat) := [(⟨[(0, (.av (.one (.int .i64))))], []⟩, [])]
noncomputable def slices_Index_uint32_uint32_g (N : Nat) : GS := { ins := ⟨[(0, (.av (.one (.rsl (.int .u32))))), (1, (.av (.one (.int .u32))))], []⟩, lend := [.keep, .keep], outs := slices_Index_uint32_uint32_o.map fun s => ssOf s.1, its := [.lst (.int .u32), .int], ots := [[.int]], F := slices_Index_uint32_uint32 N }
theorem slices_Index_uint32_uint32_t (N : Nat) : TabC Try.prog (slices_Index_uint32_uint32_C N) := tab_ok trivial
theorem slices_Index_uint32_uint32_i0 : loopsOf slices_Index_uint32_uint32_c0 = [] := by kernel_rfl
theorem slices_Index_uint32_uint32_e0 (N : Nat) (next) (x) : slices_Index_uint32_uint32_b0 N next x = loopStep Γ (slices_Index_uint32_uint32_C N) (slices_Index_uint32_uint32_J N) 0 19 slices_Index_uint32_uint32_d0 slices_Index_uint32_uint32_c0 next x := by kernel_rfl
theorem slices_Index_uint32_uint32_k0 (N : Nat) : LoopOK Try.prog 19 slices_Index_uint32_uint32_c0 ⟨slices_Index_uint32_uint32_d0, loopF (slices_Index_uint32_uint32_b0 N) N⟩ := loop_ok tabOK (slices_Index_uint32_uint32_t N) mixedOK (J := slices_Index_uint32_uint32_J N) (cx := 0) (body := slices_Index_uint32_uint32_c0) (nt := 19) (l := slices_Index_uint32_uint32_d0) (b := slices_Index_uint32_uint32_b0 N) (jok_from slices_Index_uint32_uint32_i0 ⟨trivial, trivial⟩) (slices_Index_uint32_uint32_e0 N) N
theorem slices_Index_uint32_uint32_i : loopsOf slices_Index_uint32_uint32_c = [(0, slices_Index_uint32_uint32_c0)] := by kernel_rfl
theorem slices_Index_uint32_uint32_e (N : Nat) (x) : (slices_Index_uint32_uint32_g N).F x = fnStep Γ (slices_Index_uint32_uint32_C N) (slices_Index_uint32_uint32_J N) 19 Try.f60.results.toList (slices_Index_uint32_uint32_g N) slices_Index_uint32_uint32_o slices_Index_uint32_uint32_c x := by kernel_rfl
theorem slices_Index_uint32_uint32_y : Try.f60.body = some slices_Index_uint32_uint32_c := by kernel_rfl
theorem slices_Index_uint32_uint32_n : (Try.f60.name == "runtime.NumGoroutine") = false := by kernel_rfl
theorem slices_Index_uint32_uint32_ok (N : Nat) : FnDoes Try.prog 60 (slices_Index_uint32_uint32_g N) := fn_ok tabOK (slices_Index_uint32_uint32_t N) mixedOK (J := slices_Index_uint32_uint32_J N) (body := slices_Index_uint32_uint32_c) Try.func60 slices_Index_uint32_uint32_y slices_Index_uint32_uint32_n Try.ntmps60 (jok_from slices_Index_uint32_uint32_i ⟨⟨.inr ⟨_, rfl, slices_Index_uint32_uint32_k0 N⟩, trivial⟩, trivial⟩) rfl rfl (le_of_ble rfl) (slices_Index_uint32_uint32_e N)
noncomputable def slices_Contains_uint32_uint32_c : Code := codeOf Try.f55.body
noncomputable def slices_Contains_uint32_uint32_J (N : Nat) : Nat → Hint := fun cx => hintOf cx []
noncomputable def slices_Contains_uint32_uint32_C (N : Nat) : Nat → List GS := fun k => tabOf k [(60, [slices_Index_uint32_uint32_g N])]
def slices_Contains_uint32_uint32_o : List (Shp × List Nat) := [(⟨[(0, (.av (.one .bool)))], []⟩, [])]
noncomputable def slices_Contains_uint32_uint32_g (N : Nat) : GS := { ins := ⟨[(0, (.av (.one (.rsl (.int .u32))))), (1, (.av (.one (.int .u32))))], []⟩, lend := [.keep, .keep], outs := slices_Contains_uint32_uint32_o.map fun s => ssOf s.1, its := [.lst (.int .u32), .int], ots := [[.bool]], F := slices_Contains_uint32_uint32 N }
noncomputable def slices_Contains_uint32_uint32_CA (N : Nat) (f0 : (List Int) × Int → Option (Int)) : Nat → List GS := fun k => tabOf k [(60, [{ slices_Index_uint32_uint32_g N with F := f0 }])]
theorem slices_Contains_uint32_uint32_CE (N : Nat) : slices_Contains_uint32_uint32_CA N (slices_Index_uint32_uint32 N) = slices_Contains_uint32_uint32_C N := by kernel_rfl
theorem slices_Contains_uint32_uint32_t (N : Nat) : TabC Try.prog (slices_Contains_uint32_uint32_C N) := tab_ok ⟨⟨slices_Index_uint32_uint32_ok N, trivial⟩, trivial⟩
theorem slices_Contains_uint32_uint32_i : loopsOf slices_Contains_uint32_uint32_c = [] := by kernel_rfl
noncomputable def slices_Contains_uint32_uint32_a (N : Nat) (f0 : (List Int) × Int → Option (Int)) (x : (List Int) × Int) : Option (Bool) :=
  (Option.bind (f0 (x.1, x.2)) fun r1 =>
  (some (decide ((0 : Int) ≤ r1))))
theorem slices_Contains_uint32_uint32_f (N : Nat) (f0 : (List Int) × Int → Option (Int)) (x) : slices_Contains_uint32_uint32_a N f0 x = fnStep Γ (slices_Contains_uint32_uint32_CA N f0) (slices_Contains_uint32_uint32_J N) 9 Try.f55.results.toList (slices_Contains_uint32_uint32_g N) slices_Contains_uint32_uint32_o slices_Contains_uint32_uint32_c x := by kernel_rfl
theorem slices_Contains_uint32_uint32_e (N : Nat) (x) : (slices_Contains_uint32_uint32_g N).F x = fnStep Γ (slices_Contains_uint32_uint32_C N) (slices_Contains_uint32_uint32_J N) 9 Try.f55.results.toList (slices_Contains_uint32_uint32_g N) slices_Contains_uint32_uint32_o slices_Contains_uint32_uint32_c x := by
  rw [← slices_Contains_uint32_uint32_CE N]
  exact Eq.trans (by kernel_rfl) (slices_Contains_uint32_uint32_f N (slices_Index_uint32_uint32 N) x)
theorem slices_Contains_uint32_uint32_y : Try.f55.body = some slices_Contains_uint32_uint32_c := by kernel_rfl
theorem slices_Contains_uint32_uint32_n : (Try.f55.name == "runtime.NumGoroutine") = false := by kernel_rfl
theorem slices_Contains_uint32_uint32_ok (N : Nat) : FnDoes Try.prog 55 (slices_Contains_uint32_uint32_g N) := fn_ok tabOK (slices_Contains_uint32_uint32_t N) mixedOK (J := slices_Contains_uint32_uint32_J N) (body := slices_Contains_uint32_uint32_c) Try.func55 slices_Contains_uint32_uint32_y slices_Contains_uint32_uint32_n Try.ntmps55 (jok_from slices_Contains_uint32_uint32_i trivial) rfl rfl (le_of_ble rfl) (slices_Contains_uint32_uint32_e N)
noncomputable def inode_grants_c : Code := codeOf Try.f56.body
noncomputable def inode_grants_J (N : Nat) : Nat → Hint := fun cx => hintOf cx [(0, { reg := fun k => assoc0 k [], cnd := fun k => assoc0 k [(8, ⟨[], [], [(.normal, ⟨[(5, (.av (.one (.int .u32))))], []⟩)], [[.int]]⟩), (13, ⟨[], [], [(.normal, ⟨[(5, (.av (.one (.int .u32))))], []⟩)], [[.int]]⟩), (23, ⟨[], [], [(.normal, ⟨[(5, (.av (.one (.int .u32))))], []⟩)], [[.int]]⟩), (22, ⟨[], [], [(.normal, ⟨[(5, (.av (.one (.int .u32))))], []⟩)], [[.int]]⟩)], loop := fun k => assoc0 k [], nil := fun k => assoc0 k [], unr := fun k => assocN k [], blk := fun k => assoc0 k [(2, ⟨[], [], [(.normal, ⟨[(5, (.av (.one (.int .u32))))], []⟩)], [[.int]]⟩)] })]
noncomputable def inode_grants_C (N : Nat) : Nat → List GS := fun k => tabOf k []
def inode_grants_o : List (Shp × List Nat) := [(⟨[(0, (.av (.one (.int .u32))))], []⟩, [])]
noncomputable def inode_grants_g (N : Nat) : GS := { ins := ⟨[(0, (.av (.one (.int .u32)))), (1, (.av (.one .bool)))], []⟩, lend := [.keep, .keep], outs := inode_grants_o.map fun s => ssOf s.1, its := [.int, .bool], ots := [[.int]], F := inode_grants }
theorem inode_grants_t (N : Nat) : TabC Try.prog (inode_grants_C N) := tab_ok trivial
theorem inode_grants_i : loopsOf inode_grants_c = [] := by kernel_rfl
theorem inode_grants_e (N : Nat) (x) : (inode_grants_g N).F x = fnStep Γ (inode_grants_C N) (inode_grants_J N) 29 Try.f56.results.toList (inode_grants_g N) inode_grants_o inode_grants_c x := by kernel_rfl
theorem inode_grants_y : Try.f56.body = some inode_grants_c := by kernel_rfl
theorem inode_grants_n : (Try.f56.name == "runtime.NumGoroutine") = false := by kernel_rfl
theorem inode_grants_ok (N : Nat) : FnDoes Try.prog 56 (inode_grants_g N) := fn_ok tabOK (inode_grants_t N) mixedOK (J := inode_grants_J N) (body := inode_grants_c) Try.func56 inode_grants_y inode_grants_n Try.ntmps56 (jok_from inode_grants_i ⟨trivial, trivial⟩) rfl rfl (le_of_ble rfl) (inode_grants_e N)
noncomputable def inode_Access_c : Code := codeOf Try.f22.body
noncomputable def inode_Access_J (N : Nat) : Nat → Hint := fun cx => hintOf cx [(0, { reg := fun k => assoc0 k [], cnd := fun k => assoc0 k [(25, ⟨[], [], [(.normal, ⟨[(9, (.av (.one (.int .u32))))], [(.keep, true), (.keep, true), (.keep, true), (.keep, true), (.keep, true), (.keep, true), (.keep, true), (.keep, true), (.keep, true), (.keep, true), (.keep, true), (.keep, true), (.keep, true), (.keep, false)]⟩)], [[.int]]⟩), (18, ⟨[], [], [(.normal, ⟨[(9, (.av (.one (.int .u32))))], [(.keep, true), (.keep, true), (.keep, true), (.keep, true), (.keep, true), (.keep, true), (.keep, true), (.keep, true), (.keep, true), (.keep, true), (.keep, true), (.keep, true), (.keep, true), (.keep, false)]⟩)], [[.int]]⟩), (15, ⟨[], [], [(.normal, ⟨[(9, (.av (.one (.int .u32))))], [(.keep, true), (.keep, true), (.keep, true), (.keep, true), (.keep, true), (.keep, true), (.keep, true), (.keep, true), (.keep, true), (.keep, true), (.keep, true), (.keep, true), (.keep, true), (.keep, false)]⟩)], [[.int]]⟩)], loop := fun k => assoc0 k [], nil := fun k => assoc0 k [], unr := fun k => assocN k [], blk := fun k => assoc0 k [] })]
noncomputable def inode_Access_C (N : Nat) : Nat → List GS := fun k => tabOf k [(18, [inode_Check_g N]), (55, [slices_Contains_uint32_uint32_g N]), (56, [inode_grants_g N])]
def inode_Access_o : List (Shp × List Nat) := [(⟨[(0, (.av (.one (.int .u32))))], []⟩, [])]
noncomputable def inode_Access_g (N : Nat) : GS := { ins := ⟨[(0, (.av (.agg [(.one (.int .u64)), (.one (.int .u32)), (.one (.int .i64)), (.one (.int .u32)), (.one (.int .u32)), (.one (.int .u32)), (.one (.int .u32)), (.one (.int .u64)), (.one (.int .u64)), (.one (.int .u64)), (.one (.int .u64)), (.one (.int .u64)), (.one (.int .u64)), (.one .str)]))), (1, (.av (.one (.int .u32)))), (2, (.av (.one (.rsl (.int .u32))))), (3, (.av (.one (.int .u32))))], []⟩, lend := [.keep, .keep, .keep, .keep], outs := inode_Access_o.map fun s => ssOf s.1, its := [.int, .int, .int, .int, .int, .int, .int, .int, .int, .int, .int, .int, .int, .str, .int, .lst (.int .u32), .int], ots := [[.int]], F := inode_Access N }
noncomputable def inode_Access_CA (N : Nat) (f0 : Int × Int × Int × Int × Int × Int × Int × Int × Int × Int × Int × Int × Int × (List UInt8) → Option (Int)) (f1 : (List Int) × Int → Option (Bool)) (f2 : Int × Bool → Option (Int)) : Nat → List GS := fun k => tabOf k [(18, [{ inode_Check_g N with F := f0 }]), (55, [{ slices_Contains_uint32_uint32_g N with F := f1 }]), (56, [{ inode_grants_g N with F := f2 }])]
theorem inode_Access_CE (N : Nat) : inode_Access_CA N (inode_Check) (slices_Contains_uint32_uint32 N) (inode_grants) = inode_Access_C N := by kernel_rfl
theorem inode_Access_t (N : Nat) : TabC Try.prog (inode_Access_C N) := tab_ok ⟨⟨inode_Check_ok N, trivial⟩, ⟨slices_Contains_uint32_uint32_ok N, trivial⟩, ⟨inode_grants_ok N, trivial⟩, trivial⟩
theorem inode_Access_i : loopsOf inode_Access_c = [] := by kernel_rfl
noncomputable def inode_Access_a (N : Nat) (f0 : Int × Int × Int × Int × Int × Int × Int × Int × Int × Int × Int × Int × Int × (List UInt8) → Option (Int)) (f1 : (List Int) × Int → Option (Bool)) (f2 : Int × Bool → Option (Int)) (x : Int × Int × Int × Int × Int × Int × Int × Int × Int × Int × Int × Int × Int × (List UInt8) × Int × (List Int) × Int) : Option (Int) :=
  (Option.bind (f0 (x.1, x.2.1, x.2.2.1, x.2.2.2.1, x.2.2.2.2.1, x.2.2.2.2.2.1, x.2.2.2.2.2.2.1, x.2.2.2.2.2.2.2.1, x.2.2.2.2.2.2.2.2.1, x.2.2.2.2.2.2.2.2.2.1, x.2.2.2.2.2.2.2.2.2.2.1, x.2.2.2.2.2.2.2.2.2.2.2.1, x.2.2.2.2.2.2.2.2.2.2.2.2.1, x.2.2.2.2.2.2.2.2.2.2.2.2.2.1)) fun r1 =>
  (cond (!(decide (r1 = (0 : Int))))
  (some (0 : Int))
  (Option.bind
  (cond (decide (x.2.2.2.2.2.2.2.2.2.2.2.2.2.2.1 = (0 : Int)))
  (some (7 : Int))
  (Option.bind
  (cond (decide (x.2.2.2.2.2.2.2.2.2.2.2.2.2.2.1 = x.2.2.2.2.2.1))
  (some (shrF .u32 x.2.2.2.1 (6 : Int)))
  (let v6 : Int := (((List.length x.2.2.2.2.2.2.2.2.2.2.2.2.2.2.2.1) : Nat) : Int)
  (let v7 : Int := (if (16 : Int) < v6 then (16 : Int) else v6)
  (cond ((decide ((0 : Int) ≤ v7)) && (decide (v7 ≤ (((List.length x.2.2.2.2.2.2.2.2.2.2.2.2.2.2.2.1) : Nat) : Int))))
  ((Option.bind (f1 ((List.take (Int.toNat v7) (List.drop 0 x.2.2.2.2.2.2.2.2.2.2.2.2.2.2.2.1)), x.2.2.2.2.2.2.1)) fun r9 =>
  (Option.bind
  (cond r9
  (some (shrF .u32 x.2.2.2.1 (3 : Int)))
  (some x.2.2.2.1))
  fun r11 =>
  (some r11))))
  none))))
  fun r12 =>
  (some r12)))
  fun r13 =>
  (Option.bind (f2 ((andF .u32 r13 (7 : Int)), (decide (x.2.2.1 = (2 : Int))))) fun r16 =>
  (some (andF .u32 x.2.2.2.2.2.2.2.2.2.2.2.2.2.2.2.2 r16))))))
theorem inode_Access_f (N : Nat) (f0 : Int × Int × Int × Int × Int × Int × Int × Int × Int × Int × Int × Int × Int × (List UInt8) → Option (Int)) (f1 : (List Int) × Int → Option (Bool)) (f2 : Int × Bool → Option (Int)) (x) : inode_Access_a N f0 f1 f2 x = fnStep Γ (inode_Access_CA N f0 f1 f2) (inode_Access_J N) 44 Try.f22.results.toList (inode_Access_g N) inode_Access_o inode_Access_c x := by kernel_rfl
theorem inode_Access_e (N : Nat) (x) : (inode_Access_g N).F x = fnStep Γ (inode_Access_C N) (inode_Access_J N) 44 Try.f22.results.toList (inode_Access_g N) inode_Access_o inode_Access_c x := by
  rw [← inode_Access_CE N]
  exact Eq.trans (by kernel_rfl) (inode_Access_f N (inode_Check) (slices_Contains_uint32_uint32 N) (inode_grants) x)
theorem inode_Access_y : Try.f22.body = some inode_Access_c := by kernel_rfl
theorem inode_Access_n : (Try.f22.name == "runtime.NumGoroutine") = false := by kernel_rfl
theorem inode_Access_ok (N : Nat) : FnDoes Try.prog 22 (inode_Access_g N) := fn_ok tabOK (inode_Access_t N) mixedOK (J := inode_Access_J N) (body := inode_Access_c) Try.func22 inode_Access_y inode_Access_n Try.ntmps22 (jok_from inode_Access_i ⟨trivial, trivial⟩) rfl rfl (le_of_ble rfl) (inode_Access_e N)
noncomputable def inode_Access_v1_c : Code := codeOf Try.f22.body
noncomputable def inode_Access_v1_J (N : Nat) : Nat → Hint := fun cx => hintOf cx [(0, { reg := fun k => assoc0 k [], cnd := fun k => assoc0 k [(25, ⟨[], [], [(.normal, ⟨[(9, (.av (.one (.int .u32))))], [(.keep, true), (.keep, true), (.keep, true), (.keep, true), (.keep, true), (.keep, true), (.keep, true), (.keep, true), (.keep, true), (.keep, true), (.keep, true), (.keep, true), (.keep, true), (.keep, false)]⟩)], [[.int]]⟩), (18, ⟨[], [], [(.normal, ⟨[(9, (.av (.one (.int .u32))))], [(.keep, true), (.keep, true), (.keep, true), (.keep, true), (.keep, true), (.keep, true), (.keep, true), (.keep, true), (.keep, true), (.keep, true), (.keep, true), (.keep, true), (.keep, true), (.keep, false)]⟩)], [[.int]]⟩), (15, ⟨[], [], [(.normal, ⟨[(9, (.av (.one (.int .u32))))], [(.keep, true), (.keep, true), (.keep, true), (.keep, true), (.keep, true), (.keep, true), (.keep, true), (.keep, true), (.keep, true), (.keep, true), (.keep, true), (.keep, true), (.keep, true), (.keep, false)]⟩)], [[.int]]⟩)], loop := fun k => assoc0 k [], nil := fun k => assoc0 k [], unr := fun k => assocN k [], blk := fun k => assoc0 k [] })]
noncomputable def inode_Access_v1_C (N : Nat) : Nat → List GS := fun k => tabOf k [(18, [inode_Check_g N]), (55, [slices_Contains_uint32_uint32_g N]), (56, [inode_grants_g N])]
def inode_Access_v1_o : List (Shp × List Nat) := [(⟨[(0, (.av (.one (.int .u32))))], []⟩, [])]
noncomputable def inode_Access_v1_g (N : Nat) : GS := { ins := ⟨[(0, (.av (.agg [(.one (.int .u64)), (.one (.int .u32)), (.one (.int .i64)), (.one (.int .u32)), (.one (.int .u32)), (.one (.int .u32)), (.one (.int .u32)), (.one (.int .u64)), (.one (.int .u64)), (.one (.int .u64)), (.one (.int .u64)), (.one (.int .u64)), (.one (.int .u64)), (.one .str)]))), (1, (.av (.one (.int .u32)))), (2, (.av (.one (.rsl (.int .u32))))), (3, (.av (.one (.int .u32))))], []⟩, lend := [.keep, .keep, .lend (.int .u32), .keep], outs := inode_Access_v1_o.map fun s => ssOf s.1, its := [.int, .int, .int, .int, .int, .int, .int, .int, .int, .int, .int, .int, .int, .str, .int, .lst (.int .u32), .int], ots := [[.int]], F := inode_Access_v1 N }
noncomputable def inode_Access_v1_CA (N : Nat) (f0 : Int × Int × Int × Int × Int × Int × Int × Int × Int × Int × Int × Int × Int × (List UInt8) → Option (Int)) (f1 : (List Int) × Int → Option (Bool)) (f2 : Int × Bool → Option (Int)) : Nat → List GS := fun k => tabOf k [(18, [{ inode_Check_g N with F := f0 }]), (55, [{ slices_Contains_uint32_uint32_g N with F := f1 }]), (56, [{ inode_grants_g N with F := f2 }])]
theorem inode_Access_v1_CE (N : Nat) : inode_Access_v1_CA N (inode_Check) (slices_Contains_uint32_uint32 N) (inode_grants) = inode_Access_v1_C N := by kernel_rfl
theorem inode_Access_v1_t (N : Nat) : TabC Try.prog (inode_Access_v1_C N) := tab_ok ⟨⟨inode_Check_ok N, trivial⟩, ⟨slices_Contains_uint32_uint32_ok N, trivial⟩, ⟨inode_grants_ok N, trivial⟩, trivial⟩
theorem inode_Access_v1_i : loopsOf inode_Access_v1_c = [] := by kernel_rfl
noncomputable def inode_Access_v1_a (N : Nat) (f0 : Int × Int × Int × Int × Int × Int × Int × Int × Int × Int × Int × Int × Int × (List UInt8) → Option (Int)) (f1 : (List Int) × Int → Option (Bool)) (f2 : Int × Bool → Option (Int)) (x : Int × Int × Int × Int × Int × Int × Int × Int × Int × Int × Int × Int × Int × (List UInt8) × Int × (List Int) × Int) : Option (Int) :=
  (Option.bind (f0 (x.1, x.2.1, x.2.2.1, x.2.2.2.1, x.2.2.2.2.1, x.2.2.2.2.2.1, x.2.2.2.2.2.2.1, x.2.2.2.2.2.2.2.1, x.2.2.2.2.2.2.2.2.1, x.2.2.2.2.2.2.2.2.2.1, x.2.2.2.2.2.2.2.2.2.2.1, x.2.2.2.2.2.2.2.2.2.2.2.1, x.2.2.2.2.2.2.2.2.2.2.2.2.1, x.2.2.2.2.2.2.2.2.2.2.2.2.2.1)) fun r1 =>
  (cond (!(decide (r1 = (0 : Int))))
  (some (0 : Int))
  (Option.bind
  (cond (decide (x.2.2.2.2.2.2.2.2.2.2.2.2.2.2.1 = (0 : Int)))
  (some (7 : Int))
  (Option.bind
  (cond (decide (x.2.2.2.2.2.2.2.2.2.2.2.2.2.2.1 = x.2.2.2.2.2.1))
  (some (shrF .u32 x.2.2.2.1 (6 : Int)))
  (let v6 : Int := (((List.length x.2.2.2.2.2.2.2.2.2.2.2.2.2.2.2.1) : Nat) : Int)
  (let v7 : Int := (if (16 : Int) < v6 then (16 : Int) else v6)
  (cond ((decide ((0 : Int) ≤ v7)) && (decide (v7 ≤ (((List.length x.2.2.2.2.2.2.2.2.2.2.2.2.2.2.2.1) : Nat) : Int))))
  ((Option.bind (f1 ((List.take (Int.toNat v7) (List.drop 0 x.2.2.2.2.2.2.2.2.2.2.2.2.2.2.2.1)), x.2.2.2.2.2.2.1)) fun r9 =>
  (Option.bind
  (cond r9
  (some (shrF .u32 x.2.2.2.1 (3 : Int)))
  (some x.2.2.2.1))
  fun r11 =>
  (some r11))))
  none))))
  fun r12 =>
  (some r12)))
  fun r13 =>
  (Option.bind (f2 ((andF .u32 r13 (7 : Int)), (decide (x.2.2.1 = (2 : Int))))) fun r16 =>
  (some (andF .u32 x.2.2.2.2.2.2.2.2.2.2.2.2.2.2.2.2 r16))))))
theorem inode_Access_v1_f (N : Nat) (f0 : Int × Int × Int × Int × Int × Int × Int × Int × Int × Int × Int × Int × Int × (List UInt8) → Option (Int)) (f1 : (List Int) × Int → Option (Bool)) (f2 : Int × Bool → Option (Int)) (x) : inode_Access_v1_a N f0 f1 f2 x = fnStep Γ (inode_Access_v1_CA N f0 f1 f2) (inode_Access_v1_J N) 44 Try.f22.results.toList (inode_Access_v1_g N) inode_Access_v1_o inode_Access_v1_c x := by kernel_rfl
theorem inode_Access_v1_e (N : Nat) (x) : (inode_Access_v1_g N).F x = fnStep Γ (inode_Access_v1_C N) (inode_Access_v1_J N) 44 Try.f22.results.toList (inode_Access_v1_g N) inode_Access_v1_o inode_Access_v1_c x := by
  rw [← inode_Access_v1_CE N]
  exact Eq.trans (by kernel_rfl) (inode_Access_v1_f N (inode_Check) (slices_Contains_uint32_uint32 N) (inode_grants) x)
theorem inode_Access_v1_y : Try.f22.body = some inode_Access_v1_c := by kernel_rfl
theorem inode_Access_v1_n : (Try.f22.name == "runtime.NumGoroutine") = false := by kernel_rfl
theorem inode_Access_v1_ok (N : Nat) : FnDoes Try.prog 22 (inode_Access_v1_g N) := fn_ok tabOK (inode_Access_v1_t N) mixedOK (J := inode_Access_v1_J N) (body := inode_Access_v1_c) Try.func22 inode_Access_v1_y inode_Access_v1_n Try.ntmps22 (jok_from inode_Access_v1_i ⟨trivial, trivial⟩) rfl rfl (le_of_ble rfl) (inode_Access_v1_e N)
noncomputable def granarylaw12_live_c : Code := codeOf Try.f12.body
noncomputable def granarylaw12_live_J (N : Nat) : Nat → Hint := fun cx => hintOf cx [(0, { reg := fun k => assoc0 k [(9, ⟨⟨[(0, (.av (.one .bool)))], [(.keep, true), (.keep, true), (.keep, true), (.keep, true), (.keep, true), (.keep, true), (.keep, true), (.keep, true), (.keep, true), (.keep, true), (.keep, true), (.keep, true), (.keep, true), (.keep, false), (.keep, true), (.keep, true), (.keep, true), (.keep, true), (.keep, true), (.keep, true), (.keep, true), (.keep, true), (.keep, true), (.keep, true), (.keep, true), (.keep, true), (.keep, true), (.keep, false), (.keep, false), (.keep, true), (.keep, true), (.keep, true), (.keep, true), (.keep, true), (.keep, true), (.keep, true), (.keep, true), (.keep, true), (.keep, true), (.keep, true), (.keep, true), (.keep, true), (.keep, false), (.keep, true), (.keep, true), (.keep, true), (.keep, true), (.keep, true), (.keep, true), (.keep, true), (.keep, true), (.keep, true), (.keep, true), (.keep, true), (.keep, true), (.keep, true), (.keep, false), (.keep, true), (.keep, true), (.keep, true), (.keep, true), (.keep, true), (.keep, true), (.keep, true), (.keep, true), (.keep, true), (.keep, true), (.keep, true), (.keep, true), (.keep, true), (.keep, false), (.keep, false), (.keep, true), (.keep, true), (.keep, false)]⟩, [], [], [.bool]⟩)], cnd := fun k => assoc0 k [], loop := fun k => assoc0 k [], nil := fun k => assoc0 k [], unr := fun k => assocN k [], blk := fun k => assoc0 k [] })]
noncomputable def granarylaw12_live_C (N : Nat) : Nat → List GS := fun k => tabOf k [(28, [inode_New_g N]), (13, [inode_Put_g N]), (15, [inode_Get_g N]), (20, [inode_Apply_g N]), (24, [inode_PutHandle_g N]), (26, [inode_GetHandle_g N]), (17, [granarylaw12_num_g N]), (22, [inode_Access_g N, inode_Access_v1_g N])]
def granarylaw12_live_o : List (Shp × List Nat) := [(⟨[(0, (.av (.one .bool)))], []⟩, [])]
noncomputable def granarylaw12_live_g (N : Nat) : GS := { ins := ⟨[], []⟩, lend := [], outs := granarylaw12_live_o.map fun s => ssOf s.1, its := [], ots := [[.bool]], F := granarylaw12_live N }
noncomputable def granarylaw12_live_CA (N : Nat) (f0 : Int × Int × Int × Int × Int × Int × Int → Option (Int × Int × Int × Int × Int × Int × Int × Int × Int × Int × (List UInt8) × Int)) (f1 : Int × Int × Int × Int × Int × Int × Int × Int × Int × Int × Int × Int × Int × (List UInt8) → Option (Int × (List Int))) (f2 : (List Int) → Option (Int × Int × Int × Int × Int × Int × Int × Int × Int × Int × Int × Int × Int × (List UInt8) × Int)) (f3 : Int × Int × Int × Int × Int × Int × Int × Int × Int × Int × Int × Int × Int × (List UInt8) × Int × Int × Int × Int × Int × Int × Int × Int → Option (Int × Int × Int × Int × Int × Int × Int × Int × Int × Int × Int × Int × Int × (List UInt8) × Bool × Int)) (f4 : Int × Int × Int → Option (Int × (List Int))) (f5 : (List Int) → Option (Int × Int × Int × Int)) (f6 : Int → Option (Int)) (f7 : Int × Int × Int × Int × Int × Int × Int × Int × Int × Int × Int × Int × Int × (List UInt8) × Int × (List Int) × Int → Option (Int)) (f8 : Int × Int × Int × Int × Int × Int × Int × Int × Int × Int × Int × Int × Int × (List UInt8) × Int × (List Int) × Int → Option (Int)) : Nat → List GS := fun k => tabOf k [(28, [{ inode_New_g N with F := f0 }]), (13, [{ inode_Put_g N with F := f1 }]), (15, [{ inode_Get_g N with F := f2 }]), (20, [{ inode_Apply_g N with F := f3 }]), (24, [{ inode_PutHandle_g N with F := f4 }]), (26, [{ inode_GetHandle_g N with F := f5 }]), (17, [{ granarylaw12_num_g N with F := f6 }]), (22, [{ inode_Access_g N with F := f7 }, { inode_Access_v1_g N with F := f8 }])]
theorem granarylaw12_live_CE (N : Nat) : granarylaw12_live_CA N (inode_New) (inode_Put N) (inode_Get N) (inode_Apply) (inode_PutHandle N) (inode_GetHandle N) (granarylaw12_num) (inode_Access N) (inode_Access_v1 N) = granarylaw12_live_C N := by kernel_rfl
theorem granarylaw12_live_t (N : Nat) : TabC Try.prog (granarylaw12_live_C N) := tab_ok ⟨⟨inode_New_ok N, trivial⟩, ⟨inode_Put_ok N, trivial⟩, ⟨inode_Get_ok N, trivial⟩, ⟨inode_Apply_ok N, trivial⟩, ⟨inode_PutHandle_ok N, trivial⟩, ⟨inode_GetHandle_ok N, trivial⟩, ⟨granarylaw12_num_ok N, trivial⟩, ⟨inode_Access_ok N, inode_Access_v1_ok N, trivial⟩, trivial⟩
theorem granarylaw12_live_i : loopsOf granarylaw12_live_c = [] := by kernel_rfl
noncomputable def granarylaw12_live_a (N : Nat) (f0 : Int × Int × Int × Int × Int × Int × Int → Option (Int × Int × Int × Int × Int × Int × Int × Int × Int × Int × (List UInt8) × Int)) (f1 : Int × Int × Int × Int × Int × Int × Int × Int × Int × Int × Int × Int × Int × (List UInt8) → Option (Int × (List Int))) (f2 : (List Int) → Option (Int × Int × Int × Int × Int × Int × Int × Int × Int × Int × Int × Int × Int × (List UInt8) × Int)) (f3 : Int × Int × Int × Int × Int × Int × Int × Int × Int × Int × Int × Int × Int × (List UInt8) × Int × Int × Int × Int × Int × Int × Int × Int → Option (Int × Int × Int × Int × Int × Int × Int × Int × Int × Int × Int × Int × Int × (List UInt8) × Bool × Int)) (f4 : Int × Int × Int → Option (Int × (List Int))) (f5 : (List Int) → Option (Int × Int × Int × Int)) (f6 : Int → Option (Int)) (f7 : Int × Int × Int × Int × Int × Int × Int × Int × Int × Int × Int × Int × Int × (List UInt8) × Int × (List Int) × Int → Option (Int)) (f8 : Int × Int × Int × Int × Int × Int × Int × Int × Int × Int × Int × Int × Int × (List UInt8) × Int × (List Int) × Int → Option (Int)) (x : Unit) : Option (Bool) :=
  (Option.bind (f0 ((7 : Int), (1 : Int), (2 : Int), (16877 : Int), (0 : Int), (0 : Int), (5 : Int))) fun r1 =>
  (Option.bind (f0 ((8 : Int), (1 : Int), (1 : Int), (416 : Int), (1 : Int), (2 : Int), (5 : Int))) fun r3 =>
  (Option.bind (f1 (r3.1, r3.2.1, r3.2.2.1, r3.2.2.2.1, r3.2.2.2.2.1, r3.2.2.2.2.2.1, r3.2.2.2.2.2.2.1, (0 : Int), (0 : Int), r3.2.2.2.2.2.2.2.1, r3.2.2.2.2.2.2.2.2.1, r3.2.2.2.2.2.2.2.2.2.1, (0 : Int), r3.2.2.2.2.2.2.2.2.2.2.1)) fun r5 =>
  (Option.bind (f2 r5.2) fun r6 =>
  (Option.bind (f3 (r3.1, r3.2.1, r3.2.2.1, r3.2.2.2.1, r3.2.2.2.2.1, r3.2.2.2.2.2.1, r3.2.2.2.2.2.2.1, (0 : Int), (0 : Int), r3.2.2.2.2.2.2.2.1, r3.2.2.2.2.2.2.2.2.1, r3.2.2.2.2.2.2.2.2.2.1, (0 : Int), r3.2.2.2.2.2.2.2.2.2.2.1, (8 : Int), (0 : Int), (0 : Int), (0 : Int), (9 : Int), (0 : Int), (0 : Int), (6 : Int))) fun r8 =>
  (Option.bind (f3 (r1.1, r1.2.1, r1.2.2.1, r1.2.2.2.1, r1.2.2.2.2.1, r1.2.2.2.2.2.1, r1.2.2.2.2.2.2.1, (0 : Int), (0 : Int), r1.2.2.2.2.2.2.2.1, r1.2.2.2.2.2.2.2.2.1, r1.2.2.2.2.2.2.2.2.2.1, (0 : Int), r1.2.2.2.2.2.2.2.2.2.2.1, (8 : Int), (0 : Int), (0 : Int), (0 : Int), (9 : Int), (0 : Int), (0 : Int), (6 : Int))) fun r10 =>
  (Option.bind (f4 ((0 : Int), (8 : Int), (1 : Int))) fun r12 =>
  (Option.bind (f5 r12.2) fun r13 =>
  (Option.bind
  (Option.bind (f6 r1.2.2.2.2.2.2.2.2.2.2.2) fun r14 =>
  (cond (decide (r14 = (0 : Int)))
  (Option.bind (f6 r3.2.2.2.2.2.2.2.2.2.2.2) fun r16 =>
  (cond (decide (r16 = (0 : Int)))
  (cond (decide (r1.2.2.2.1 = (493 : Int)))
  (cond (decide (r1.2.2.2.2.1 = (2 : Int)))
  (Option.bind (f6 r5.1) fun r20 =>
  (cond (decide (r20 = (0 : Int)))
  (cond (decide ((((List.length r5.2) : Nat) : Int) = (84 : Int)))
  (Option.bind (f6 r6.2.2.2.2.2.2.2.2.2.2.2.2.2.2) fun r24 =>
  (cond (decide (r24 = (0 : Int)))
  (cond ((decide (r6.1 = r3.1)) && ((decide (r6.2.1 = r3.2.1)) && ((decide (r6.2.2.1 = r3.2.2.1)) && ((decide (r6.2.2.2.1 = r3.2.2.2.1)) && ((decide (r6.2.2.2.2.1 = r3.2.2.2.2.1)) && ((decide (r6.2.2.2.2.2.1 = r3.2.2.2.2.2.1)) && ((decide (r6.2.2.2.2.2.2.1 = r3.2.2.2.2.2.2.1)) && ((decide (r6.2.2.2.2.2.2.2.1 = (0 : Int))) && ((decide (r6.2.2.2.2.2.2.2.2.1 = (0 : Int))) && ((decide (r6.2.2.2.2.2.2.2.2.2.1 = r3.2.2.2.2.2.2.2.1)) && ((decide (r6.2.2.2.2.2.2.2.2.2.2.1 = r3.2.2.2.2.2.2.2.2.1)) && ((decide (r6.2.2.2.2.2.2.2.2.2.2.2.1 = r3.2.2.2.2.2.2.2.2.2.1)) && ((decide (r6.2.2.2.2.2.2.2.2.2.2.2.2.1 = (0 : Int))) && ((decide (r6.2.2.2.2.2.2.2.2.2.2.2.2.2.1 = r3.2.2.2.2.2.2.2.2.2.2.1)) && true))))))))))))))
  (cond (decide (r8.2.2.2.2.2.2.2.1 = (9 : Int)))
  (cond (decide (r8.2.2.2.2.2.2.2.2.2.2.1 = (6 : Int)))
  (cond r8.2.2.2.2.2.2.2.2.2.2.2.2.2.2.1
  (Option.bind (f6 r8.2.2.2.2.2.2.2.2.2.2.2.2.2.2.2) fun r29 =>
  (cond (decide (r29 = (0 : Int)))
  (Option.bind (f6 r10.2.2.2.2.2.2.2.2.2.2.2.2.2.2.2) fun r31 =>
  (cond (decide (r31 = (122 : Int)))
  (Option.bind (f6 r12.1) fun r33 =>
  (cond (decide (r33 = (0 : Int)))
  (Option.bind (f6 r13.2.2.2) fun r35 =>
  (cond (decide (r35 = (0 : Int)))
  (cond (decide (r13.2.1 = (8 : Int)))
  (cond (decide ((((List.length r12.2) : Nat) : Int) = (20 : Int)))
  (Option.bind (f7 (r3.1, r3.2.1, r3.2.2.1, r3.2.2.2.1, r3.2.2.2.2.1, r3.2.2.2.2.2.1, r3.2.2.2.2.2.2.1, (0 : Int), (0 : Int), r3.2.2.2.2.2.2.2.1, r3.2.2.2.2.2.2.2.2.1, r3.2.2.2.2.2.2.2.2.2.1, (0 : Int), r3.2.2.2.2.2.2.2.2.2.2.1, (1 : Int), ([] : List Int), (63 : Int))) fun r40 =>
  (cond (decide (r40 = (13 : Int)))
  (let v42 : List Int := ([(2 : Int)] : List Int)
  (cond (cond (decide (1 ≤ (List.length v42))) true false)
  (Option.bind (f8 (r3.1, r3.2.1, r3.2.2.1, r3.2.2.2.1, r3.2.2.2.2.1, r3.2.2.2.2.2.1, r3.2.2.2.2.2.2.1, (0 : Int), (0 : Int), r3.2.2.2.2.2.2.2.1, r3.2.2.2.2.2.2.2.2.1, r3.2.2.2.2.2.2.2.2.2.1, (0 : Int), r3.2.2.2.2.2.2.2.2.2.2.1, (3 : Int), (List.take 1 (List.drop 0 v42)), (63 : Int))) fun r43 =>
  (some (decide (r43 = (1 : Int)))))
  none))
  (some false)))
  (some false))
  (some false))
  (some false)))
  (some false)))
  (some false)))
  (some false)))
  (some false))
  (some false))
  (some false))
  (some false))
  (some false)))
  (some false))
  (some false)))
  (some false))
  (some false))
  (some false)))
  (some false)))
  fun r45 =>
  (some r45))))))))))
theorem granarylaw12_live_f (N : Nat) (f0 : Int × Int × Int × Int × Int × Int × Int → Option (Int × Int × Int × Int × Int × Int × Int × Int × Int × Int × (List UInt8) × Int)) (f1 : Int × Int × Int × Int × Int × Int × Int × Int × Int × Int × Int × Int × Int × (List UInt8) → Option (Int × (List Int))) (f2 : (List Int) → Option (Int × Int × Int × Int × Int × Int × Int × Int × Int × Int × Int × Int × Int × (List UInt8) × Int)) (f3 : Int × Int × Int × Int × Int × Int × Int × Int × Int × Int × Int × Int × Int × (List UInt8) × Int × Int × Int × Int × Int × Int × Int × Int → Option (Int × Int × Int × Int × Int × Int × Int × Int × Int × Int × Int × Int × Int × (List UInt8) × Bool × Int)) (f4 : Int × Int × Int → Option (Int × (List Int))) (f5 : (List Int) → Option (Int × Int × Int × Int)) (f6 : Int → Option (Int)) (f7 : Int × Int × Int × Int × Int × Int × Int × Int × Int × Int × Int × Int × Int × (List UInt8) × Int × (List Int) × Int → Option (Int)) (f8 : Int × Int × Int × Int × Int × Int × Int × Int × Int × Int × Int × Int × Int × (List UInt8) × Int × (List Int) × Int → Option (Int)) (x) : granarylaw12_live_a N f0 f1 f2 f3 f4 f5 f6 f7 f8 x = fnStep Γ (granarylaw12_live_CA N f0 f1 f2 f3 f4 f5 f6 f7 f8) (granarylaw12_live_J N) 153 Try.f12.results.toList (granarylaw12_live_g N) granarylaw12_live_o granarylaw12_live_c x := by kernel_rfl
theorem granarylaw12_live_e (N : Nat) (x) : (granarylaw12_live_g N).F x = fnStep Γ (granarylaw12_live_C N) (granarylaw12_live_J N) 153 Try.f12.results.toList (granarylaw12_live_g N) granarylaw12_live_o granarylaw12_live_c x := by
  rw [← granarylaw12_live_CE N]
  exact Eq.trans (by kernel_rfl) (granarylaw12_live_f N (inode_New) (inode_Put N) (inode_Get N) (inode_Apply) (inode_PutHandle N) (inode_GetHandle N) (granarylaw12_num) (inode_Access N) (inode_Access_v1 N) x)
theorem granarylaw12_live_y : Try.f12.body = some granarylaw12_live_c := by kernel_rfl
theorem granarylaw12_live_n : (Try.f12.name == "runtime.NumGoroutine") = false := by kernel_rfl
theorem granarylaw12_live_ok (N : Nat) : FnDoes Try.prog 12 (granarylaw12_live_g N) := fn_ok tabOK (granarylaw12_live_t N) mixedOK (J := granarylaw12_live_J N) (body := granarylaw12_live_c) Try.func12 granarylaw12_live_y granarylaw12_live_n Try.ntmps12 (jok_from granarylaw12_live_i ⟨trivial, trivial⟩) rfl rfl (le_of_ble rfl) (granarylaw12_live_e N)
noncomputable def granaryref12_Check_c : Code := codeOf Try.f19.body
noncomputable def granaryref12_Check_J (N : Nat) : Nat → Hint := fun cx => hintOf cx [(0, { reg := fun k => assoc0 k [(1, ⟨⟨[(3, (.av (.one .bool)))], [(.keep, true), (.keep, true), (.keep, true), (.keep, true), (.keep, true), (.keep, true), (.keep, true), (.keep, true), (.keep, true), (.keep, true), (.keep, true), (.keep, true), (.keep, true), (.keep, false)]⟩, [], [], [.bool]⟩), (9, ⟨⟨[(45, (.av (.one .bool)))], [(.keep, true), (.keep, true), (.keep, true), (.keep, true), (.keep, true), (.keep, true), (.keep, true), (.keep, true), (.keep, true), (.keep, true), (.keep, true), (.keep, true), (.keep, true), (.keep, false)]⟩, [], [], [.bool]⟩), (11, ⟨⟨[(54, (.av (.one .bool)))], [(.keep, true), (.keep, true), (.keep, true), (.keep, true), (.keep, true), (.keep, true), (.keep, true), (.keep, true), (.keep, true), (.keep, true), (.keep, true), (.keep, true), (.keep, true), (.keep, false)]⟩, [], [], [.bool]⟩)], cnd := fun k => assoc0 k [], loop := fun k => assoc0 k [], nil := fun k => assoc0 k [], unr := fun k => assocN k [], blk := fun k => assoc0 k [] })]
noncomputable def granaryref12_Check_C (N : Nat) : Nat → List GS := fun k => tabOf k []
def granaryref12_Check_o : List (Shp × List Nat) := [(⟨[(0, (.av (.one (.int .i64))))], []⟩, [])]
noncomputable def granaryref12_Check_g (N : Nat) : GS := { ins := ⟨[(0, (.av (.agg [(.one (.int .u64)), (.one (.int .u32)), (.one (.int .i64)), (.one (.int .u32)), (.one (.int .u32)), (.one (.int .u32)), (.one (.int .u32)), (.one (.int .u64)), (.one (.int .u64)), (.one (.int .u64)), (.one (.int .u64)), (.one (.int .u64)), (.one (.int .u64)), (.one .str)])))], []⟩, lend := [.keep], outs := granaryref12_Check_o.map fun s => ssOf s.1, its := [.int, .int, .int, .int, .int, .int, .int, .int, .int, .int, .int, .int, .int, .str], ots := [[.int]], F := granaryref12_Check }
theorem granaryref12_Check_t (N : Nat) : TabC Try.prog (granaryref12_Check_C N) := tab_ok trivial
theorem granaryref12_Check_i : loopsOf granaryref12_Check_c = [] := by kernel_rfl
theorem granaryref12_Check_e (N : Nat) (x) : (granaryref12_Check_g N).F x = fnStep Γ (granaryref12_Check_C N) (granaryref12_Check_J N) 82 Try.f19.results.toList (granaryref12_Check_g N) granaryref12_Check_o granaryref12_Check_c x := by kernel_rfl
theorem granaryref12_Check_y : Try.f19.body = some granaryref12_Check_c := by kernel_rfl
theorem granaryref12_Check_n : (Try.f19.name == "runtime.NumGoroutine") = false := by kernel_rfl
theorem granaryref12_Check_ok (N : Nat) : FnDoes Try.prog 19 (granaryref12_Check_g N) := fn_ok tabOK (granaryref12_Check_t N) mixedOK (J := granaryref12_Check_J N) (body := granaryref12_Check_c) Try.func19 granaryref12_Check_y granaryref12_Check_n Try.ntmps19 (jok_from granaryref12_Check_i ⟨trivial, trivial⟩) rfl rfl (le_of_ble rfl) (granaryref12_Check_e N)
noncomputable def granaryref12_has_c : Code := codeOf Try.f54.body
noncomputable def granaryref12_has_J (N : Nat) : Nat → Hint := fun cx => hintOf cx []
noncomputable def granaryref12_has_C (N : Nat) : Nat → List GS := fun k => tabOf k []
def granaryref12_has_o : List (Shp × List Nat) := [(⟨[(0, (.av (.one .bool)))], []⟩, [])]
noncomputable def granaryref12_has_g (N : Nat) : GS := { ins := ⟨[(0, (.av (.one (.int .i64)))), (1, (.av (.one (.int .i64))))], []⟩, lend := [.keep, .keep], outs := granaryref12_has_o.map fun s => ssOf s.1, its := [.int, .int], ots := [[.bool]], F := granaryref12_has }
theorem granaryref12_has_t (N : Nat) : TabC Try.prog (granaryref12_has_C N) := tab_ok trivial
theorem granaryref12_has_i : loopsOf granaryref12_has_c = [] := by kernel_rfl
theorem granaryref12_has_e (N : Nat) (x) : (granaryref12_has_g N).F x = fnStep Γ (granaryref12_has_C N) (granaryref12_has_J N) 10 Try.f54.results.toList (granaryref12_has_g N) granaryref12_has_o granaryref12_has_c x := by kernel_rfl
theorem granaryref12_has_y : Try.f54.body = some granaryref12_has_c := by kernel_rfl
theorem granaryref12_has_n : (Try.f54.name == "runtime.NumGoroutine") = false := by kernel_rfl
theorem granaryref12_has_ok (N : Nat) : FnDoes Try.prog 54 (granaryref12_has_g N) := fn_ok tabOK (granaryref12_has_t N) mixedOK (J := granaryref12_has_J N) (body := granaryref12_has_c) Try.func54 granaryref12_has_y granaryref12_has_n Try.ntmps54 (jok_from granaryref12_has_i trivial) rfl rfl (le_of_ble rfl) (granaryref12_has_e N)
end Go.Rf.W
