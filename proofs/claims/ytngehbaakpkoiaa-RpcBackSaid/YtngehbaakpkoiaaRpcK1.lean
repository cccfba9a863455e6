/-
  The printed functions are what the program does.
-/
import Derived.Test.YtngehbaakpkoiaaRpcK0
set_option linter.unusedVariables false
set_option maxRecDepth 100000
namespace Go.Rf.W
open Go Go.Rf Go.Proofs
noncomputable def rpc_getGid_c : Code := codeOf Try.f69.body
noncomputable def rpc_getGid_J (N : Nat) : Nat → Hint := fun cx => hintOf cx []
noncomputable def rpc_getGid_C (N : Nat) : Nat → List GS := fun k => tabOf k [(46, [xdr_Reader_Uint_g N])]
def rpc_getGid_o : List (Shp × List Nat) := [(⟨[(0, (.av (.one (.int .u32))))], [(.sh (.one (.const (.slw 4 1))), true), (.sh (.one (.int .i64)), true), (.sh (.one (.int .i64)), true), (.sh (.one (.int .i64)), false), (.sh (.arr (.int .u8) none), false)]⟩, [])]
noncomputable def rpc_getGid_g (N : Nat) : GS := { ins := ⟨[(0, (.av (.one (.const (.ptr ⟨0, 0, 0, 0⟩)))))], [(some (.one (.const (.slw 4 1))), true), (some (.one (.int .i64)), true), (some (.one (.int .i64)), true), (some (.one (.int .i64)), false), (some (.arr (.int .u8) none), false)]⟩, lend := [.keep], outs := rpc_getGid_o.map fun s => ssOf s.1, its := [.int, .int, .int, .lst (.int .u8)], ots := [[.int, .int, .int, .int, .lst (.int .u8)]], F := rpc_getGid N }
noncomputable def rpc_getGid_CA (N : Nat) (f0 : Int × Int × Int × (List Int) → Option (Int × Int × Int × Int × (List Int))) : Nat → List GS := fun k => tabOf k [(46, [{ xdr_Reader_Uint_g N with F := f0 }])]
theorem rpc_getGid_CE (N : Nat) : rpc_getGid_CA N (xdr_Reader_Uint N) = rpc_getGid_C N := by kernel_rfl
theorem rpc_getGid_t (N : Nat) : TabC Try.prog (rpc_getGid_C N) := tab_ok ⟨⟨xdr_Reader_Uint_ok N, trivial⟩, trivial⟩
theorem rpc_getGid_i : loopsOf rpc_getGid_c = [] := by kernel_rfl
noncomputable def rpc_getGid_a (N : Nat) (f0 : Int × Int × Int × (List Int) → Option (Int × Int × Int × Int × (List Int))) (x : Int × Int × Int × (List Int)) : Option (Int × Int × Int × Int × (List Int)) :=
  (Option.bind (f0 (x.1, x.2.1, x.2.2.1, x.2.2.2)) fun r1 =>
  (some (r1.1, r1.2.1, r1.2.2.1, r1.2.2.2.1, r1.2.2.2.2)))
theorem rpc_getGid_f (N : Nat) (f0 : Int × Int × Int × (List Int) → Option (Int × Int × Int × Int × (List Int))) (x) : rpc_getGid_a N f0 x = fnStep Γ (rpc_getGid_CA N f0) (rpc_getGid_J N) 5 Try.f69.results.toList (rpc_getGid_g N) rpc_getGid_o rpc_getGid_c x := by kernel_rfl
theorem rpc_getGid_e (N : Nat) (x) : (rpc_getGid_g N).F x = fnStep Γ (rpc_getGid_C N) (rpc_getGid_J N) 5 Try.f69.results.toList (rpc_getGid_g N) rpc_getGid_o rpc_getGid_c x := by
  rw [← rpc_getGid_CE N]
  exact Eq.trans (by kernel_rfl) (rpc_getGid_f N (xdr_Reader_Uint N) x)
theorem rpc_getGid_y : Try.f69.body = some rpc_getGid_c := by kernel_rfl
theorem rpc_getGid_n : (Try.f69.name == "runtime.NumGoroutine") = false := by kernel_rfl
theorem rpc_getGid_ok (N : Nat) : FnDoes Try.prog 69 (rpc_getGid_g N) := fn_ok tabOK (rpc_getGid_t N) mixedOK (J := rpc_getGid_J N) (body := rpc_getGid_c) Try.func69 rpc_getGid_y rpc_getGid_n Try.ntmps69 (jok_from rpc_getGid_i trivial) rfl rfl (le_of_ble rfl) (rpc_getGid_e N)
noncomputable def xdr_List_uint32_c : Code := codeOf Try.f68.body
noncomputable def xdr_List_uint32_c0 : Code := codeOf (getLoop 0 xdr_List_uint32_c)
def xdr_List_uint32_d0 : LD := { ins := ⟨[(0, (.av (.one (.const (.ptr ⟨0, 0, 0, 0⟩))))), (2, (.av (.one (.const (.fn 69 []))))), (7, (.av (.one (.const (.slw 5 1))))), (12, (.av (.one (.int .i64)))), (13, (.av (.one (.int .i64))))], [(.sh (.one (.const (.slw 4 1))), true), (.sh (.one (.int .i64)), true), (.sh (.one (.int .i64)), true), (.sh (.one (.int .i64)), false), (.sh (.arr (.int .u8) none), false), (.sh (.arr (.int .u32) none), false)]⟩, mov := [5], wr := [0, 1, 2, 3, 4], outs := [(.exit 0, ⟨[(7, (.av (.one (.const (.slw 6 1)))))], [(.sh (.one (.const (.slw 4 1))), true), (.sh (.one (.int .i64)), true), (.sh (.one (.int .i64)), true), (.sh (.one (.int .i64)), false), (.sh (.arr (.int .u8) none), false), (.dead, false), (.sh (.arr (.int .u32) none), false)]⟩)], its := [.int, .int, .int, .int, .int, .lst (.int .u8), .lst (.int .u32)], ots := [[.int, .int, .int, .lst (.int .u8), .lst (.int .u32)]] }
noncomputable def xdr_List_uint32_J (N : Nat) : Nat → Hint := fun cx => hintOf cx [(0, { reg := fun k => assoc0 k [], cnd := fun k => assoc0 k [], loop := fun k => assoc0 k [(0, ⟨xdr_List_uint32_d0, loopF (xdr_List_uint32_b0 N) N⟩)], nil := fun k => assoc0 k [], unr := fun k => assocN k [], blk := fun k => assoc0 k [] })]
noncomputable def xdr_List_uint32_C (N : Nat) : Nat → List GS := fun k => tabOf k [(88, [xdr_Reader_length_g N]), (89, [xdr_Reader_bad_g N]), (69, [rpc_getGid_g N])]
def xdr_List_uint32_o : List (Shp × List Nat) := [(⟨[(0, (.av (.one (.const (.slw 5 1)))))], [(.sh (.one (.const (.slw 4 1))), true), (.sh (.one (.int .i64)), true), (.sh (.one (.int .i64)), true), (.sh (.one (.int .i64)), false), (.sh (.arr (.int .u8) none), false), (.sh (.arr (.int .u32) none), false)]⟩, [])]
noncomputable def xdr_List_uint32_g (N : Nat) : GS := { ins := ⟨[(0, (.av (.one (.const (.ptr ⟨0, 0, 0, 0⟩))))), (1, (.av (.one (.int .i64)))), (2, (.av (.one (.const (.fn 69 [])))))], [(some (.one (.const (.slw 4 1))), true), (some (.one (.int .i64)), true), (some (.one (.int .i64)), true), (some (.one (.int .i64)), false), (some (.arr (.int .u8) none), false)]⟩, lend := [.keep, .keep, .keep], outs := xdr_List_uint32_o.map fun s => ssOf s.1, its := [.int, .int, .int, .int, .lst (.int .u8)], ots := [[.int, .int, .int, .lst (.int .u8), .lst (.int .u32)]], F := xdr_List_uint32 N }
noncomputable def xdr_List_uint32_CA (N : Nat) (f0 : Int × Int × Int × Int × (List Int) → Option (Int × Int × Int × Int × (List Int))) (f1 : Int × Int × Int × (List Int) → Option (Bool × Int × Int × Int × (List Int))) (f2 : Int × Int × Int × (List Int) → Option (Int × Int × Int × Int × (List Int))) : Nat → List GS := fun k => tabOf k [(88, [{ xdr_Reader_length_g N with F := f0 }]), (89, [{ xdr_Reader_bad_g N with F := f1 }]), (69, [{ rpc_getGid_g N with F := f2 }])]
theorem xdr_List_uint32_CE (N : Nat) : xdr_List_uint32_CA N (xdr_Reader_length N) (xdr_Reader_bad) (rpc_getGid N) = xdr_List_uint32_C N := by kernel_rfl
theorem xdr_List_uint32_t (N : Nat) : TabC Try.prog (xdr_List_uint32_C N) := tab_ok ⟨⟨xdr_Reader_length_ok N, trivial⟩, ⟨xdr_Reader_bad_ok N, trivial⟩, ⟨rpc_getGid_ok N, trivial⟩, trivial⟩
theorem xdr_List_uint32_i0 : loopsOf xdr_List_uint32_c0 = [] := by kernel_rfl
noncomputable def xdr_List_uint32_a0 (N : Nat) (f0 : Int × Int × Int × Int × (List Int) → Option (Int × Int × Int × Int × (List Int))) (f1 : Int × Int × Int × (List Int) → Option (Bool × Int × Int × Int × (List Int))) (f2 : Int × Int × Int × (List Int) → Option (Int × Int × Int × Int × (List Int))) (next : Int × Int × Int × Int × Int × (List Int) × (List Int) → Option ((Int × Int × Int × (List Int) × (List Int)))) (x : Int × Int × Int × Int × Int × (List Int) × (List Int)) : Option ((Int × Int × Int × (List Int) × (List Int))) :=
  (cond (decide (x.2.1 < x.1))
  (Option.bind (f1 (x.2.2.1, x.2.2.2.1, x.2.2.2.2.1, x.2.2.2.2.2.1)) fun r2 =>
  (cond r2.1
  (some (r2.2.1, r2.2.2.1, r2.2.2.2.1, r2.2.2.2.2, x.2.2.2.2.2.2))
  (Option.bind (f2 (r2.2.1, r2.2.2.1, r2.2.2.2.1, r2.2.2.2.2)) fun r3 =>
  (let v4 : List Int := ([r3.1] : List Int)
  (cond ((decide (1 ≤ (List.length v4))) && (fits 4 ((List.length x.2.2.2.2.2.2) + (List.length (List.take 1 (List.drop 0 v4))))))
  ((next (x.1, (wrapF .i64 (x.2.1 + (1 : Int))), r3.2.1, r3.2.2.1, r3.2.2.2.1, r3.2.2.2.2, (x.2.2.2.2.2.2 ++ (List.take 1 (List.drop 0 v4))))))
  none)))))
  (some (x.2.2.1, x.2.2.2.1, x.2.2.2.2.1, x.2.2.2.2.2.1, x.2.2.2.2.2.2)))
theorem xdr_List_uint32_f0 (N : Nat) (f0 : Int × Int × Int × Int × (List Int) → Option (Int × Int × Int × Int × (List Int))) (f1 : Int × Int × Int × (List Int) → Option (Bool × Int × Int × Int × (List Int))) (f2 : Int × Int × Int × (List Int) → Option (Int × Int × Int × Int × (List Int))) (next) (x) : xdr_List_uint32_a0 N f0 f1 f2 next x = loopStep Γ (xdr_List_uint32_CA N f0 f1 f2) (xdr_List_uint32_J N) 0 27 xdr_List_uint32_d0 xdr_List_uint32_c0 next x := by kernel_rfl
theorem xdr_List_uint32_e0 (N : Nat) (next) (x) : xdr_List_uint32_b0 N next x = loopStep Γ (xdr_List_uint32_C N) (xdr_List_uint32_J N) 0 27 xdr_List_uint32_d0 xdr_List_uint32_c0 next x := by
  rw [← xdr_List_uint32_CE N]
  exact Eq.trans (by kernel_rfl) (xdr_List_uint32_f0 N (xdr_Reader_length N) (xdr_Reader_bad) (rpc_getGid N) next x)
theorem xdr_List_uint32_k0 (N : Nat) : LoopOK Try.prog 27 xdr_List_uint32_c0 ⟨xdr_List_uint32_d0, loopF (xdr_List_uint32_b0 N) N⟩ := loop_ok tabOK (xdr_List_uint32_t N) mixedOK (J := xdr_List_uint32_J N) (cx := 0) (body := xdr_List_uint32_c0) (nt := 27) (l := xdr_List_uint32_d0) (b := xdr_List_uint32_b0 N) (jok_from xdr_List_uint32_i0 ⟨trivial, trivial⟩) (xdr_List_uint32_e0 N) N
theorem xdr_List_uint32_i : loopsOf xdr_List_uint32_c = [(0, xdr_List_uint32_c0)] := by kernel_rfl
noncomputable def xdr_List_uint32_a (N : Nat) (f0 : Int × Int × Int × Int × (List Int) → Option (Int × Int × Int × Int × (List Int))) (f1 : Int × Int × Int × (List Int) → Option (Bool × Int × Int × Int × (List Int))) (f2 : Int × Int × Int × (List Int) → Option (Int × Int × Int × Int × (List Int))) (x : Int × Int × Int × Int × (List Int)) : Option (Int × Int × Int × (List Int) × (List Int)) :=
  (Option.bind (f0 (x.1, x.2.1, x.2.2.1, x.2.2.2.1, x.2.2.2.2)) fun r1 =>
  (Option.bind (xdr_List_uint32_l0 N (r1.1, (0 : Int), r1.2.1, r1.2.2.1, r1.2.2.2.1, r1.2.2.2.2, ([] : List Int))) fun r2 =>
  (Option.bind (f1 (r2.1, r2.2.1, r2.2.2.1, r2.2.2.2.1)) fun r3 =>
  (cond r3.1
  (some (r3.2.1, r3.2.2.1, r3.2.2.2.1, r3.2.2.2.2, ([] : List Int)))
  (some (r3.2.1, r3.2.2.1, r3.2.2.2.1, r3.2.2.2.2, r2.2.2.2.2))))))
theorem xdr_List_uint32_f (N : Nat) (f0 : Int × Int × Int × Int × (List Int) → Option (Int × Int × Int × Int × (List Int))) (f1 : Int × Int × Int × (List Int) → Option (Bool × Int × Int × Int × (List Int))) (f2 : Int × Int × Int × (List Int) → Option (Int × Int × Int × Int × (List Int))) (x) : xdr_List_uint32_a N f0 f1 f2 x = fnStep Γ (xdr_List_uint32_CA N f0 f1 f2) (xdr_List_uint32_J N) 27 Try.f68.results.toList (xdr_List_uint32_g N) xdr_List_uint32_o xdr_List_uint32_c x := by kernel_rfl
theorem xdr_List_uint32_e (N : Nat) (x) : (xdr_List_uint32_g N).F x = fnStep Γ (xdr_List_uint32_C N) (xdr_List_uint32_J N) 27 Try.f68.results.toList (xdr_List_uint32_g N) xdr_List_uint32_o xdr_List_uint32_c x := by
  rw [← xdr_List_uint32_CE N]
  exact Eq.trans (by kernel_rfl) (xdr_List_uint32_f N (xdr_Reader_length N) (xdr_Reader_bad) (rpc_getGid N) x)
theorem xdr_List_uint32_y : Try.f68.body = some xdr_List_uint32_c := by kernel_rfl
theorem xdr_List_uint32_n : (Try.f68.name == "runtime.NumGoroutine") = false := by kernel_rfl
theorem xdr_List_uint32_ok (N : Nat) : FnDoes Try.prog 68 (xdr_List_uint32_g N) := fn_ok tabOK (xdr_List_uint32_t N) mixedOK (J := xdr_List_uint32_J N) (body := xdr_List_uint32_c) Try.func68 xdr_List_uint32_y xdr_List_uint32_n Try.ntmps68 (jok_from xdr_List_uint32_i ⟨⟨.inr ⟨_, rfl, xdr_List_uint32_k0 N⟩, trivial⟩, trivial⟩) rfl rfl (le_of_ble rfl) (xdr_List_uint32_e N)
noncomputable def xdr_Reader_Done_c : Code := codeOf Try.f70.body
noncomputable def xdr_Reader_Done_J (N : Nat) : Nat → Hint := fun cx => hintOf cx [(0, { reg := fun k => assoc0 k [(3, ⟨⟨[(6, (.av (.one .bool)))], [(.keep, true), (.keep, true), (.keep, true), (.keep, false), (.keep, false)]⟩, [], [], [.bool]⟩)], cnd := fun k => assoc0 k [], loop := fun k => assoc0 k [], nil := fun k => assoc0 k [], unr := fun k => assocN k [], blk := fun k => assoc0 k [] })]
noncomputable def xdr_Reader_Done_C (N : Nat) : Nat → List GS := fun k => tabOf k []
def xdr_Reader_Done_o : List (Shp × List Nat) := [(⟨[(0, (.av (.one (.int .i64))))], [(.sh (.one (.const (.slw 4 1))), true), (.sh (.one (.int .i64)), true), (.sh (.one (.int .i64)), true), (.sh (.one (.int .i64)), false), (.sh (.arr (.int .u8) none), false)]⟩, [])]
noncomputable def xdr_Reader_Done_g (N : Nat) : GS := { ins := ⟨[(0, (.av (.one (.const (.ptr ⟨0, 0, 0, 0⟩)))))], [(some (.one (.const (.slw 4 1))), true), (some (.one (.int .i64)), true), (some (.one (.int .i64)), true), (some (.one (.int .i64)), false), (some (.arr (.int .u8) none), false)]⟩, lend := [.keep], outs := xdr_Reader_Done_o.map fun s => ssOf s.1, its := [.int, .int, .int, .lst (.int .u8)], ots := [[.int, .int, .int, .int, .lst (.int .u8)]], F := xdr_Reader_Done }
theorem xdr_Reader_Done_t (N : Nat) : TabC Try.prog (xdr_Reader_Done_C N) := tab_ok trivial
theorem xdr_Reader_Done_i : loopsOf xdr_Reader_Done_c = [] := by kernel_rfl
theorem xdr_Reader_Done_e (N : Nat) (x) : (xdr_Reader_Done_g N).F x = fnStep Γ (xdr_Reader_Done_C N) (xdr_Reader_Done_J N) 28 Try.f70.results.toList (xdr_Reader_Done_g N) xdr_Reader_Done_o xdr_Reader_Done_c x := by kernel_rfl
theorem xdr_Reader_Done_y : Try.f70.body = some xdr_Reader_Done_c := by kernel_rfl
theorem xdr_Reader_Done_n : (Try.f70.name == "runtime.NumGoroutine") = false := by kernel_rfl
theorem xdr_Reader_Done_ok (N : Nat) : FnDoes Try.prog 70 (xdr_Reader_Done_g N) := fn_ok tabOK (xdr_Reader_Done_t N) mixedOK (J := xdr_Reader_Done_J N) (body := xdr_Reader_Done_c) Try.func70 xdr_Reader_Done_y xdr_Reader_Done_n Try.ntmps70 (jok_from xdr_Reader_Done_i ⟨trivial, trivial⟩) rfl rfl (le_of_ble rfl) (xdr_Reader_Done_e N)
noncomputable def rpc_GetCred_c : Code := codeOf Try.f34.body
noncomputable def rpc_GetCred_J (N : Nat) : Nat → Hint := fun cx => hintOf cx []
noncomputable def rpc_GetCred_C (N : Nat) : Nat → List GS := fun k => tabOf k [(45, [xdr_NewReader_g N]), (46, [xdr_Reader_Uint_g N]), (67, [xdr_Reader_Text_g N]), (68, [xdr_List_uint32_g N]), (70, [xdr_Reader_Done_g N])]
def rpc_GetCred_o : List (Shp × List Nat) := [(⟨[(0, (.tup [(.agg [(.one (.int .u32)), (.one (.int .u32)), (.one .str), (.one (.int .u32)), (.one (.int .u32)), (.one (.const (.slw 0 1)))]), (.one (.int .u32))]))], [(.sh (.arr (.int .u32) none), false)]⟩, [])]
noncomputable def rpc_GetCred_g (N : Nat) : GS := { ins := ⟨[(0, (.av (.agg [(.one (.int .u32)), (.one (.rsl (.int .u8)))])))], []⟩, lend := [.agg [none, some (.int .u8)]], outs := rpc_GetCred_o.map fun s => ssOf s.1, its := [.int, .lst (.int .u8)], ots := [[.int, .int, .str, .int, .int, .int, .lst (.int .u32)]], F := rpc_GetCred N }
noncomputable def rpc_GetCred_CA (N : Nat) (f0 : (List Int) → Option ((List Int))) (f1 : Int × Int × Int × (List Int) → Option (Int × Int × Int × Int × (List Int))) (f2 : Int × Int × Int × Int × (List Int) → Option ((List UInt8) × Int × Int × Int × (List Int))) (f3 : Int × Int × Int × Int × (List Int) → Option (Int × Int × Int × (List Int) × (List Int))) (f4 : Int × Int × Int × (List Int) → Option (Int × Int × Int × Int × (List Int))) : Nat → List GS := fun k => tabOf k [(45, [{ xdr_NewReader_g N with F := f0 }]), (46, [{ xdr_Reader_Uint_g N with F := f1 }]), (67, [{ xdr_Reader_Text_g N with F := f2 }]), (68, [{ xdr_List_uint32_g N with F := f3 }]), (70, [{ xdr_Reader_Done_g N with F := f4 }])]
theorem rpc_GetCred_CE (N : Nat) : rpc_GetCred_CA N (xdr_NewReader) (xdr_Reader_Uint N) (xdr_Reader_Text N) (xdr_List_uint32 N) (xdr_Reader_Done) = rpc_GetCred_C N := by kernel_rfl
theorem rpc_GetCred_t (N : Nat) : TabC Try.prog (rpc_GetCred_C N) := tab_ok ⟨⟨xdr_NewReader_ok N, trivial⟩, ⟨xdr_Reader_Uint_ok N, trivial⟩, ⟨xdr_Reader_Text_ok N, trivial⟩, ⟨xdr_List_uint32_ok N, trivial⟩, ⟨xdr_Reader_Done_ok N, trivial⟩, trivial⟩
theorem rpc_GetCred_i : loopsOf rpc_GetCred_c = [] := by kernel_rfl
noncomputable def rpc_GetCred_a (N : Nat) (f0 : (List Int) → Option ((List Int))) (f1 : Int × Int × Int × (List Int) → Option (Int × Int × Int × Int × (List Int))) (f2 : Int × Int × Int × Int × (List Int) → Option ((List UInt8) × Int × Int × Int × (List Int))) (f3 : Int × Int × Int × Int × (List Int) → Option (Int × Int × Int × (List Int) × (List Int))) (f4 : Int × Int × Int × (List Int) → Option (Int × Int × Int × Int × (List Int))) (x : Int × (List Int)) : Option (Int × Int × (List UInt8) × Int × Int × Int × (List Int)) :=
  (cond (decide (x.1 = (0 : Int)))
  (cond (decide ((0 : Int) < (((List.length x.2) : Nat) : Int)))
  (some ((0 : Int), (0 : Int), ([] : List UInt8), (0 : Int), (0 : Int), (1 : Int), ([] : List Int)))
  (some ((0 : Int), (0 : Int), ([] : List UInt8), (0 : Int), (0 : Int), (0 : Int), ([] : List Int))))
  (cond (decide (x.1 = (1 : Int)))
  (Option.bind (f0 x.2) fun r8 =>
  (Option.bind (f1 ((0 : Int), (0 : Int), (0 : Int), r8)) fun r9 =>
  (Option.bind (f2 ((64 : Int), r9.2.1, r9.2.2.1, r9.2.2.2.1, r9.2.2.2.2)) fun r10 =>
  (Option.bind (f1 (r10.2.1, r10.2.2.1, r10.2.2.2.1, r10.2.2.2.2)) fun r11 =>
  (Option.bind (f1 (r11.2.1, r11.2.2.1, r11.2.2.2.1, r11.2.2.2.2)) fun r12 =>
  (Option.bind (f3 ((16 : Int), r12.2.1, r12.2.2.1, r12.2.2.2.1, r12.2.2.2.2)) fun r13 =>
  (Option.bind (f4 (r13.1, r13.2.1, r13.2.2.1, r13.2.2.2.1)) fun r15 =>
  (cond (!(decide (r15.1 = (0 : Int))))
  (some ((0 : Int), (0 : Int), ([] : List UInt8), (0 : Int), (0 : Int), (1 : Int), ([] : List Int)))
  (some ((1 : Int), r9.1, r10.1, r11.1, r12.1, (0 : Int), r13.2.2.2.2))))))))))
  (some ((0 : Int), (0 : Int), ([] : List UInt8), (0 : Int), (0 : Int), (2 : Int), ([] : List Int)))))
theorem rpc_GetCred_f (N : Nat) (f0 : (List Int) → Option ((List Int))) (f1 : Int × Int × Int × (List Int) → Option (Int × Int × Int × Int × (List Int))) (f2 : Int × Int × Int × Int × (List Int) → Option ((List UInt8) × Int × Int × Int × (List Int))) (f3 : Int × Int × Int × Int × (List Int) → Option (Int × Int × Int × (List Int) × (List Int))) (f4 : Int × Int × Int × (List Int) → Option (Int × Int × Int × Int × (List Int))) (x) : rpc_GetCred_a N f0 f1 f2 f3 f4 x = fnStep Γ (rpc_GetCred_CA N f0 f1 f2 f3 f4) (rpc_GetCred_J N) 38 Try.f34.results.toList (rpc_GetCred_g N) rpc_GetCred_o rpc_GetCred_c x := by kernel_rfl
theorem rpc_GetCred_e (N : Nat) (x) : (rpc_GetCred_g N).F x = fnStep Γ (rpc_GetCred_C N) (rpc_GetCred_J N) 38 Try.f34.results.toList (rpc_GetCred_g N) rpc_GetCred_o rpc_GetCred_c x := by
  rw [← rpc_GetCred_CE N]
  exact Eq.trans (by kernel_rfl) (rpc_GetCred_f N (xdr_NewReader) (xdr_Reader_Uint N) (xdr_Reader_Text N) (xdr_List_uint32 N) (xdr_Reader_Done) x)
theorem rpc_GetCred_y : Try.f34.body = some rpc_GetCred_c := by kernel_rfl
theorem rpc_GetCred_n : (Try.f34.name == "runtime.NumGoroutine") = false := by kernel_rfl
theorem rpc_GetCred_ok (N : Nat) : FnDoes Try.prog 34 (rpc_GetCred_g N) := fn_ok tabOK (rpc_GetCred_t N) mixedOK (J := rpc_GetCred_J N) (body := rpc_GetCred_c) Try.func34 rpc_GetCred_y rpc_GetCred_n Try.ntmps34 (jok_from rpc_GetCred_i trivial) rfl rfl (le_of_ble rfl) (rpc_GetCred_e N)
noncomputable def xdr_Reader_Left_c : Code := codeOf Try.f81.body
noncomputable def xdr_Reader_Left_J (N : Nat) : Nat → Hint := fun cx => hintOf cx []
noncomputable def xdr_Reader_Left_C (N : Nat) : Nat → List GS := fun k => tabOf k []
def xdr_Reader_Left_o : List (Shp × List Nat) := [(⟨[(0, (.av (.one (.int .i64))))], [(.sh (.one (.const (.slw 4 1))), true), (.sh (.one (.int .i64)), true), (.sh (.one (.int .i64)), true), (.sh (.one (.int .i64)), false), (.sh (.arr (.int .u8) none), false)]⟩, [])]
noncomputable def xdr_Reader_Left_g (N : Nat) : GS := { ins := ⟨[(0, (.av (.one (.const (.ptr ⟨0, 0, 0, 0⟩)))))], [(some (.one (.const (.slw 4 1))), true), (some (.one (.int .i64)), true), (some (.one (.int .i64)), true), (some (.one (.int .i64)), false), (some (.arr (.int .u8) none), false)]⟩, lend := [.keep], outs := xdr_Reader_Left_o.map fun s => ssOf s.1, its := [.int, .int, .int, .lst (.int .u8)], ots := [[.int, .int, .int, .int, .lst (.int .u8)]], F := xdr_Reader_Left }
theorem xdr_Reader_Left_t (N : Nat) : TabC Try.prog (xdr_Reader_Left_C N) := tab_ok trivial
theorem xdr_Reader_Left_i : loopsOf xdr_Reader_Left_c = [] := by kernel_rfl
theorem xdr_Reader_Left_e (N : Nat) (x) : (xdr_Reader_Left_g N).F x = fnStep Γ (xdr_Reader_Left_C N) (xdr_Reader_Left_J N) 15 Try.f81.results.toList (xdr_Reader_Left_g N) xdr_Reader_Left_o xdr_Reader_Left_c x := by kernel_rfl
theorem xdr_Reader_Left_y : Try.f81.body = some xdr_Reader_Left_c := by kernel_rfl
theorem xdr_Reader_Left_n : (Try.f81.name == "runtime.NumGoroutine") = false := by kernel_rfl
theorem xdr_Reader_Left_ok (N : Nat) : FnDoes Try.prog 81 (xdr_Reader_Left_g N) := fn_ok tabOK (xdr_Reader_Left_t N) mixedOK (J := xdr_Reader_Left_J N) (body := xdr_Reader_Left_c) Try.func81 xdr_Reader_Left_y xdr_Reader_Left_n Try.ntmps81 (jok_from xdr_Reader_Left_i trivial) rfl rfl (le_of_ble rfl) (xdr_Reader_Left_e N)
noncomputable def rpc_rest_c : Code := codeOf Try.f49.body
noncomputable def rpc_rest_J (N : Nat) : Nat → Hint := fun cx => hintOf cx []
noncomputable def rpc_rest_C (N : Nat) : Nat → List GS := fun k => tabOf k [(81, [xdr_Reader_Left_g N]), (78, [xdr_Reader_At_g N]), (76, [slices_Clone_byte_byte_v1_g N])]
def rpc_rest_o : List (Shp × List Nat) := [(⟨[(0, (.av (.one (.const (.slw 5 1)))))], [(.sh (.one (.const (.slw 4 1))), true), (.sh (.one (.int .i64)), true), (.sh (.one (.int .i64)), true), (.sh (.one (.int .i64)), false), (.sh (.arr (.int .u8) none), false), (.sh (.arr (.int .u8) none), false)]⟩, [])]
noncomputable def rpc_rest_g (N : Nat) : GS := { ins := ⟨[(0, (.av (.one (.const (.ptr ⟨0, 0, 0, 0⟩))))), (1, (.av (.one (.rsl (.int .u8)))))], [(some (.one (.const (.slw 4 1))), true), (some (.one (.int .i64)), true), (some (.one (.int .i64)), true), (some (.one (.int .i64)), false), (some (.arr (.int .u8) none), false)]⟩, lend := [.keep, .keep], outs := rpc_rest_o.map fun s => ssOf s.1, its := [.lst (.int .u8), .int, .int, .int, .lst (.int .u8)], ots := [[.int, .int, .int, .lst (.int .u8), .lst (.int .u8)]], F := rpc_rest }
noncomputable def rpc_rest_CA (N : Nat) (f0 : Int × Int × Int × (List Int) → Option (Int × Int × Int × Int × (List Int))) (f1 : Int × Int × Int × (List Int) → Option (Int × Int × Int × Int × (List Int))) (f2 : (List Int) → Option ((List Int))) : Nat → List GS := fun k => tabOf k [(81, [{ xdr_Reader_Left_g N with F := f0 }]), (78, [{ xdr_Reader_At_g N with F := f1 }]), (76, [{ slices_Clone_byte_byte_v1_g N with F := f2 }])]
theorem rpc_rest_CE (N : Nat) : rpc_rest_CA N (xdr_Reader_Left) (xdr_Reader_At) (slices_Clone_byte_byte_v1) = rpc_rest_C N := by kernel_rfl
theorem rpc_rest_t (N : Nat) : TabC Try.prog (rpc_rest_C N) := tab_ok ⟨⟨xdr_Reader_Left_ok N, trivial⟩, ⟨xdr_Reader_At_ok N, trivial⟩, ⟨slices_Clone_byte_byte_v1_ok N, trivial⟩, trivial⟩
theorem rpc_rest_i : loopsOf rpc_rest_c = [] := by kernel_rfl
noncomputable def rpc_rest_a (N : Nat) (f0 : Int × Int × Int × (List Int) → Option (Int × Int × Int × Int × (List Int))) (f1 : Int × Int × Int × (List Int) → Option (Int × Int × Int × Int × (List Int))) (f2 : (List Int) → Option ((List Int))) (x : (List Int) × Int × Int × Int × (List Int)) : Option (Int × Int × Int × (List Int) × (List Int)) :=
  (Option.bind (f0 (x.2.1, x.2.2.1, x.2.2.2.1, x.2.2.2.2)) fun r1 =>
  (cond (decide (r1.1 = (0 : Int)))
  (some (r1.2.1, r1.2.2.1, r1.2.2.2.1, r1.2.2.2.2, ([] : List Int)))
  (Option.bind (f1 (r1.2.1, r1.2.2.1, r1.2.2.2.1, r1.2.2.2.2)) fun r3 =>
  (cond (((decide ((0 : Int) ≤ r3.1)) && (decide (r3.1 ≤ (((List.length x.1) : Nat) : Int)))) && (decide ((((List.length x.1) : Nat) : Int) ≤ (((List.length x.1) : Nat) : Int))))
  ((Option.bind (f2 (List.take ((List.length x.1) - (Int.toNat r3.1)) (List.drop (Int.toNat r3.1) x.1))) fun r5 =>
  (some (r3.2.1, r3.2.2.1, r3.2.2.2.1, r3.2.2.2.2, r5))))
  none))))
theorem rpc_rest_f (N : Nat) (f0 : Int × Int × Int × (List Int) → Option (Int × Int × Int × Int × (List Int))) (f1 : Int × Int × Int × (List Int) → Option (Int × Int × Int × Int × (List Int))) (f2 : (List Int) → Option ((List Int))) (x) : rpc_rest_a N f0 f1 f2 x = fnStep Γ (rpc_rest_CA N f0 f1 f2) (rpc_rest_J N) 13 Try.f49.results.toList (rpc_rest_g N) rpc_rest_o rpc_rest_c x := by kernel_rfl
theorem rpc_rest_e (N : Nat) (x) : (rpc_rest_g N).F x = fnStep Γ (rpc_rest_C N) (rpc_rest_J N) 13 Try.f49.results.toList (rpc_rest_g N) rpc_rest_o rpc_rest_c x := by
  rw [← rpc_rest_CE N]
  exact Eq.trans (by kernel_rfl) (rpc_rest_f N (xdr_Reader_Left) (xdr_Reader_At) (slices_Clone_byte_byte_v1) x)
theorem rpc_rest_y : Try.f49.body = some rpc_rest_c := by kernel_rfl
theorem rpc_rest_n : (Try.f49.name == "runtime.NumGoroutine") = false := by kernel_rfl
theorem rpc_rest_ok (N : Nat) : FnDoes Try.prog 49 (rpc_rest_g N) := fn_ok tabOK (rpc_rest_t N) mixedOK (J := rpc_rest_J N) (body := rpc_rest_c) Try.func49 rpc_rest_y rpc_rest_n Try.ntmps49 (jok_from rpc_rest_i trivial) rfl rfl (le_of_ble rfl) (rpc_rest_e N)
noncomputable def rpc_Classify_c : Code := codeOf Try.f15.body
noncomputable def rpc_Classify_J (N : Nat) : Nat → Hint := fun cx => hintOf cx [(0, { reg := fun k => assoc0 k [(5, ⟨⟨[(44, (.av (.one .bool)))], [(.keep, true), (.keep, true), (.keep, true), (.keep, true), (.keep, true), (.keep, true), (.keep, true), (.keep, true), (.keep, true), (.keep, true), (.keep, true), (.keep, true), (.keep, true), (.keep, true), (.keep, true), (.keep, true), (.keep, true), (.keep, true), (.keep, true), (.keep, true), (.keep, true), (.keep, true), (.keep, false), (.keep, true), (.keep, true), (.keep, true), (.keep, false), (.keep, false), (.keep, true), (.keep, true), (.keep, true), (.keep, true), (.keep, true), (.keep, false)]⟩, [], [], [.bool]⟩), (21, ⟨⟨[(107, (.av (.one .bool)))], [(.keep, true), (.keep, true), (.keep, true), (.keep, true), (.keep, true), (.keep, true), (.keep, true), (.keep, true), (.keep, true), (.keep, true), (.keep, true), (.keep, true), (.keep, true), (.keep, true), (.keep, true), (.keep, true), (.keep, true), (.keep, true), (.keep, true), (.keep, true), (.keep, true), (.keep, true), (.keep, false), (.keep, true), (.keep, true), (.keep, true), (.keep, false), (.keep, false), (.keep, true), (.keep, true), (.keep, true), (.keep, true), (.keep, true), (.keep, false), (.keep, true), (.keep, true), (.keep, true), (.keep, true), (.keep, true), (.keep, true), (.keep, true), (.keep, true), (.keep, true), (.keep, false), (.keep, false), (.keep, false), (.keep, true), (.keep, true), (.keep, true), (.keep, true), (.keep, true), (.keep, false), (.keep, false)]⟩, [], [], [.bool]⟩)], cnd := fun k => assoc0 k [(107, ⟨[], [], [(.normal, ⟨[(12, (.av (.one (.int .u32))))], [(.keep, true), (.keep, true), (.keep, true), (.keep, true), (.keep, true), (.keep, true), (.keep, true), (.keep, true), (.keep, true), (.keep, true), (.keep, true), (.keep, true), (.keep, true), (.keep, true), (.keep, true), (.keep, true), (.keep, true), (.keep, true), (.keep, true), (.keep, true), (.keep, true), (.keep, true), (.keep, false), (.keep, true), (.keep, true), (.keep, true), (.keep, false), (.keep, false), (.keep, true), (.keep, true), (.keep, true), (.keep, true), (.keep, true), (.keep, false), (.keep, true), (.keep, true), (.keep, true), (.keep, true), (.keep, true), (.keep, true), (.keep, true), (.keep, true), (.keep, true), (.keep, false), (.keep, false), (.keep, false), (.keep, true), (.keep, true), (.keep, true), (.keep, true), (.keep, true), (.keep, false), (.keep, false)]⟩)], [[.int]]⟩), (84, ⟨[], [23, 24, 25, 26, 27, 41, 42], [(.normal, ⟨[(12, (.av (.one (.int .u32))))], [(.keep, true), (.keep, true), (.keep, true), (.keep, true), (.keep, true), (.keep, true), (.keep, true), (.keep, true), (.keep, true), (.keep, true), (.keep, true), (.keep, true), (.keep, true), (.keep, true), (.keep, true), (.keep, true), (.keep, true), (.keep, true), (.keep, true), (.keep, true), (.keep, true), (.keep, true), (.keep, false), (.sh (.one (.const (.slw 27 1))), true), (.sh (.one (.int .i64)), true), (.sh (.one (.int .i64)), true), (.sh (.one (.int .i64)), false), (.sh (.arr (.int .u8) none), false), (.keep, true), (.keep, true), (.keep, true), (.keep, true), (.keep, true), (.keep, false), (.keep, true), (.keep, true), (.keep, true), (.keep, true), (.keep, true), (.keep, true), (.keep, true), (.sh (.one (.int .u32)), true), (.sh (.one (.const (.slw 52 1))), true), (.keep, false), (.keep, false), (.keep, false), (.keep, true), (.keep, true), (.keep, true), (.keep, true), (.keep, true), (.keep, false), (.sh (.arr (.int .u8) none), false)]⟩)], [[.int, .int, .int, .int, .lst (.int .u8), .int, .lst (.int .u8)]]⟩), (118, ⟨[], [], [(.normal, ⟨[(15, (.av (.one (.int .u32))))], [(.keep, true), (.keep, true), (.keep, true), (.keep, true), (.keep, true), (.keep, true), (.keep, true), (.keep, true), (.keep, true), (.keep, true), (.keep, true), (.keep, true), (.keep, true), (.keep, true), (.keep, true), (.keep, true), (.keep, true), (.keep, true), (.keep, true), (.keep, true), (.keep, true), (.keep, true), (.keep, false), (.keep, true), (.keep, true), (.keep, true), (.keep, false), (.keep, false), (.keep, true), (.keep, true), (.keep, true), (.keep, true), (.keep, true), (.keep, false), (.keep, true), (.keep, true), (.keep, true), (.keep, true), (.keep, true), (.keep, true), (.keep, true), (.keep, true), (.keep, true), (.keep, false), (.keep, false), (.keep, false), (.keep, true), (.keep, true), (.keep, true), (.keep, true), (.keep, true), (.keep, false), (.keep, false)]⟩)], [[.int]]⟩), (116, ⟨[], [], [(.normal, ⟨[(15, (.av (.one (.int .u32))))], [(.keep, true), (.keep, true), (.keep, true), (.keep, true), (.keep, true), (.keep, true), (.keep, true), (.keep, true), (.keep, true), (.keep, true), (.keep, true), (.keep, true), (.keep, true), (.keep, true), (.keep, true), (.keep, true), (.keep, true), (.keep, true), (.keep, true), (.keep, true), (.keep, true), (.keep, true), (.keep, false), (.keep, true), (.keep, true), (.keep, true), (.keep, false), (.keep, false), (.keep, true), (.keep, true), (.keep, true), (.keep, true), (.keep, true), (.keep, false), (.keep, true), (.keep, true), (.keep, true), (.keep, true), (.keep, true), (.keep, true), (.keep, true), (.keep, true), (.keep, true), (.keep, false), (.keep, false), (.keep, false), (.keep, true), (.keep, true), (.keep, true), (.keep, true), (.keep, true), (.keep, false), (.keep, false)]⟩)], [[.int]]⟩), (132, ⟨[], [29], [(.normal, ⟨[], [(.keep, true), (.keep, true), (.keep, true), (.keep, true), (.keep, true), (.keep, true), (.keep, true), (.keep, true), (.keep, true), (.keep, true), (.keep, true), (.keep, true), (.keep, true), (.keep, true), (.keep, true), (.keep, true), (.keep, true), (.keep, true), (.keep, true), (.keep, true), (.keep, true), (.keep, true), (.keep, false), (.keep, true), (.keep, true), (.keep, true), (.keep, false), (.keep, false), (.keep, true), (.sh (.one (.int .i64)), true), (.keep, true), (.keep, true), (.keep, true), (.keep, false), (.keep, true), (.keep, true), (.keep, true), (.keep, true), (.keep, true), (.keep, true), (.keep, true), (.keep, true), (.keep, true), (.keep, false), (.keep, false), (.keep, false), (.keep, true), (.keep, true), (.keep, true), (.keep, true), (.keep, true), (.keep, false), (.keep, false)]⟩)], [[.int]]⟩), (125, ⟨[], [29, 30, 31], [(.normal, ⟨[], [(.keep, true), (.keep, true), (.keep, true), (.keep, true), (.keep, true), (.keep, true), (.keep, true), (.keep, true), (.keep, true), (.keep, true), (.keep, true), (.keep, true), (.keep, true), (.keep, true), (.keep, true), (.keep, true), (.keep, true), (.keep, true), (.keep, true), (.keep, true), (.keep, true), (.keep, true), (.keep, false), (.keep, true), (.keep, true), (.keep, true), (.keep, false), (.keep, false), (.keep, true), (.sh (.one (.int .i64)), true), (.sh (.one (.int .u32)), true), (.sh (.one (.int .u32)), true), (.keep, true), (.keep, false), (.keep, true), (.keep, true), (.keep, true), (.keep, true), (.keep, true), (.keep, true), (.keep, true), (.keep, true), (.keep, true), (.keep, false), (.keep, false), (.keep, false), (.keep, true), (.keep, true), (.keep, true), (.keep, true), (.keep, true), (.keep, false), (.keep, false)]⟩)], [[.int, .int, .int]]⟩), (121, ⟨[], [29, 30, 31], [(.normal, ⟨[], [(.keep, true), (.keep, true), (.keep, true), (.keep, true), (.keep, true), (.keep, true), (.keep, true), (.keep, true), (.keep, true), (.keep, true), (.keep, true), (.keep, true), (.keep, true), (.keep, true), (.keep, true), (.keep, true), (.keep, true), (.keep, true), (.keep, true), (.keep, true), (.keep, true), (.keep, true), (.keep, false), (.keep, true), (.keep, true), (.keep, true), (.keep, false), (.keep, false), (.keep, true), (.sh (.one (.int .i64)), true), (.sh (.one (.int .u32)), true), (.sh (.one (.int .u32)), true), (.keep, true), (.keep, false), (.keep, true), (.keep, true), (.keep, true), (.keep, true), (.keep, true), (.keep, true), (.keep, true), (.keep, true), (.keep, true), (.keep, false), (.keep, false), (.keep, false), (.keep, true), (.keep, true), (.keep, true), (.keep, true), (.keep, true), (.keep, false), (.keep, false)]⟩)], [[.int, .int, .int]]⟩)], loop := fun k => assoc0 k [], nil := fun k => assoc0 k [], unr := fun k => assocN k [], blk := fun k => assoc0 k [] })]
noncomputable def rpc_Classify_C (N : Nat) : Nat → List GS := fun k => tabOf k [(45, [xdr_NewReader_g N]), (46, [xdr_Reader_Uint_g N]), (47, [rpc_getAuth_g N]), (48, [xdr_Reader_Why_g N]), (34, [rpc_GetCred_g N]), (49, [rpc_rest_g N])]
def rpc_Classify_o : List (Shp × List Nat) := [(⟨[(0, (.av (.agg [(.one (.int .i64)), (.one (.int .u32)), (.one (.int .i64)), (.one (.int .u32)), (.one (.int .u32)), (.one (.int .u32)), (.one (.const .nils)), (.one (.int .u32)), (.one (.int .u32)), (.one (.int .u32)), (.one (.int .u32)), (.one (.int .u32)), (.one (.int .u32)), (.one (.const (.slw 0 1))), (.one (.int .u32)), (.one (.const (.slw 1 1))), (.one (.const (.slw 2 1))), (.one (.int .u32)), (.one (.int .u32)), (.one .str), (.one (.int .u32)), (.one (.int .u32)), (.one (.const (.slw 3 1)))])))], [(.sh (.arr (.int .u8) none), false), (.sh (.arr (.int .u8) none), false), (.sh (.arr (.int .u8) none), false), (.sh (.arr (.int .u32) none), false)]⟩, [])]
noncomputable def rpc_Classify_g (N : Nat) : GS := { ins := ⟨[(0, (.av (.one (.rsl (.int .u8)))))], []⟩, lend := [.lend (.int .u8)], outs := rpc_Classify_o.map fun s => ssOf s.1, its := [.lst (.int .u8)], ots := [((.int : LK) :: (.int : LK) :: (.int : LK) :: (.int : LK) :: (.int : LK) :: (.int : LK) :: (.int : LK) :: (.int : LK) :: (.int : LK) :: (.int : LK) :: (.int : LK) :: (.int : LK) :: (.int : LK) :: (.int : LK) :: (.int : LK) :: (.str : LK) :: (.int : LK) :: (.int : LK) :: (.lst (.int .u8) : LK) :: (.lst (.int .u8) : LK) :: (.lst (.int .u8) : LK) :: (.lst (.int .u32) : LK) :: [])], F := rpc_Classify N }
noncomputable def rpc_Classify_CA (N : Nat) (f0 : (List Int) → Option ((List Int))) (f1 : Int × Int × Int × (List Int) → Option (Int × Int × Int × Int × (List Int))) (f2 : Int × Int × Int × (List Int) → Option (Int × Int × Int × Int × (List Int) × (List Int))) (f3 : Int × Int × Int × (List Int) → Option (Int × Int × Int × Int × Int × (List Int))) (f4 : Int × (List Int) → Option (Int × Int × (List UInt8) × Int × Int × Int × (List Int))) (f5 : (List Int) × Int × Int × Int × (List Int) → Option (Int × Int × Int × (List Int) × (List Int))) : Nat → List GS := fun k => tabOf k [(45, [{ xdr_NewReader_g N with F := f0 }]), (46, [{ xdr_Reader_Uint_g N with F := f1 }]), (47, [{ rpc_getAuth_g N with F := f2 }]), (48, [{ xdr_Reader_Why_g N with F := f3 }]), (34, [{ rpc_GetCred_g N with F := f4 }]), (49, [{ rpc_rest_g N with F := f5 }])]
theorem rpc_Classify_CE (N : Nat) : rpc_Classify_CA N (xdr_NewReader) (xdr_Reader_Uint N) (rpc_getAuth N) (xdr_Reader_Why) (rpc_GetCred N) (rpc_rest) = rpc_Classify_C N := by kernel_rfl
theorem rpc_Classify_t (N : Nat) : TabC Try.prog (rpc_Classify_C N) := tab_ok ⟨⟨xdr_NewReader_ok N, trivial⟩, ⟨xdr_Reader_Uint_ok N, trivial⟩, ⟨rpc_getAuth_ok N, trivial⟩, ⟨xdr_Reader_Why_ok N, trivial⟩, ⟨rpc_GetCred_ok N, trivial⟩, ⟨rpc_rest_ok N, trivial⟩, trivial⟩
theorem rpc_Classify_i : loopsOf rpc_Classify_c = [] := by kernel_rfl
noncomputable def rpc_Classify_a (N : Nat) (f0 : (List Int) → Option ((List Int))) (f1 : Int × Int × Int × (List Int) → Option (Int × Int × Int × Int × (List Int))) (f2 : Int × Int × Int × (List Int) → Option (Int × Int × Int × Int × (List Int) × (List Int))) (f3 : Int × Int × Int × (List Int) → Option (Int × Int × Int × Int × Int × (List Int))) (f4 : Int × (List Int) → Option (Int × Int × (List UInt8) × Int × Int × Int × (List Int))) (f5 : (List Int) × Int × Int × Int × (List Int) → Option (Int × Int × Int × (List Int) × (List Int))) (x : (List Int)) : Option (Int × Int × Int × Int × Int × Int × Int × Int × Int × Int × Int × Int × Int × Int × Int × (List UInt8) × Int × Int × (List Int) × (List Int) × (List Int) × (List Int)) :=
  (Option.bind (f0 x) fun r2 =>
  (Option.bind (f1 ((0 : Int), (0 : Int), (0 : Int), r2)) fun r3 =>
  (Option.bind (f1 (r3.2.1, r3.2.2.1, r3.2.2.2.1, r3.2.2.2.2)) fun r4 =>
  (Option.bind (f1 (r4.2.1, r4.2.2.1, r4.2.2.2.1, r4.2.2.2.2)) fun r5 =>
  (let v6 : Int := (((List.length x) : Nat) : Int)
  (Option.bind
  (cond (decide (v6 < (8 : Int)))
  (some true)
  (cond (!(decide (r4.1 = (0 : Int))))
  (some true)
  (cond (decide (v6 < (24 : Int)))
  (cond (decide (r5.1 = (2 : Int)))
  (some true)
  (some (decide (v6 < (12 : Int)))))
  (some false))))
  fun r12 =>
  (cond r12
  (some ((0 : Int), (0 : Int), (0 : Int), (0 : Int), (0 : Int), (0 : Int), (0 : Int), (0 : Int), (0 : Int), (0 : Int), (0 : Int), (0 : Int), (0 : Int), (0 : Int), (0 : Int), ([] : List UInt8), (0 : Int), (0 : Int), ([] : List Int), ([] : List Int), ([] : List Int), ([] : List Int)))
  (cond (!(decide (r5.1 = (2 : Int))))
  (some ((1 : Int), r3.1, (6 : Int), (2 : Int), (2 : Int), (0 : Int), (0 : Int), (0 : Int), (0 : Int), (0 : Int), (0 : Int), (0 : Int), (0 : Int), (0 : Int), (0 : Int), ([] : List UInt8), (0 : Int), (0 : Int), ([] : List Int), ([] : List Int), ([] : List Int), ([] : List Int)))
  (Option.bind (f1 (r5.2.1, r5.2.2.1, r5.2.2.2.1, r5.2.2.2.2)) fun r16 =>
  (Option.bind (f1 (r16.2.1, r16.2.2.1, r16.2.2.2.1, r16.2.2.2.2)) fun r17 =>
  (Option.bind (f1 (r17.2.1, r17.2.2.1, r17.2.2.2.1, r17.2.2.2.2)) fun r18 =>
  (Option.bind (f2 (r18.2.1, r18.2.2.1, r18.2.2.2.1, r18.2.2.2.2)) fun r19 =>
  (Option.bind (f3 (r19.2.1, r19.2.2.1, r19.2.2.2.1, r19.2.2.2.2.1)) fun r20 =>
  (cond (!(decide (r20.1 = (0 : Int))))
  (some ((1 : Int), r3.1, (7 : Int), (0 : Int), (0 : Int), (1 : Int), (0 : Int), (0 : Int), (0 : Int), (0 : Int), (0 : Int), (0 : Int), (0 : Int), (0 : Int), (0 : Int), ([] : List UInt8), (0 : Int), (0 : Int), ([] : List Int), ([] : List Int), ([] : List Int), ([] : List Int)))
  (Option.bind (f4 (r19.1, r19.2.2.2.2.2)) fun r23 =>
  (Option.bind
  (cond (decide (r23.2.2.2.2.2.1 = (0 : Int)))
  (Option.bind (f2 (r20.2.2.1, r20.2.2.2.1, r20.2.2.2.2.1, r20.2.2.2.2.2)) fun r26 =>
  (Option.bind (f3 (r26.2.1, r26.2.2.1, r26.2.2.2.1, r26.2.2.2.2.1)) fun r27 =>
  (Option.bind
  (cond (!(decide (r27.1 = (0 : Int))))
  (some true)
  (cond (!(decide (r26.1 = (0 : Int))))
  (some true)
  (some (decide ((0 : Int) < (((List.length r26.2.2.2.2.2) : Nat) : Int))))))
  fun r32 =>
  (Option.bind
  (cond r32
  (some (3 : Int))
  (some r23.2.2.2.2.2.1))
  fun r33 =>
  (some (r33, r27.2.2.1, r27.2.2.2.1, r27.2.2.2.2.1, r27.2.2.2.2.2, r26.1, r26.2.2.2.2.2))))))
  (some (r23.2.2.2.2.2.1, r20.2.2.1, r20.2.2.2.1, r20.2.2.2.2.1, r20.2.2.2.2.2, (0 : Int), ([] : List Int))))
  fun r34 =>
  (cond (!(decide (r34.1 = (0 : Int))))
  (some ((1 : Int), r3.1, (7 : Int), (0 : Int), (0 : Int), r34.1, (0 : Int), (0 : Int), (0 : Int), (0 : Int), (0 : Int), (0 : Int), (0 : Int), (0 : Int), (0 : Int), ([] : List UInt8), (0 : Int), (0 : Int), ([] : List Int), ([] : List Int), ([] : List Int), ([] : List Int)))
  (Option.bind
  (cond (decide (r16.1 = (100003 : Int)))
  (some (22 : Int))
  (Option.bind
  (cond (decide (r16.1 = (100005 : Int)))
  (some (4 : Int))
  (some (0 : Int)))
  fun r39 =>
  (some r39)))
  fun r40 =>
  (Option.bind
  (cond (decide (r40 = (0 : Int)))
  (some ((1 : Int), (0 : Int), (0 : Int)))
  (Option.bind
  (cond (!(decide (r17.1 = (3 : Int))))
  (some ((2 : Int), (3 : Int), (3 : Int)))
  (Option.bind
  (cond (decide (r40 ≤ r18.1))
  (some (3 : Int))
  (some (0 : Int)))
  fun r44 =>
  (some (r44, (0 : Int), (0 : Int)))))
  fun r45 =>
  (some (r45.1, r45.2.1, r45.2.2))))
  fun r46 =>
  (cond (!(decide (r46.1 = (0 : Int))))
  (some ((1 : Int), r3.1, r46.1, r46.2.1, r46.2.2, (0 : Int), (0 : Int), (0 : Int), (0 : Int), (0 : Int), (0 : Int), (0 : Int), (0 : Int), (0 : Int), (0 : Int), ([] : List UInt8), (0 : Int), (0 : Int), ([] : List Int), ([] : List Int), ([] : List Int), ([] : List Int)))
  (Option.bind (f5 (x, r34.2.1, r34.2.2.1, r34.2.2.2.1, r34.2.2.2.2.1)) fun r49 =>
  (some ((2 : Int), (0 : Int), (0 : Int), (0 : Int), (0 : Int), (0 : Int), r3.1, r5.1, r16.1, r17.1, r18.1, r19.1, r34.2.2.2.2.2.1, r23.1, r23.2.1, r23.2.2.1, r23.2.2.2.1, r23.2.2.2.2.1, r19.2.2.2.2.2, r34.2.2.2.2.2.2, r49.2.2.2.2, r23.2.2.2.2.2.2)))))))))))))))))))))))
theorem rpc_Classify_f (N : Nat) (f0 : (List Int) → Option ((List Int))) (f1 : Int × Int × Int × (List Int) → Option (Int × Int × Int × Int × (List Int))) (f2 : Int × Int × Int × (List Int) → Option (Int × Int × Int × Int × (List Int) × (List Int))) (f3 : Int × Int × Int × (List Int) → Option (Int × Int × Int × Int × Int × (List Int))) (f4 : Int × (List Int) → Option (Int × Int × (List UInt8) × Int × Int × Int × (List Int))) (f5 : (List Int) × Int × Int × Int × (List Int) → Option (Int × Int × Int × (List Int) × (List Int))) (x) : rpc_Classify_a N f0 f1 f2 f3 f4 f5 x = fnStep Γ (rpc_Classify_CA N f0 f1 f2 f3 f4 f5) (rpc_Classify_J N) 150 Try.f15.results.toList (rpc_Classify_g N) rpc_Classify_o rpc_Classify_c x := by kernel_rfl
theorem rpc_Classify_e (N : Nat) (x) : (rpc_Classify_g N).F x = fnStep Γ (rpc_Classify_C N) (rpc_Classify_J N) 150 Try.f15.results.toList (rpc_Classify_g N) rpc_Classify_o rpc_Classify_c x := by
  rw [← rpc_Classify_CE N]
  exact Eq.trans (by kernel_rfl) (rpc_Classify_f N (xdr_NewReader) (xdr_Reader_Uint N) (rpc_getAuth N) (xdr_Reader_Why) (rpc_GetCred N) (rpc_rest) x)
theorem rpc_Classify_y : Try.f15.body = some rpc_Classify_c := by kernel_rfl
theorem rpc_Classify_n : (Try.f15.name == "runtime.NumGoroutine") = false := by kernel_rfl
theorem rpc_Classify_ok (N : Nat) : FnDoes Try.prog 15 (rpc_Classify_g N) := fn_ok tabOK (rpc_Classify_t N) mixedOK (J := rpc_Classify_J N) (body := rpc_Classify_c) Try.func15 rpc_Classify_y rpc_Classify_n Try.ntmps15 (jok_from rpc_Classify_i ⟨trivial, trivial⟩) rfl rfl (le_of_ble rfl) (rpc_Classify_e N)
noncomputable def granarylaw21_num_c : Code := codeOf Try.f23.body
noncomputable def granarylaw21_num_J (N : Nat) : Nat → Hint := fun cx => hintOf cx []
noncomputable def granarylaw21_num_C (N : Nat) : Nat → List GS := fun k => tabOf k []
def granarylaw21_num_o : List (Shp × List Nat) := [(⟨[(0, (.av (.one (.int .i64))))], []⟩, [])]
noncomputable def granarylaw21_num_g (N : Nat) : GS := { ins := ⟨[(0, (.av (.one (.int .i64))))], []⟩, lend := [.keep], outs := granarylaw21_num_o.map fun s => ssOf s.1, its := [.int], ots := [[.int]], F := granarylaw21_num }
theorem granarylaw21_num_t (N : Nat) : TabC Try.prog (granarylaw21_num_C N) := tab_ok trivial
theorem granarylaw21_num_i : loopsOf granarylaw21_num_c = [] := by kernel_rfl
theorem granarylaw21_num_e (N : Nat) (x) : (granarylaw21_num_g N).F x = fnStep Γ (granarylaw21_num_C N) (granarylaw21_num_J N) 4 Try.f23.results.toList (granarylaw21_num_g N) granarylaw21_num_o granarylaw21_num_c x := by kernel_rfl
theorem granarylaw21_num_y : Try.f23.body = some granarylaw21_num_c := by kernel_rfl
theorem granarylaw21_num_n : (Try.f23.name == "runtime.NumGoroutine") = false := by kernel_rfl
theorem granarylaw21_num_ok (N : Nat) : FnDoes Try.prog 23 (granarylaw21_num_g N) := fn_ok tabOK (granarylaw21_num_t N) mixedOK (J := granarylaw21_num_J N) (body := granarylaw21_num_c) Try.func23 granarylaw21_num_y granarylaw21_num_n Try.ntmps23 (jok_from granarylaw21_num_i trivial) rfl rfl (le_of_ble rfl) (granarylaw21_num_e N)
noncomputable def rpc_Classify_v1_c : Code := codeOf Try.f15.body
noncomputable def rpc_Classify_v1_J (N : Nat) : Nat → Hint := fun cx => hintOf cx [(0, { reg := fun k => assoc0 k [(5, ⟨⟨[(44, (.av (.one .bool)))], [(.keep, true), (.keep, true), (.keep, true), (.keep, true), (.keep, true), (.keep, true), (.keep, true), (.keep, true), (.keep, true), (.keep, true), (.keep, true), (.keep, true), (.keep, true), (.keep, true), (.keep, true), (.keep, true), (.keep, true), (.keep, true), (.keep, true), (.keep, true), (.keep, true), (.keep, true), (.keep, false), (.keep, true), (.keep, true), (.keep, true), (.keep, false), (.keep, false), (.keep, true), (.keep, true), (.keep, true), (.keep, true), (.keep, true), (.keep, false)]⟩, [], [], [.bool]⟩), (21, ⟨⟨[(107, (.av (.one .bool)))], [(.keep, true), (.keep, true), (.keep, true), (.keep, true), (.keep, true), (.keep, true), (.keep, true), (.keep, true), (.keep, true), (.keep, true), (.keep, true), (.keep, true), (.keep, true), (.keep, true), (.keep, true), (.keep, true), (.keep, true), (.keep, true), (.keep, true), (.keep, true), (.keep, true), (.keep, true), (.keep, false), (.keep, true), (.keep, true), (.keep, true), (.keep, false), (.keep, false), (.keep, true), (.keep, true), (.keep, true), (.keep, true), (.keep, true), (.keep, false), (.keep, true), (.keep, true), (.keep, true), (.keep, true), (.keep, true), (.keep, true), (.keep, true), (.keep, true), (.keep, true), (.keep, false), (.keep, false), (.keep, false), (.keep, true), (.keep, true), (.keep, true), (.keep, true), (.keep, true), (.keep, false), (.keep, false)]⟩, [], [], [.bool]⟩)], cnd := fun k => assoc0 k [(107, ⟨[], [], [(.normal, ⟨[(12, (.av (.one (.int .u32))))], [(.keep, true), (.keep, true), (.keep, true), (.keep, true), (.keep, true), (.keep, true), (.keep, true), (.keep, true), (.keep, true), (.keep, true), (.keep, true), (.keep, true), (.keep, true), (.keep, true), (.keep, true), (.keep, true), (.keep, true), (.keep, true), (.keep, true), (.keep, true), (.keep, true), (.keep, true), (.keep, false), (.keep, true), (.keep, true), (.keep, true), (.keep, false), (.keep, false), (.keep, true), (.keep, true), (.keep, true), (.keep, true), (.keep, true), (.keep, false), (.keep, true), (.keep, true), (.keep, true), (.keep, true), (.keep, true), (.keep, true), (.keep, true), (.keep, true), (.keep, true), (.keep, false), (.keep, false), (.keep, false), (.keep, true), (.keep, true), (.keep, true), (.keep, true), (.keep, true), (.keep, false), (.keep, false)]⟩)], [[.int]]⟩), (84, ⟨[], [23, 24, 25, 26, 27, 41, 42], [(.normal, ⟨[(12, (.av (.one (.int .u32))))], [(.keep, true), (.keep, true), (.keep, true), (.keep, true), (.keep, true), (.keep, true), (.keep, true), (.keep, true), (.keep, true), (.keep, true), (.keep, true), (.keep, true), (.keep, true), (.keep, true), (.keep, true), (.keep, true), (.keep, true), (.keep, true), (.keep, true), (.keep, true), (.keep, true), (.keep, true), (.keep, false), (.sh (.one (.const (.slw 27 1))), true), (.sh (.one (.int .i64)), true), (.sh (.one (.int .i64)), true), (.sh (.one (.int .i64)), false), (.sh (.arr (.int .u8) none), false), (.keep, true), (.keep, true), (.keep, true), (.keep, true), (.keep, true), (.keep, false), (.keep, true), (.keep, true), (.keep, true), (.keep, true), (.keep, true), (.keep, true), (.keep, true), (.sh (.one (.int .u32)), true), (.sh (.one (.const (.slw 52 1))), true), (.keep, false), (.keep, false), (.keep, false), (.keep, true), (.keep, true), (.keep, true), (.keep, true), (.keep, true), (.keep, false), (.sh (.arr (.int .u8) none), false)]⟩)], [[.int, .int, .int, .int, .lst (.int .u8), .int, .lst (.int .u8)]]⟩), (118, ⟨[], [], [(.normal, ⟨[(15, (.av (.one (.int .u32))))], [(.keep, true), (.keep, true), (.keep, true), (.keep, true), (.keep, true), (.keep, true), (.keep, true), (.keep, true), (.keep, true), (.keep, true), (.keep, true), (.keep, true), (.keep, true), (.keep, true), (.keep, true), (.keep, true), (.keep, true), (.keep, true), (.keep, true), (.keep, true), (.keep, true), (.keep, true), (.keep, false), (.keep, true), (.keep, true), (.keep, true), (.keep, false), (.keep, false), (.keep, true), (.keep, true), (.keep, true), (.keep, true), (.keep, true), (.keep, false), (.keep, true), (.keep, true), (.keep, true), (.keep, true), (.keep, true), (.keep, true), (.keep, true), (.keep, true), (.keep, true), (.keep, false), (.keep, false), (.keep, false), (.keep, true), (.keep, true), (.keep, true), (.keep, true), (.keep, true), (.keep, false), (.keep, false)]⟩)], [[.int]]⟩), (116, ⟨[], [], [(.normal, ⟨[(15, (.av (.one (.int .u32))))], [(.keep, true), (.keep, true), (.keep, true), (.keep, true), (.keep, true), (.keep, true), (.keep, true), (.keep, true), (.keep, true), (.keep, true), (.keep, true), (.keep, true), (.keep, true), (.keep, true), (.keep, true), (.keep, true), (.keep, true), (.keep, true), (.keep, true), (.keep, true), (.keep, true), (.keep, true), (.keep, false), (.keep, true), (.keep, true), (.keep, true), (.keep, false), (.keep, false), (.keep, true), (.keep, true), (.keep, true), (.keep, true), (.keep, true), (.keep, false), (.keep, true), (.keep, true), (.keep, true), (.keep, true), (.keep, true), (.keep, true), (.keep, true), (.keep, true), (.keep, true), (.keep, false), (.keep, false), (.keep, false), (.keep, true), (.keep, true), (.keep, true), (.keep, true), (.keep, true), (.keep, false), (.keep, false)]⟩)], [[.int]]⟩), (132, ⟨[], [29], [(.normal, ⟨[], [(.keep, true), (.keep, true), (.keep, true), (.keep, true), (.keep, true), (.keep, true), (.keep, true), (.keep, true), (.keep, true), (.keep, true), (.keep, true), (.keep, true), (.keep, true), (.keep, true), (.keep, true), (.keep, true), (.keep, true), (.keep, true), (.keep, true), (.keep, true), (.keep, true), (.keep, true), (.keep, false), (.keep, true), (.keep, true), (.keep, true), (.keep, false), (.keep, false), (.keep, true), (.sh (.one (.int .i64)), true), (.keep, true), (.keep, true), (.keep, true), (.keep, false), (.keep, true), (.keep, true), (.keep, true), (.keep, true), (.keep, true), (.keep, true), (.keep, true), (.keep, true), (.keep, true), (.keep, false), (.keep, false), (.keep, false), (.keep, true), (.keep, true), (.keep, true), (.keep, true), (.keep, true), (.keep, false), (.keep, false)]⟩)], [[.int]]⟩), (125, ⟨[], [29, 30, 31], [(.normal, ⟨[], [(.keep, true), (.keep, true), (.keep, true), (.keep, true), (.keep, true), (.keep, true), (.keep, true), (.keep, true), (.keep, true), (.keep, true), (.keep, true), (.keep, true), (.keep, true), (.keep, true), (.keep, true), (.keep, true), (.keep, true), (.keep, true), (.keep, true), (.keep, true), (.keep, true), (.keep, true), (.keep, false), (.keep, true), (.keep, true), (.keep, true), (.keep, false), (.keep, false), (.keep, true), (.sh (.one (.int .i64)), true), (.sh (.one (.int .u32)), true), (.sh (.one (.int .u32)), true), (.keep, true), (.keep, false), (.keep, true), (.keep, true), (.keep, true), (.keep, true), (.keep, true), (.keep, true), (.keep, true), (.keep, true), (.keep, true), (.keep, false), (.keep, false), (.keep, false), (.keep, true), (.keep, true), (.keep, true), (.keep, true), (.keep, true), (.keep, false), (.keep, false)]⟩)], [[.int, .int, .int]]⟩), (121, ⟨[], [29, 30, 31], [(.normal, ⟨[], [(.keep, true), (.keep, true), (.keep, true), (.keep, true), (.keep, true), (.keep, true), (.keep, true), (.keep, true), (.keep, true), (.keep, true), (.keep, true), (.keep, true), (.keep, true), (.keep, true), (.keep, true), (.keep, true), (.keep, true), (.keep, true), (.keep, true), (.keep, true), (.keep, true), (.keep, true), (.keep, false), (.keep, true), (.keep, true), (.keep, true), (.keep, false), (.keep, false), (.keep, true), (.sh (.one (.int .i64)), true), (.sh (.one (.int .u32)), true), (.sh (.one (.int .u32)), true), (.keep, true), (.keep, false), (.keep, true), (.keep, true), (.keep, true), (.keep, true), (.keep, true), (.keep, true), (.keep, true), (.keep, true), (.keep, true), (.keep, false), (.keep, false), (.keep, false), (.keep, true), (.keep, true), (.keep, true), (.keep, true), (.keep, true), (.keep, false), (.keep, false)]⟩)], [[.int, .int, .int]]⟩)], loop := fun k => assoc0 k [], nil := fun k => assoc0 k [], unr := fun k => assocN k [], blk := fun k => assoc0 k [] })]
noncomputable def rpc_Classify_v1_C (N : Nat) : Nat → List GS := fun k => tabOf k [(45, [xdr_NewReader_g N]), (46, [xdr_Reader_Uint_g N]), (47, [rpc_getAuth_g N]), (48, [xdr_Reader_Why_g N]), (34, [rpc_GetCred_g N]), (49, [rpc_rest_g N])]
def rpc_Classify_v1_o : List (Shp × List Nat) := [(⟨[(0, (.av (.agg [(.one (.int .i64)), (.one (.int .u32)), (.one (.int .i64)), (.one (.int .u32)), (.one (.int .u32)), (.one (.int .u32)), (.one (.const .nils)), (.one (.int .u32)), (.one (.int .u32)), (.one (.int .u32)), (.one (.int .u32)), (.one (.int .u32)), (.one (.int .u32)), (.one (.const (.slw 0 1))), (.one (.int .u32)), (.one (.const (.slw 1 1))), (.one (.const (.slw 2 1))), (.one (.int .u32)), (.one (.int .u32)), (.one .str), (.one (.int .u32)), (.one (.int .u32)), (.one (.const (.slw 3 1)))])))], [(.sh (.arr (.int .u8) none), false), (.sh (.arr (.int .u8) none), false), (.sh (.arr (.int .u8) none), false), (.sh (.arr (.int .u32) none), false)]⟩, [])]
noncomputable def rpc_Classify_v1_g (N : Nat) : GS := { ins := ⟨[(0, (.av (.one (.rsl (.int .u8)))))], []⟩, lend := [.keep], outs := rpc_Classify_v1_o.map fun s => ssOf s.1, its := [.lst (.int .u8)], ots := [((.int : LK) :: (.int : LK) :: (.int : LK) :: (.int : LK) :: (.int : LK) :: (.int : LK) :: (.int : LK) :: (.int : LK) :: (.int : LK) :: (.int : LK) :: (.int : LK) :: (.int : LK) :: (.int : LK) :: (.int : LK) :: (.int : LK) :: (.str : LK) :: (.int : LK) :: (.int : LK) :: (.lst (.int .u8) : LK) :: (.lst (.int .u8) : LK) :: (.lst (.int .u8) : LK) :: (.lst (.int .u32) : LK) :: [])], F := rpc_Classify_v1 N }
noncomputable def rpc_Classify_v1_CA (N : Nat) (f0 : (List Int) → Option ((List Int))) (f1 : Int × Int × Int × (List Int) → Option (Int × Int × Int × Int × (List Int))) (f2 : Int × Int × Int × (List Int) → Option (Int × Int × Int × Int × (List Int) × (List Int))) (f3 : Int × Int × Int × (List Int) → Option (Int × Int × Int × Int × Int × (List Int))) (f4 : Int × (List Int) → Option (Int × Int × (List UInt8) × Int × Int × Int × (List Int))) (f5 : (List Int) × Int × Int × Int × (List Int) → Option (Int × Int × Int × (List Int) × (List Int))) : Nat → List GS := fun k => tabOf k [(45, [{ xdr_NewReader_g N with F := f0 }]), (46, [{ xdr_Reader_Uint_g N with F := f1 }]), (47, [{ rpc_getAuth_g N with F := f2 }]), (48, [{ xdr_Reader_Why_g N with F := f3 }]), (34, [{ rpc_GetCred_g N with F := f4 }]), (49, [{ rpc_rest_g N with F := f5 }])]
theorem rpc_Classify_v1_CE (N : Nat) : rpc_Classify_v1_CA N (xdr_NewReader) (xdr_Reader_Uint N) (rpc_getAuth N) (xdr_Reader_Why) (rpc_GetCred N) (rpc_rest) = rpc_Classify_v1_C N := by kernel_rfl
theorem rpc_Classify_v1_t (N : Nat) : TabC Try.prog (rpc_Classify_v1_C N) := tab_ok ⟨⟨xdr_NewReader_ok N, trivial⟩, ⟨xdr_Reader_Uint_ok N, trivial⟩, ⟨rpc_getAuth_ok N, trivial⟩, ⟨xdr_Reader_Why_ok N, trivial⟩, ⟨rpc_GetCred_ok N, trivial⟩, ⟨rpc_rest_ok N, trivial⟩, trivial⟩
theorem rpc_Classify_v1_i : loopsOf rpc_Classify_v1_c = [] := by kernel_rfl
noncomputable def rpc_Classify_v1_a (N : Nat) (f0 : (List Int) → Option ((List Int))) (f1 : Int × Int × Int × (List Int) → Option (Int × Int × Int × Int × (List Int))) (f2 : Int × Int × Int × (List Int) → Option (Int × Int × Int × Int × (List Int) × (List Int))) (f3 : Int × Int × Int × (List Int) → Option (Int × Int × Int × Int × Int × (List Int))) (f4 : Int × (List Int) → Option (Int × Int × (List UInt8) × Int × Int × Int × (List Int))) (f5 : (List Int) × Int × Int × Int × (List Int) → Option (Int × Int × Int × (List Int) × (List Int))) (x : (List Int)) : Option (Int × Int × Int × Int × Int × Int × Int × Int × Int × Int × Int × Int × Int × Int × Int × (List UInt8) × Int × Int × (List Int) × (List Int) × (List Int) × (List Int)) :=
  (Option.bind (f0 x) fun r2 =>
  (Option.bind (f1 ((0 : Int), (0 : Int), (0 : Int), r2)) fun r3 =>
  (Option.bind (f1 (r3.2.1, r3.2.2.1, r3.2.2.2.1, r3.2.2.2.2)) fun r4 =>
  (Option.bind (f1 (r4.2.1, r4.2.2.1, r4.2.2.2.1, r4.2.2.2.2)) fun r5 =>
  (let v6 : Int := (((List.length x) : Nat) : Int)
  (Option.bind
  (cond (decide (v6 < (8 : Int)))
  (some true)
  (cond (!(decide (r4.1 = (0 : Int))))
  (some true)
  (cond (decide (v6 < (24 : Int)))
  (cond (decide (r5.1 = (2 : Int)))
  (some true)
  (some (decide (v6 < (12 : Int)))))
  (some false))))
  fun r12 =>
  (cond r12
  (some ((0 : Int), (0 : Int), (0 : Int), (0 : Int), (0 : Int), (0 : Int), (0 : Int), (0 : Int), (0 : Int), (0 : Int), (0 : Int), (0 : Int), (0 : Int), (0 : Int), (0 : Int), ([] : List UInt8), (0 : Int), (0 : Int), ([] : List Int), ([] : List Int), ([] : List Int), ([] : List Int)))
  (cond (!(decide (r5.1 = (2 : Int))))
  (some ((1 : Int), r3.1, (6 : Int), (2 : Int), (2 : Int), (0 : Int), (0 : Int), (0 : Int), (0 : Int), (0 : Int), (0 : Int), (0 : Int), (0 : Int), (0 : Int), (0 : Int), ([] : List UInt8), (0 : Int), (0 : Int), ([] : List Int), ([] : List Int), ([] : List Int), ([] : List Int)))
  (Option.bind (f1 (r5.2.1, r5.2.2.1, r5.2.2.2.1, r5.2.2.2.2)) fun r16 =>
  (Option.bind (f1 (r16.2.1, r16.2.2.1, r16.2.2.2.1, r16.2.2.2.2)) fun r17 =>
  (Option.bind (f1 (r17.2.1, r17.2.2.1, r17.2.2.2.1, r17.2.2.2.2)) fun r18 =>
  (Option.bind (f2 (r18.2.1, r18.2.2.1, r18.2.2.2.1, r18.2.2.2.2)) fun r19 =>
  (Option.bind (f3 (r19.2.1, r19.2.2.1, r19.2.2.2.1, r19.2.2.2.2.1)) fun r20 =>
  (cond (!(decide (r20.1 = (0 : Int))))
  (some ((1 : Int), r3.1, (7 : Int), (0 : Int), (0 : Int), (1 : Int), (0 : Int), (0 : Int), (0 : Int), (0 : Int), (0 : Int), (0 : Int), (0 : Int), (0 : Int), (0 : Int), ([] : List UInt8), (0 : Int), (0 : Int), ([] : List Int), ([] : List Int), ([] : List Int), ([] : List Int)))
  (Option.bind (f4 (r19.1, r19.2.2.2.2.2)) fun r23 =>
  (Option.bind
  (cond (decide (r23.2.2.2.2.2.1 = (0 : Int)))
  (Option.bind (f2 (r20.2.2.1, r20.2.2.2.1, r20.2.2.2.2.1, r20.2.2.2.2.2)) fun r26 =>
  (Option.bind (f3 (r26.2.1, r26.2.2.1, r26.2.2.2.1, r26.2.2.2.2.1)) fun r27 =>
  (Option.bind
  (cond (!(decide (r27.1 = (0 : Int))))
  (some true)
  (cond (!(decide (r26.1 = (0 : Int))))
  (some true)
  (some (decide ((0 : Int) < (((List.length r26.2.2.2.2.2) : Nat) : Int))))))
  fun r32 =>
  (Option.bind
  (cond r32
  (some (3 : Int))
  (some r23.2.2.2.2.2.1))
  fun r33 =>
  (some (r33, r27.2.2.1, r27.2.2.2.1, r27.2.2.2.2.1, r27.2.2.2.2.2, r26.1, r26.2.2.2.2.2))))))
  (some (r23.2.2.2.2.2.1, r20.2.2.1, r20.2.2.2.1, r20.2.2.2.2.1, r20.2.2.2.2.2, (0 : Int), ([] : List Int))))
  fun r34 =>
  (cond (!(decide (r34.1 = (0 : Int))))
  (some ((1 : Int), r3.1, (7 : Int), (0 : Int), (0 : Int), r34.1, (0 : Int), (0 : Int), (0 : Int), (0 : Int), (0 : Int), (0 : Int), (0 : Int), (0 : Int), (0 : Int), ([] : List UInt8), (0 : Int), (0 : Int), ([] : List Int), ([] : List Int), ([] : List Int), ([] : List Int)))
  (Option.bind
  (cond (decide (r16.1 = (100003 : Int)))
  (some (22 : Int))
  (Option.bind
  (cond (decide (r16.1 = (100005 : Int)))
  (some (4 : Int))
  (some (0 : Int)))
  fun r39 =>
  (some r39)))
  fun r40 =>
  (Option.bind
  (cond (decide (r40 = (0 : Int)))
  (some ((1 : Int), (0 : Int), (0 : Int)))
  (Option.bind
  (cond (!(decide (r17.1 = (3 : Int))))
  (some ((2 : Int), (3 : Int), (3 : Int)))
  (Option.bind
  (cond (decide (r40 ≤ r18.1))
  (some (3 : Int))
  (some (0 : Int)))
  fun r44 =>
  (some (r44, (0 : Int), (0 : Int)))))
  fun r45 =>
  (some (r45.1, r45.2.1, r45.2.2))))
  fun r46 =>
  (cond (!(decide (r46.1 = (0 : Int))))
  (some ((1 : Int), r3.1, r46.1, r46.2.1, r46.2.2, (0 : Int), (0 : Int), (0 : Int), (0 : Int), (0 : Int), (0 : Int), (0 : Int), (0 : Int), (0 : Int), (0 : Int), ([] : List UInt8), (0 : Int), (0 : Int), ([] : List Int), ([] : List Int), ([] : List Int), ([] : List Int)))
  (Option.bind (f5 (x, r34.2.1, r34.2.2.1, r34.2.2.2.1, r34.2.2.2.2.1)) fun r49 =>
  (some ((2 : Int), (0 : Int), (0 : Int), (0 : Int), (0 : Int), (0 : Int), r3.1, r5.1, r16.1, r17.1, r18.1, r19.1, r34.2.2.2.2.2.1, r23.1, r23.2.1, r23.2.2.1, r23.2.2.2.1, r23.2.2.2.2.1, r19.2.2.2.2.2, r34.2.2.2.2.2.2, r49.2.2.2.2, r23.2.2.2.2.2.2)))))))))))))))))))))))
theorem rpc_Classify_v1_f (N : Nat) (f0 : (List Int) → Option ((List Int))) (f1 : Int × Int × Int × (List Int) → Option (Int × Int × Int × Int × (List Int))) (f2 : Int × Int × Int × (List Int) → Option (Int × Int × Int × Int × (List Int) × (List Int))) (f3 : Int × Int × Int × (List Int) → Option (Int × Int × Int × Int × Int × (List Int))) (f4 : Int × (List Int) → Option (Int × Int × (List UInt8) × Int × Int × Int × (List Int))) (f5 : (List Int) × Int × Int × Int × (List Int) → Option (Int × Int × Int × (List Int) × (List Int))) (x) : rpc_Classify_v1_a N f0 f1 f2 f3 f4 f5 x = fnStep Γ (rpc_Classify_v1_CA N f0 f1 f2 f3 f4 f5) (rpc_Classify_v1_J N) 150 Try.f15.results.toList (rpc_Classify_v1_g N) rpc_Classify_v1_o rpc_Classify_v1_c x := by kernel_rfl
theorem rpc_Classify_v1_e (N : Nat) (x) : (rpc_Classify_v1_g N).F x = fnStep Γ (rpc_Classify_v1_C N) (rpc_Classify_v1_J N) 150 Try.f15.results.toList (rpc_Classify_v1_g N) rpc_Classify_v1_o rpc_Classify_v1_c x := by
  rw [← rpc_Classify_v1_CE N]
  exact Eq.trans (by kernel_rfl) (rpc_Classify_v1_f N (xdr_NewReader) (xdr_Reader_Uint N) (rpc_getAuth N) (xdr_Reader_Why) (rpc_GetCred N) (rpc_rest) x)
theorem rpc_Classify_v1_y : Try.f15.body = some rpc_Classify_v1_c := by kernel_rfl
theorem rpc_Classify_v1_n : (Try.f15.name == "runtime.NumGoroutine") = false := by kernel_rfl
theorem rpc_Classify_v1_ok (N : Nat) : FnDoes Try.prog 15 (rpc_Classify_v1_g N) := fn_ok tabOK (rpc_Classify_v1_t N) mixedOK (J := rpc_Classify_v1_J N) (body := rpc_Classify_v1_c) Try.func15 rpc_Classify_v1_y rpc_Classify_v1_n Try.ntmps15 (jok_from rpc_Classify_v1_i ⟨trivial, trivial⟩) rfl rfl (le_of_ble rfl) (rpc_Classify_v1_e N)
noncomputable def rpc_Frame_c : Code := codeOf Try.f13.body
noncomputable def rpc_Frame_c0 : Code := codeOf (getLoop 0 rpc_Frame_c)
def rpc_Frame_d0 : LD := { ins := ⟨[(0, (.av (.one (.rsl (.int .u8))))), (5, (.av (.one (.const (.slw 0 1))))), (6, (.av (.one (.int .i64)))), (9, (.av (.one (.rsl (.int .i64))))), (10, (.av (.one (.int .i64)))), (11, (.av (.one (.int .i64))))], [(.sh (.arr (.int .u8) none), false)]⟩, mov := [0], wr := [], outs := [(.exit 0, ⟨[(0, (.av (.one (.rsl (.int .u8))))), (5, (.av (.one (.const (.slw 1 1)))))], [(.dead, false), (.sh (.arr (.int .u8) none), false)]⟩)], its := [.lst (.int .u8), .int, .lst (.int .i64), .int, .int, .lst (.int .u8)], ots := [[.lst (.int .u8), .lst (.int .u8)]] }
noncomputable def rpc_Frame_J (N : Nat) : Nat → Hint := fun cx => hintOf cx [(0, { reg := fun k => assoc0 k [(6, ⟨⟨[(26, (.av (.one .bool)))], [(.keep, false)]⟩, [], [], [.bool]⟩)], cnd := fun k => assoc0 k [], loop := fun k => assoc0 k [(0, ⟨rpc_Frame_d0, loopF (rpc_Frame_b0 N) N⟩)], nil := fun k => assoc0 k [], unr := fun k => assocN k [], blk := fun k => assoc0 k [(1, ⟨[0], [], [(.normal, ⟨[(0, (.av (.one (.rsl (.int .u8))))), (5, (.av (.one (.const (.slw 1 1))))), (6, (.av (.one (.int .i64))))], [(.dead, false), (.sh (.arr (.int .u8) none), false)]⟩)], [[.lst (.int .u8), .int, .lst (.int .u8)]]⟩)] })]
noncomputable def rpc_Frame_C (N : Nat) : Nat → List GS := fun k => tabOf k [(43, [octet_Put_g N, octet_Put_v1_g N])]
def rpc_Frame_o : List (Shp × List Nat) := [(⟨[(0, (.av (.one (.const (.slw 0 1)))))], [(.sh (.arr (.int .u8) none), false)]⟩, [])]
noncomputable def rpc_Frame_g (N : Nat) : GS := { ins := ⟨[(0, (.av (.one (.rsl (.int .u8))))), (1, (.av (.one (.rsl (.int .i64)))))], []⟩, lend := [.lend (.int .u8), .lend (.int .i64)], outs := rpc_Frame_o.map fun s => ssOf s.1, its := [.lst (.int .u8), .lst (.int .i64)], ots := [[.lst (.int .u8)]], F := rpc_Frame N }
noncomputable def rpc_Frame_CA (N : Nat) (f0 : Int × Int → Option ((List Int))) (f1 : Int × Int × (List Int) → Option ((List Int))) : Nat → List GS := fun k => tabOf k [(43, [{ octet_Put_g N with F := f0 }, { octet_Put_v1_g N with F := f1 }])]
theorem rpc_Frame_CE (N : Nat) : rpc_Frame_CA N (octet_Put N) (octet_Put_v1 N) = rpc_Frame_C N := by kernel_rfl
theorem rpc_Frame_t (N : Nat) : TabC Try.prog (rpc_Frame_C N) := tab_ok ⟨⟨octet_Put_ok N, octet_Put_v1_ok N, trivial⟩, trivial⟩
theorem rpc_Frame_i0 : loopsOf rpc_Frame_c0 = [] := by kernel_rfl
noncomputable def rpc_Frame_a0 (N : Nat) (f0 : Int × Int → Option ((List Int))) (f1 : Int × Int × (List Int) → Option ((List Int))) (next : (List Int) × Int × (List Int) × Int × Int × (List Int) → Option (((List Int) × (List Int)))) (x : (List Int) × Int × (List Int) × Int × Int × (List Int)) : Option (((List Int) × (List Int))) :=
  (cond (decide (x.2.2.2.2.1 < x.2.2.2.1))
  (Option.bind
  (cond ((decide ((0 : Int) ≤ x.2.2.2.2.1)) && (decide (x.2.2.2.2.1 < (((List.length x.2.2.1) : Nat) : Int))))
  ((let v2 : Int := (List.getD x.2.2.1 (Int.toNat x.2.2.2.2.1) (EK.dflt (.int .i64)))
  (Option.bind
  (cond (decide (v2 ≤ (0 : Int)))
  (some true)
  (cond (decide ((((List.length x.1) : Nat) : Int) ≤ v2))
  (some true)
  (some (decide ((32 : Int) ≤ x.2.1)))))
  fun r7 =>
  (cond r7
  (some (x.1, x.2.1, x.2.2.2.2.2))
  (Option.bind (f1 ((wrapF .u64 v2), (4 : Int), x.2.2.2.2.2)) fun r9 =>
  (cond ((decide ((0 : Int) ≤ v2)) && (decide (v2 ≤ (((List.length x.1) : Nat) : Int))))
  ((let v10 : List Int := (List.take (Int.toNat v2) (List.drop 0 x.1))
  (cond (fits 1 ((List.length r9) + (List.length v10)))
  ((cond (((decide ((0 : Int) ≤ v2)) && (decide (v2 ≤ (((List.length x.1) : Nat) : Int)))) && (decide ((((List.length x.1) : Nat) : Int) ≤ (((List.length x.1) : Nat) : Int))))
  ((some ((List.take ((List.length x.1) - (Int.toNat v2)) (List.drop (Int.toNat v2) x.1)), (wrapF .i64 (x.2.1 + (1 : Int))), (r9 ++ v10))))
  none))
  none)))
  none))))))
  none)
  fun r14 =>
  (next (r14.1, r14.2.1, x.2.2.1, x.2.2.2.1, (wrapF .i64 (x.2.2.2.2.1 + (1 : Int))), r14.2.2)))
  (some (x.1, x.2.2.2.2.2)))
theorem rpc_Frame_f0 (N : Nat) (f0 : Int × Int → Option ((List Int))) (f1 : Int × Int × (List Int) → Option ((List Int))) (next) (x) : rpc_Frame_a0 N f0 f1 next x = loopStep Γ (rpc_Frame_CA N f0 f1) (rpc_Frame_J N) 0 50 rpc_Frame_d0 rpc_Frame_c0 next x := by kernel_rfl
theorem rpc_Frame_e0 (N : Nat) (next) (x) : rpc_Frame_b0 N next x = loopStep Γ (rpc_Frame_C N) (rpc_Frame_J N) 0 50 rpc_Frame_d0 rpc_Frame_c0 next x := by
  rw [← rpc_Frame_CE N]
  exact Eq.trans (by kernel_rfl) (rpc_Frame_f0 N (octet_Put N) (octet_Put_v1 N) next x)
theorem rpc_Frame_k0 (N : Nat) : LoopOK Try.prog 50 rpc_Frame_c0 ⟨rpc_Frame_d0, loopF (rpc_Frame_b0 N) N⟩ := loop_ok tabOK (rpc_Frame_t N) mixedOK (J := rpc_Frame_J N) (cx := 0) (body := rpc_Frame_c0) (nt := 50) (l := rpc_Frame_d0) (b := rpc_Frame_b0 N) (jok_from rpc_Frame_i0 ⟨trivial, trivial⟩) (rpc_Frame_e0 N) N
theorem rpc_Frame_i : loopsOf rpc_Frame_c = [(0, rpc_Frame_c0)] := by kernel_rfl
noncomputable def rpc_Frame_a (N : Nat) (f0 : Int × Int → Option ((List Int))) (f1 : Int × Int × (List Int) → Option ((List Int))) (x : (List Int) × (List Int)) : Option ((List Int)) :=
  (Option.bind (rpc_Frame_l0 N (x.1, (1 : Int), x.2, (((List.length x.2) : Nat) : Int), (0 : Int), ([] : List Int))) fun r2 =>
  (Option.bind (f1 ((wrapF .u64 (orF .u32 (2147483648 : Int) (wrapF .u32 (((List.length r2.1) : Nat) : Int)))), (4 : Int), r2.2)) fun r7 =>
  (cond (fits 1 ((List.length r7) + (List.length r2.1)))
  ((some (r7 ++ r2.1)))
  none)))
theorem rpc_Frame_f (N : Nat) (f0 : Int × Int → Option ((List Int))) (f1 : Int × Int × (List Int) → Option ((List Int))) (x) : rpc_Frame_a N f0 f1 x = fnStep Γ (rpc_Frame_CA N f0 f1) (rpc_Frame_J N) 50 Try.f13.results.toList (rpc_Frame_g N) rpc_Frame_o rpc_Frame_c x := by kernel_rfl
theorem rpc_Frame_e (N : Nat) (x) : (rpc_Frame_g N).F x = fnStep Γ (rpc_Frame_C N) (rpc_Frame_J N) 50 Try.f13.results.toList (rpc_Frame_g N) rpc_Frame_o rpc_Frame_c x := by
  rw [← rpc_Frame_CE N]
  exact Eq.trans (by kernel_rfl) (rpc_Frame_f N (octet_Put N) (octet_Put_v1 N) x)
theorem rpc_Frame_y : Try.f13.body = some rpc_Frame_c := by kernel_rfl
theorem rpc_Frame_n : (Try.f13.name == "runtime.NumGoroutine") = false := by kernel_rfl
theorem rpc_Frame_ok (N : Nat) : FnDoes Try.prog 13 (rpc_Frame_g N) := fn_ok tabOK (rpc_Frame_t N) mixedOK (J := rpc_Frame_J N) (body := rpc_Frame_c) Try.func13 rpc_Frame_y rpc_Frame_n Try.ntmps13 (jok_from rpc_Frame_i ⟨⟨.inr ⟨_, rfl, rpc_Frame_k0 N⟩, trivial⟩, trivial⟩) rfl rfl (le_of_ble rfl) (rpc_Frame_e N)
noncomputable def granarylaw21_live_c : Code := codeOf Try.f12.body
noncomputable def granarylaw21_live_J (N : Nat) : Nat → Hint := fun cx => hintOf cx [(0, { reg := fun k => assoc0 k [(8, ⟨⟨[(0, (.av (.one .bool)))], [(.keep, true), (.keep, true), (.keep, true), (.keep, true), (.keep, true), (.keep, true), (.keep, false), (.dead, false), (.keep, false), (.dead, false), (.dead, false), (.dead, false), (.keep, false), (.keep, false), (.keep, false), (.keep, false), (.keep, false), (.keep, false), (.keep, false), (.keep, false), (.keep, true), (.keep, true), (.keep, true), (.keep, true), (.keep, true), (.keep, true), (.keep, true), (.keep, true), (.keep, true), (.keep, true), (.keep, true), (.keep, true), (.keep, true), (.keep, true), (.keep, true), (.keep, true), (.keep, true), (.keep, true), (.keep, true), (.keep, true), (.keep, true), (.keep, true), (.keep, false)]⟩, [], [], [.bool]⟩)], cnd := fun k => assoc0 k [], loop := fun k => assoc0 k [], nil := fun k => assoc0 k [(15, (.arr 2 .unit)), (21, (.arr 2 .unit))], unr := fun k => assocN k [], blk := fun k => assoc0 k [] })]
noncomputable def granarylaw21_live_C (N : Nat) : Nat → List GS := fun k => tabOf k [(19, [rpc_NewFramer_g N]), (20, [rpc_Framer_Feed_g N, rpc_Framer_Feed_v1_g N]), (27, [rpc_PutCall_g N]), (15, [rpc_Classify_v1_g N, rpc_Classify_g N]), (23, [granarylaw21_num_g N]), (13, [rpc_Frame_g N])]
def granarylaw21_live_o : List (Shp × List Nat) := [(⟨[(0, (.av (.one .bool)))], []⟩, [])]
noncomputable def granarylaw21_live_g (N : Nat) : GS := { ins := ⟨[], []⟩, lend := [], outs := granarylaw21_live_o.map fun s => ssOf s.1, its := [], ots := [[.bool]], F := granarylaw21_live N }
noncomputable def granarylaw21_live_CA (N : Nat) (f0 : Unit → Option (Unit)) (f1 : (List Int) × Int × Bool × Int × Int × Bool → Option (Int × Int × Bool × Int × Int × Bool × (List (List Int)) × (List Int) × (List Int))) (f2 : (List Int) × Int × Bool × Int × Int × Bool × (List Int) × (List Int) → Option (Int × Int × Bool × Int × Int × Bool × (List (List Int)) × (List Int) × (List Int))) (f3 : Int × Int × Int × Int × Int × Int × (List Int) × Int × (List Int) × (List Int) → Option (Int × (List Int))) (f4 : (List Int) → Option (Int × Int × Int × Int × Int × Int × Int × Int × Int × Int × Int × Int × Int × Int × Int × (List UInt8) × Int × Int × (List Int) × (List Int) × (List Int) × (List Int))) (f5 : (List Int) → Option (Int × Int × Int × Int × Int × Int × Int × Int × Int × Int × Int × Int × Int × Int × Int × (List UInt8) × Int × Int × (List Int) × (List Int) × (List Int) × (List Int))) (f6 : Int → Option (Int)) (f7 : (List Int) × (List Int) → Option ((List Int))) : Nat → List GS := fun k => tabOf k [(19, [{ rpc_NewFramer_g N with F := f0 }]), (20, [{ rpc_Framer_Feed_g N with F := f1 }, { rpc_Framer_Feed_v1_g N with F := f2 }]), (27, [{ rpc_PutCall_g N with F := f3 }]), (15, [{ rpc_Classify_v1_g N with F := f4 }, { rpc_Classify_g N with F := f5 }]), (23, [{ granarylaw21_num_g N with F := f6 }]), (13, [{ rpc_Frame_g N with F := f7 }])]
theorem granarylaw21_live_CE (N : Nat) : granarylaw21_live_CA N (rpc_NewFramer) (rpc_Framer_Feed N) (rpc_Framer_Feed_v1 N) (rpc_PutCall N) (rpc_Classify_v1 N) (rpc_Classify N) (granarylaw21_num) (rpc_Frame N) = granarylaw21_live_C N := by kernel_rfl
theorem granarylaw21_live_t (N : Nat) : TabC Try.prog (granarylaw21_live_C N) := tab_ok ⟨⟨rpc_NewFramer_ok N, trivial⟩, ⟨rpc_Framer_Feed_ok N, rpc_Framer_Feed_v1_ok N, trivial⟩, ⟨rpc_PutCall_ok N, trivial⟩, ⟨rpc_Classify_v1_ok N, rpc_Classify_ok N, trivial⟩, ⟨granarylaw21_num_ok N, trivial⟩, ⟨rpc_Frame_ok N, trivial⟩, trivial⟩
theorem granarylaw21_live_i : loopsOf granarylaw21_live_c = [] := by kernel_rfl
noncomputable def granarylaw21_live_a (N : Nat) (f0 : Unit → Option (Unit)) (f1 : (List Int) × Int × Bool × Int × Int × Bool → Option (Int × Int × Bool × Int × Int × Bool × (List (List Int)) × (List Int) × (List Int))) (f2 : (List Int) × Int × Bool × Int × Int × Bool × (List Int) × (List Int) → Option (Int × Int × Bool × Int × Int × Bool × (List (List Int)) × (List Int) × (List Int))) (f3 : Int × Int × Int × Int × Int × Int × (List Int) × Int × (List Int) × (List Int) → Option (Int × (List Int))) (f4 : (List Int) → Option (Int × Int × Int × Int × Int × Int × Int × Int × Int × Int × Int × Int × Int × Int × Int × (List UInt8) × Int × Int × (List Int) × (List Int) × (List Int) × (List Int))) (f5 : (List Int) → Option (Int × Int × Int × Int × Int × Int × Int × Int × Int × Int × Int × Int × Int × Int × Int × (List UInt8) × Int × Int × (List Int) × (List Int) × (List Int) × (List Int))) (f6 : Int → Option (Int)) (f7 : (List Int) × (List Int) → Option ((List Int))) (x : Unit) : Option (Bool) :=
  (Option.bind (f0 ()) fun r1 =>
  (let v2 : List Int := ([(0 : Int), (0 : Int), (0 : Int), (1 : Int), (97 : Int)] : List Int)
  (cond (((decide (5 ≤ (List.length v2))) && true) && true)
  (Option.bind (f1 ((List.take 5 (List.drop 0 v2)), (0 : Int), false, (0 : Int), (0 : Int), false)) fun r3 =>
  (let v4 : List Int := ([(128 : Int), (0 : Int), (0 : Int), (1 : Int), (98 : Int)] : List Int)
  (cond (((decide (5 ≤ (List.length v4))) && true) && true)
  (Option.bind (f2 ((List.take 5 (List.drop 0 v4)), r3.2.1, r3.2.2.1, r3.2.2.2.1, r3.2.2.2.2.1, r3.2.2.2.2.2.1, r3.2.2.2.2.2.2.2.1, r3.2.2.2.2.2.2.2.2)) fun r5 =>
  (Option.bind (f3 ((9 : Int), (2 : Int), (100003 : Int), (3 : Int), (1 : Int), (0 : Int), ([] : List Int), (0 : Int), ([] : List Int), ([] : List Int))) fun r6 =>
  (Option.bind (f5 r6.2) fun r7 =>
  (Option.bind
  (Option.bind (f6 r3.1) fun r9 =>
  (cond (decide (r9 = (0 : Int)))
  (cond (decide ((((List.length r3.2.2.2.2.2.2.1) : Nat) : Int) = (0 : Int)))
  (Option.bind (f6 r5.1) fun r13 =>
  (cond (decide (r13 = (0 : Int)))
  (cond (decide ((((List.length r5.2.2.2.2.2.2.1) : Nat) : Int) = (1 : Int)))
  (cond (decide ((0 : Int) < (((List.length r5.2.2.2.2.2.2.1) : Nat) : Int)))
  ((cond (decide (0 < (List.length r5.2.2.2.2.2.2.1)))
  ((cond (decide ((List.map (fun (n : Int) => UInt8.ofNat n.toNat) (List.getD r5.2.2.2.2.2.2.1 0 (EK.dflt (.sl (.int .u8))))) = ([97, 98] : List UInt8)))
  (Option.bind (f6 r6.1) fun r20 =>
  (cond (decide (r20 = (0 : Int)))
  (cond (decide (r7.1 = (2 : Int)))
  (cond (decide (r7.2.2.2.2.2.2.1 = (9 : Int)))
  (Option.bind (f4 ([] : List Int)) fun r24 =>
  (cond (decide (r24.1 = (0 : Int)))
  (let v26 : List Int := ([(97 : Int), (98 : Int), (99 : Int)] : List Int)
  (let v27 : List Int := ([(1 : Int)] : List Int)
  (cond (cond (decide (3 ≤ (List.length v26))) (cond (decide (1 ≤ (List.length v27))) true false) false)
  (Option.bind (f7 ((List.take 3 (List.drop 0 v26)), (List.take 1 (List.drop 0 v27)))) fun r28 =>
  (some (decide ((List.map (fun (n : Int) => UInt8.ofNat n.toNat) r28) = ([0, 0, 0, 1, 97, 128, 0, 0, 2, 98, 99] : List UInt8)))))
  none)))
  (some false)))
  (some false))
  (some false))
  (some false)))
  (some false)))
  none))
  none)
  (some false))
  (some false)))
  (some false))
  (some false)))
  fun r31 =>
  (some r31)))))
  none)))
  none)))
theorem granarylaw21_live_f (N : Nat) (f0 : Unit → Option (Unit)) (f1 : (List Int) × Int × Bool × Int × Int × Bool → Option (Int × Int × Bool × Int × Int × Bool × (List (List Int)) × (List Int) × (List Int))) (f2 : (List Int) × Int × Bool × Int × Int × Bool × (List Int) × (List Int) → Option (Int × Int × Bool × Int × Int × Bool × (List (List Int)) × (List Int) × (List Int))) (f3 : Int × Int × Int × Int × Int × Int × (List Int) × Int × (List Int) × (List Int) → Option (Int × (List Int))) (f4 : (List Int) → Option (Int × Int × Int × Int × Int × Int × Int × Int × Int × Int × Int × Int × Int × Int × Int × (List UInt8) × Int × Int × (List Int) × (List Int) × (List Int) × (List Int))) (f5 : (List Int) → Option (Int × Int × Int × Int × Int × Int × Int × Int × Int × Int × Int × Int × Int × Int × Int × (List UInt8) × Int × Int × (List Int) × (List Int) × (List Int) × (List Int))) (f6 : Int → Option (Int)) (f7 : (List Int) × (List Int) → Option ((List Int))) (x) : granarylaw21_live_a N f0 f1 f2 f3 f4 f5 f6 f7 x = fnStep Γ (granarylaw21_live_CA N f0 f1 f2 f3 f4 f5 f6 f7) (granarylaw21_live_J N) 85 Try.f12.results.toList (granarylaw21_live_g N) granarylaw21_live_o granarylaw21_live_c x := by kernel_rfl
theorem granarylaw21_live_e (N : Nat) (x) : (granarylaw21_live_g N).F x = fnStep Γ (granarylaw21_live_C N) (granarylaw21_live_J N) 85 Try.f12.results.toList (granarylaw21_live_g N) granarylaw21_live_o granarylaw21_live_c x := by
  rw [← granarylaw21_live_CE N]
  exact Eq.trans (by kernel_rfl) (granarylaw21_live_f N (rpc_NewFramer) (rpc_Framer_Feed N) (rpc_Framer_Feed_v1 N) (rpc_PutCall N) (rpc_Classify_v1 N) (rpc_Classify N) (granarylaw21_num) (rpc_Frame N) x)
theorem granarylaw21_live_y : Try.f12.body = some granarylaw21_live_c := by kernel_rfl
theorem granarylaw21_live_n : (Try.f12.name == "runtime.NumGoroutine") = false := by kernel_rfl
theorem granarylaw21_live_ok (N : Nat) : FnDoes Try.prog 12 (granarylaw21_live_g N) := fn_ok tabOK (granarylaw21_live_t N) mixedOK (J := granarylaw21_live_J N) (body := granarylaw21_live_c) Try.func12 granarylaw21_live_y granarylaw21_live_n Try.ntmps12 (jok_from granarylaw21_live_i ⟨trivial, trivial⟩) rfl rfl (le_of_ble rfl) (granarylaw21_live_e N)
noncomputable def xdr_Writer_Opaque_v1_c : Code := codeOf Try.f85.body
noncomputable def xdr_Writer_Opaque_v1_J (N : Nat) : Nat → Hint := fun cx => hintOf cx [(0, { reg := fun k => assoc0 k [], cnd := fun k => assoc0 k [(10, ⟨[2], [0, 1], [(.normal, ⟨[], [(.sh (.one (.const (.slw 3 1))), true), (.sh (.one (.int .i64)), false), (.dead, false), (.sh (.arr (.int .u8) none), false)]⟩)], [[.int, .lst (.int .u8)]]⟩)], loop := fun k => assoc0 k [], nil := fun k => assoc0 k [], unr := fun k => assocN k [], blk := fun k => assoc0 k [] })]
noncomputable def xdr_Writer_Opaque_v1_C (N : Nat) : Nat → List GS := fun k => tabOf k [(86, [xdr_Writer_fits_g N]), (57, [xdr_Writer_Uint_v1_g N]), (93, [xdr_Writer_Fixed_g N])]
def xdr_Writer_Opaque_v1_o : List (Shp × List Nat) := [(⟨[(0, (.tup []))], [(.sh (.one (.const (.slw 3 1))), true), (.sh (.one (.int .i64)), false), (.dead, false), (.sh (.arr (.int .u8) none), false)]⟩, [])]
noncomputable def xdr_Writer_Opaque_v1_g (N : Nat) : GS := { ins := ⟨[(0, (.av (.one (.const (.ptr ⟨0, 0, 0, 0⟩))))), (1, (.av (.one (.rsl (.int .u8))))), (2, (.av (.one (.int .i64))))], [(some (.one (.const (.slw 2 1))), true), (some (.one (.int .i64)), false), (some (.arr (.int .u8) none), false)]⟩, lend := [.keep, .lend (.int .u8), .keep], outs := xdr_Writer_Opaque_v1_o.map fun s => ssOf s.1, its := [.lst (.int .u8), .int, .int, .lst (.int .u8)], ots := [[.int, .lst (.int .u8)]], F := xdr_Writer_Opaque_v1 N }
noncomputable def xdr_Writer_Opaque_v1_CA (N : Nat) (f0 : Int × Int × Int × (List Int) → Option (Bool × Int × (List Int))) (f1 : Int × Int × (List Int) → Option (Int × (List Int))) (f2 : (List Int) × Int × (List Int) → Option (Int × (List Int))) : Nat → List GS := fun k => tabOf k [(86, [{ xdr_Writer_fits_g N with F := f0 }]), (57, [{ xdr_Writer_Uint_v1_g N with F := f1 }]), (93, [{ xdr_Writer_Fixed_g N with F := f2 }])]
theorem xdr_Writer_Opaque_v1_CE (N : Nat) : xdr_Writer_Opaque_v1_CA N (xdr_Writer_fits) (xdr_Writer_Uint_v1 N) (xdr_Writer_Fixed N) = xdr_Writer_Opaque_v1_C N := by kernel_rfl
theorem xdr_Writer_Opaque_v1_t (N : Nat) : TabC Try.prog (xdr_Writer_Opaque_v1_C N) := tab_ok ⟨⟨xdr_Writer_fits_ok N, trivial⟩, ⟨xdr_Writer_Uint_v1_ok N, trivial⟩, ⟨xdr_Writer_Fixed_ok N, trivial⟩, trivial⟩
theorem xdr_Writer_Opaque_v1_i : loopsOf xdr_Writer_Opaque_v1_c = [] := by kernel_rfl
noncomputable def xdr_Writer_Opaque_v1_a (N : Nat) (f0 : Int × Int × Int × (List Int) → Option (Bool × Int × (List Int))) (f1 : Int × Int × (List Int) → Option (Int × (List Int))) (f2 : (List Int) × Int × (List Int) → Option (Int × (List Int))) (x : (List Int) × Int × Int × (List Int)) : Option (Int × (List Int)) :=
  (Option.bind (f0 ((((List.length x.1) : Nat) : Int), x.2.1, x.2.2.1, x.2.2.2)) fun r2 =>
  (Option.bind
  (cond r2.1
  (Option.bind (f1 ((wrapF .u32 (((List.length x.1) : Nat) : Int)), r2.2.1, r2.2.2)) fun r5 =>
  (Option.bind (f2 (x.1, r5.1, r5.2)) fun r6 =>
  (some (r6.1, r6.2))))
  (some (r2.2.1, r2.2.2)))
  fun r7 =>
  (some (r7.1, r7.2))))
theorem xdr_Writer_Opaque_v1_f (N : Nat) (f0 : Int × Int × Int × (List Int) → Option (Bool × Int × (List Int))) (f1 : Int × Int × (List Int) → Option (Int × (List Int))) (f2 : (List Int) × Int × (List Int) → Option (Int × (List Int))) (x) : xdr_Writer_Opaque_v1_a N f0 f1 f2 x = fnStep Γ (xdr_Writer_Opaque_v1_CA N f0 f1 f2) (xdr_Writer_Opaque_v1_J N) 19 Try.f85.results.toList (xdr_Writer_Opaque_v1_g N) xdr_Writer_Opaque_v1_o xdr_Writer_Opaque_v1_c x := by kernel_rfl
theorem xdr_Writer_Opaque_v1_e (N : Nat) (x) : (xdr_Writer_Opaque_v1_g N).F x = fnStep Γ (xdr_Writer_Opaque_v1_C N) (xdr_Writer_Opaque_v1_J N) 19 Try.f85.results.toList (xdr_Writer_Opaque_v1_g N) xdr_Writer_Opaque_v1_o xdr_Writer_Opaque_v1_c x := by
  rw [← xdr_Writer_Opaque_v1_CE N]
  exact Eq.trans (by kernel_rfl) (xdr_Writer_Opaque_v1_f N (xdr_Writer_fits) (xdr_Writer_Uint_v1 N) (xdr_Writer_Fixed N) x)
theorem xdr_Writer_Opaque_v1_y : Try.f85.body = some xdr_Writer_Opaque_v1_c := by kernel_rfl
theorem xdr_Writer_Opaque_v1_n : (Try.f85.name == "runtime.NumGoroutine") = false := by kernel_rfl
theorem xdr_Writer_Opaque_v1_ok (N : Nat) : FnDoes Try.prog 85 (xdr_Writer_Opaque_v1_g N) := fn_ok tabOK (xdr_Writer_Opaque_v1_t N) mixedOK (J := xdr_Writer_Opaque_v1_J N) (body := xdr_Writer_Opaque_v1_c) Try.func85 xdr_Writer_Opaque_v1_y xdr_Writer_Opaque_v1_n Try.ntmps85 (jok_from xdr_Writer_Opaque_v1_i ⟨trivial, trivial⟩) rfl rfl (le_of_ble rfl) (xdr_Writer_Opaque_v1_e N)
noncomputable def xdr_Writer_Text_c : Code := codeOf Try.f63.body
noncomputable def xdr_Writer_Text_J (N : Nat) : Nat → Hint := fun cx => hintOf cx []
noncomputable def xdr_Writer_Text_C (N : Nat) : Nat → List GS := fun k => tabOf k [(85, [xdr_Writer_Opaque_v1_g N])]
def xdr_Writer_Text_o : List (Shp × List Nat) := [(⟨[(0, (.tup []))], [(.sh (.one (.const (.slw 3 1))), true), (.sh (.one (.int .i64)), false), (.dead, false), (.sh (.arr (.int .u8) none), false)]⟩, [])]
noncomputable def xdr_Writer_Text_g (N : Nat) : GS := { ins := ⟨[(0, (.av (.one (.const (.ptr ⟨0, 0, 0, 0⟩))))), (1, (.av (.one .str))), (2, (.av (.one (.int .i64))))], [(some (.one (.const (.slw 2 1))), true), (some (.one (.int .i64)), false), (some (.arr (.int .u8) none), false)]⟩, lend := [.keep, .keep, .keep], outs := xdr_Writer_Text_o.map fun s => ssOf s.1, its := [.str, .int, .int, .lst (.int .u8)], ots := [[.int, .lst (.int .u8)]], F := xdr_Writer_Text N }
noncomputable def xdr_Writer_Text_CA (N : Nat) (f0 : (List Int) × Int × Int × (List Int) → Option (Int × (List Int))) : Nat → List GS := fun k => tabOf k [(85, [{ xdr_Writer_Opaque_v1_g N with F := f0 }])]
theorem xdr_Writer_Text_CE (N : Nat) : xdr_Writer_Text_CA N (xdr_Writer_Opaque_v1 N) = xdr_Writer_Text_C N := by kernel_rfl
theorem xdr_Writer_Text_t (N : Nat) : TabC Try.prog (xdr_Writer_Text_C N) := tab_ok ⟨⟨xdr_Writer_Opaque_v1_ok N, trivial⟩, trivial⟩
theorem xdr_Writer_Text_i : loopsOf xdr_Writer_Text_c = [] := by kernel_rfl
noncomputable def xdr_Writer_Text_a (N : Nat) (f0 : (List Int) × Int × Int × (List Int) → Option (Int × (List Int))) (x : (List UInt8) × Int × Int × (List Int)) : Option (Int × (List Int)) :=
  (Option.bind (f0 ((List.map (fun b => (b.toNat : Int)) x.1), x.2.1, x.2.2.1, x.2.2.2)) fun r2 =>
  (some (r2.1, r2.2)))
theorem xdr_Writer_Text_f (N : Nat) (f0 : (List Int) × Int × Int × (List Int) → Option (Int × (List Int))) (x) : xdr_Writer_Text_a N f0 x = fnStep Γ (xdr_Writer_Text_CA N f0) (xdr_Writer_Text_J N) 11 Try.f63.results.toList (xdr_Writer_Text_g N) xdr_Writer_Text_o xdr_Writer_Text_c x := by kernel_rfl
theorem xdr_Writer_Text_e (N : Nat) (x) : (xdr_Writer_Text_g N).F x = fnStep Γ (xdr_Writer_Text_C N) (xdr_Writer_Text_J N) 11 Try.f63.results.toList (xdr_Writer_Text_g N) xdr_Writer_Text_o xdr_Writer_Text_c x := by
  rw [← xdr_Writer_Text_CE N]
  exact Eq.trans (by kernel_rfl) (xdr_Writer_Text_f N (xdr_Writer_Opaque_v1 N) x)
theorem xdr_Writer_Text_y : Try.f63.body = some xdr_Writer_Text_c := by kernel_rfl
theorem xdr_Writer_Text_n : (Try.f63.name == "runtime.NumGoroutine") = false := by kernel_rfl
theorem xdr_Writer_Text_ok (N : Nat) : FnDoes Try.prog 63 (xdr_Writer_Text_g N) := fn_ok tabOK (xdr_Writer_Text_t N) mixedOK (J := xdr_Writer_Text_J N) (body := xdr_Writer_Text_c) Try.func63 xdr_Writer_Text_y xdr_Writer_Text_n Try.ntmps63 (jok_from xdr_Writer_Text_i trivial) rfl rfl (le_of_ble rfl) (xdr_Writer_Text_e N)
noncomputable def rpc_putGid_c : Code := codeOf Try.f65.body
noncomputable def rpc_putGid_J (N : Nat) : Nat → Hint := fun cx => hintOf cx []
noncomputable def rpc_putGid_C (N : Nat) : Nat → List GS := fun k => tabOf k [(57, [xdr_Writer_Uint_v1_g N])]
def rpc_putGid_o : List (Shp × List Nat) := [(⟨[(0, (.tup []))], [(.sh (.one (.const (.slw 3 1))), true), (.sh (.one (.int .i64)), false), (.dead, false), (.sh (.arr (.int .u8) none), false)]⟩, [])]
noncomputable def rpc_putGid_g (N : Nat) : GS := { ins := ⟨[(0, (.av (.one (.const (.ptr ⟨0, 0, 0, 0⟩))))), (1, (.av (.one (.int .u32))))], [(some (.one (.const (.slw 2 1))), true), (some (.one (.int .i64)), false), (some (.arr (.int .u8) none), false)]⟩, lend := [.keep, .keep], outs := rpc_putGid_o.map fun s => ssOf s.1, its := [.int, .int, .lst (.int .u8)], ots := [[.int, .lst (.int .u8)]], F := rpc_putGid N }
noncomputable def rpc_putGid_CA (N : Nat) (f0 : Int × Int × (List Int) → Option (Int × (List Int))) : Nat → List GS := fun k => tabOf k [(57, [{ xdr_Writer_Uint_v1_g N with F := f0 }])]
theorem rpc_putGid_CE (N : Nat) : rpc_putGid_CA N (xdr_Writer_Uint_v1 N) = rpc_putGid_C N := by kernel_rfl
theorem rpc_putGid_t (N : Nat) : TabC Try.prog (rpc_putGid_C N) := tab_ok ⟨⟨xdr_Writer_Uint_v1_ok N, trivial⟩, trivial⟩
theorem rpc_putGid_i : loopsOf rpc_putGid_c = [] := by kernel_rfl
noncomputable def rpc_putGid_a (N : Nat) (f0 : Int × Int × (List Int) → Option (Int × (List Int))) (x : Int × Int × (List Int)) : Option (Int × (List Int)) :=
  (Option.bind (f0 (x.1, x.2.1, x.2.2)) fun r1 =>
  (some (r1.1, r1.2)))
theorem rpc_putGid_f (N : Nat) (f0 : Int × Int × (List Int) → Option (Int × (List Int))) (x) : rpc_putGid_a N f0 x = fnStep Γ (rpc_putGid_CA N f0) (rpc_putGid_J N) 7 Try.f65.results.toList (rpc_putGid_g N) rpc_putGid_o rpc_putGid_c x := by kernel_rfl
theorem rpc_putGid_e (N : Nat) (x) : (rpc_putGid_g N).F x = fnStep Γ (rpc_putGid_C N) (rpc_putGid_J N) 7 Try.f65.results.toList (rpc_putGid_g N) rpc_putGid_o rpc_putGid_c x := by
  rw [← rpc_putGid_CE N]
  exact Eq.trans (by kernel_rfl) (rpc_putGid_f N (xdr_Writer_Uint_v1 N) x)
theorem rpc_putGid_y : Try.f65.body = some rpc_putGid_c := by kernel_rfl
theorem rpc_putGid_n : (Try.f65.name == "runtime.NumGoroutine") = false := by kernel_rfl
theorem rpc_putGid_ok (N : Nat) : FnDoes Try.prog 65 (rpc_putGid_g N) := fn_ok tabOK (rpc_putGid_t N) mixedOK (J := rpc_putGid_J N) (body := rpc_putGid_c) Try.func65 rpc_putGid_y rpc_putGid_n Try.ntmps65 (jok_from rpc_putGid_i trivial) rfl rfl (le_of_ble rfl) (rpc_putGid_e N)
noncomputable def xdr_PutList_uint32_c : Code := codeOf Try.f64.body
noncomputable def xdr_PutList_uint32_c0 : Code := codeOf (getLoop 0 xdr_PutList_uint32_c)
def xdr_PutList_uint32_d0 : LD := { ins := ⟨[(0, (.av (.one (.const (.ptr ⟨0, 0, 0, 0⟩))))), (3, (.av (.one (.const (.fn 65 []))))), (21, (.av (.one (.rsl (.int .u32))))), (22, (.av (.one (.int .i64)))), (23, (.av (.one (.int .i64))))], [(.sh (.one (.const (.slw 3 1))), true), (.sh (.one (.int .i64)), false), (.keep, false), (.sh (.arr (.int .u8) none), false)]⟩, mov := [3], wr := [0, 1], outs := [(.exit 0, ⟨[], [(.sh (.one (.const (.slw 4 1))), true), (.sh (.one (.int .i64)), false), (.keep, false), (.dead, false), (.sh (.arr (.int .u8) none), false)]⟩)], its := [.lst (.int .u32), .int, .int, .int, .lst (.int .u8)], ots := [[.int, .lst (.int .u8)]] }
noncomputable def xdr_PutList_uint32_J (N : Nat) : Nat → Hint := fun cx => hintOf cx [(0, { reg := fun k => assoc0 k [], cnd := fun k => assoc0 k [], loop := fun k => assoc0 k [(0, ⟨xdr_PutList_uint32_d0, loopF (xdr_PutList_uint32_b0 N) N⟩)], nil := fun k => assoc0 k [], unr := fun k => assocN k [], blk := fun k => assoc0 k [] })]
noncomputable def xdr_PutList_uint32_C (N : Nat) : Nat → List GS := fun k => tabOf k [(86, [xdr_Writer_fits_g N]), (57, [xdr_Writer_Uint_v1_g N]), (65, [rpc_putGid_g N])]
def xdr_PutList_uint32_o : List (Shp × List Nat) := [(⟨[(0, (.tup []))], [(.sh (.one (.const (.slw 3 1))), true), (.sh (.one (.int .i64)), false), (.dead, false), (.sh (.arr (.int .u8) none), false)]⟩, [2])]
noncomputable def xdr_PutList_uint32_g (N : Nat) : GS := { ins := ⟨[(0, (.av (.one (.const (.ptr ⟨0, 0, 0, 0⟩))))), (1, (.av (.one (.rsl (.int .u32))))), (2, (.av (.one (.int .i64)))), (3, (.av (.one (.const (.fn 65 [])))))], [(some (.one (.const (.slw 2 1))), true), (some (.one (.int .i64)), false), (some (.arr (.int .u8) none), false)]⟩, lend := [.keep, .keep, .keep, .keep], outs := xdr_PutList_uint32_o.map fun s => ssOf s.1, its := [.lst (.int .u32), .int, .int, .lst (.int .u8)], ots := [[.int, .lst (.int .u8)]], F := xdr_PutList_uint32 N }
noncomputable def xdr_PutList_uint32_CA (N : Nat) (f0 : Int × Int × Int × (List Int) → Option (Bool × Int × (List Int))) (f1 : Int × Int × (List Int) → Option (Int × (List Int))) (f2 : Int × Int × (List Int) → Option (Int × (List Int))) : Nat → List GS := fun k => tabOf k [(86, [{ xdr_Writer_fits_g N with F := f0 }]), (57, [{ xdr_Writer_Uint_v1_g N with F := f1 }]), (65, [{ rpc_putGid_g N with F := f2 }])]
theorem xdr_PutList_uint32_CE (N : Nat) : xdr_PutList_uint32_CA N (xdr_Writer_fits) (xdr_Writer_Uint_v1 N) (rpc_putGid N) = xdr_PutList_uint32_C N := by kernel_rfl
theorem xdr_PutList_uint32_t (N : Nat) : TabC Try.prog (xdr_PutList_uint32_C N) := tab_ok ⟨⟨xdr_Writer_fits_ok N, trivial⟩, ⟨xdr_Writer_Uint_v1_ok N, trivial⟩, ⟨rpc_putGid_ok N, trivial⟩, trivial⟩
theorem xdr_PutList_uint32_i0 : loopsOf xdr_PutList_uint32_c0 = [] := by kernel_rfl
noncomputable def xdr_PutList_uint32_a0 (N : Nat) (f0 : Int × Int × Int × (List Int) → Option (Bool × Int × (List Int))) (f1 : Int × Int × (List Int) → Option (Int × (List Int))) (f2 : Int × Int × (List Int) → Option (Int × (List Int))) (next : (List Int) × Int × Int × Int × (List Int) → Option ((Int × (List Int)))) (x : (List Int) × Int × Int × Int × (List Int)) : Option ((Int × (List Int))) :=
  (cond (decide (x.2.2.1 < x.2.1))
  (cond ((decide ((0 : Int) ≤ x.2.2.1)) && (decide (x.2.2.1 < (((List.length x.1) : Nat) : Int))))
  ((Option.bind (f2 ((List.getD x.1 (Int.toNat x.2.2.1) (EK.dflt (.int .u32))), x.2.2.2.1, x.2.2.2.2)) fun r3 =>
  (next (x.1, x.2.1, (wrapF .i64 (x.2.2.1 + (1 : Int))), r3.1, r3.2))))
  none)
  (some (x.2.2.2.1, x.2.2.2.2)))
theorem xdr_PutList_uint32_f0 (N : Nat) (f0 : Int × Int × Int × (List Int) → Option (Bool × Int × (List Int))) (f1 : Int × Int × (List Int) → Option (Int × (List Int))) (f2 : Int × Int × (List Int) → Option (Int × (List Int))) (next) (x) : xdr_PutList_uint32_a0 N f0 f1 f2 next x = loopStep Γ (xdr_PutList_uint32_CA N f0 f1 f2) (xdr_PutList_uint32_J N) 0 32 xdr_PutList_uint32_d0 xdr_PutList_uint32_c0 next x := by kernel_rfl
theorem xdr_PutList_uint32_e0 (N : Nat) (next) (x) : xdr_PutList_uint32_b0 N next x = loopStep Γ (xdr_PutList_uint32_C N) (xdr_PutList_uint32_J N) 0 32 xdr_PutList_uint32_d0 xdr_PutList_uint32_c0 next x := by
  rw [← xdr_PutList_uint32_CE N]
  exact Eq.trans (by kernel_rfl) (xdr_PutList_uint32_f0 N (xdr_Writer_fits) (xdr_Writer_Uint_v1 N) (rpc_putGid N) next x)
theorem xdr_PutList_uint32_k0 (N : Nat) : LoopOK Try.prog 32 xdr_PutList_uint32_c0 ⟨xdr_PutList_uint32_d0, loopF (xdr_PutList_uint32_b0 N) N⟩ := loop_ok tabOK (xdr_PutList_uint32_t N) mixedOK (J := xdr_PutList_uint32_J N) (cx := 0) (body := xdr_PutList_uint32_c0) (nt := 32) (l := xdr_PutList_uint32_d0) (b := xdr_PutList_uint32_b0 N) (jok_from xdr_PutList_uint32_i0 ⟨trivial, trivial⟩) (xdr_PutList_uint32_e0 N) N
theorem xdr_PutList_uint32_i : loopsOf xdr_PutList_uint32_c = [(0, xdr_PutList_uint32_c0)] := by kernel_rfl
noncomputable def xdr_PutList_uint32_a (N : Nat) (f0 : Int × Int × Int × (List Int) → Option (Bool × Int × (List Int))) (f1 : Int × Int × (List Int) → Option (Int × (List Int))) (f2 : Int × Int × (List Int) → Option (Int × (List Int))) (x : (List Int) × Int × Int × (List Int)) : Option (Int × (List Int)) :=
  (Option.bind (f0 ((((List.length x.1) : Nat) : Int), x.2.1, x.2.2.1, x.2.2.2)) fun r2 =>
  (cond (!r2.1)
  (some (r2.2.1, r2.2.2))
  (Option.bind (f1 ((wrapF .u32 (((List.length x.1) : Nat) : Int)), r2.2.1, r2.2.2)) fun r6 =>
  (Option.bind (xdr_PutList_uint32_l0 N (x.1, (((List.length x.1) : Nat) : Int), (0 : Int), r6.1, r6.2)) fun r8 =>
  (some (r8.1, r8.2))))))
theorem xdr_PutList_uint32_f (N : Nat) (f0 : Int × Int × Int × (List Int) → Option (Bool × Int × (List Int))) (f1 : Int × Int × (List Int) → Option (Int × (List Int))) (f2 : Int × Int × (List Int) → Option (Int × (List Int))) (x) : xdr_PutList_uint32_a N f0 f1 f2 x = fnStep Γ (xdr_PutList_uint32_CA N f0 f1 f2) (xdr_PutList_uint32_J N) 32 Try.f64.results.toList (xdr_PutList_uint32_g N) xdr_PutList_uint32_o xdr_PutList_uint32_c x := by kernel_rfl
theorem xdr_PutList_uint32_e (N : Nat) (x) : (xdr_PutList_uint32_g N).F x = fnStep Γ (xdr_PutList_uint32_C N) (xdr_PutList_uint32_J N) 32 Try.f64.results.toList (xdr_PutList_uint32_g N) xdr_PutList_uint32_o xdr_PutList_uint32_c x := by
  rw [← xdr_PutList_uint32_CE N]
  exact Eq.trans (by kernel_rfl) (xdr_PutList_uint32_f N (xdr_Writer_fits) (xdr_Writer_Uint_v1 N) (rpc_putGid N) x)
theorem xdr_PutList_uint32_y : Try.f64.body = some xdr_PutList_uint32_c := by kernel_rfl
theorem xdr_PutList_uint32_n : (Try.f64.name == "runtime.NumGoroutine") = false := by kernel_rfl
theorem xdr_PutList_uint32_ok (N : Nat) : FnDoes Try.prog 64 (xdr_PutList_uint32_g N) := fn_ok tabOK (xdr_PutList_uint32_t N) mixedOK (J := xdr_PutList_uint32_J N) (body := xdr_PutList_uint32_c) Try.func64 xdr_PutList_uint32_y xdr_PutList_uint32_n Try.ntmps64 (jok_from xdr_PutList_uint32_i ⟨⟨.inr ⟨_, rfl, xdr_PutList_uint32_k0 N⟩, trivial⟩, trivial⟩) rfl rfl (le_of_ble rfl) (xdr_PutList_uint32_e N)
noncomputable def rpc_PutCred_c : Code := codeOf Try.f32.body
noncomputable def rpc_PutCred_J (N : Nat) : Nat → Hint := fun cx => hintOf cx [(0, { reg := fun k => assoc0 k [(3, ⟨⟨[(32, (.av (.one .bool)))], [(.keep, true), (.keep, true), (.keep, true), (.keep, true), (.keep, true), (.keep, false), (.keep, true), (.keep, false)]⟩, [], [], [.bool]⟩)], cnd := fun k => assoc0 k [], loop := fun k => assoc0 k [], nil := fun k => assoc0 k [], unr := fun k => assocN k [], blk := fun k => assoc0 k [] })]
noncomputable def rpc_PutCred_C (N : Nat) : Nat → List GS := fun k => tabOf k [(56, [xdr_NewWriter_g N]), (57, [xdr_Writer_Uint_g N, xdr_Writer_Uint_v1_g N]), (63, [xdr_Writer_Text_g N]), (64, [xdr_PutList_uint32_g N]), (59, [xdr_Writer_Why_g N]), (60, [xdr_Writer_Bytes_g N])]
def rpc_PutCred_o : List (Shp × List Nat) := [(⟨[(0, (.tup [(.agg [(.one (.int .u32)), (.one (.const (.slw 0 1)))]), (.one (.int .i64))]))], [(.sh (.arr (.int .u8) none), false)]⟩, [])]
noncomputable def rpc_PutCred_g (N : Nat) : GS := { ins := ⟨[(0, (.av (.agg [(.one (.int .u32)), (.one (.int .u32)), (.one .str), (.one (.int .u32)), (.one (.int .u32)), (.one (.rsl (.int .u32)))])))], []⟩, lend := [.keep], outs := rpc_PutCred_o.map fun s => ssOf s.1, its := [.int, .int, .str, .int, .int, .lst (.int .u32)], ots := [[.int, .int, .lst (.int .u8)]], F := rpc_PutCred N }
noncomputable def rpc_PutCred_CA (N : Nat) (f0 : Unit → Option (Unit)) (f1 : Int × Int → Option (Int × (List Int))) (f2 : Int × Int × (List Int) → Option (Int × (List Int))) (f3 : (List UInt8) × Int × Int × (List Int) → Option (Int × (List Int))) (f4 : (List Int) × Int × Int × (List Int) → Option (Int × (List Int))) (f5 : Int × (List Int) → Option (Int × Int × (List Int))) (f6 : Int × (List Int) → Option (Int × (List Int) × (List Int))) : Nat → List GS := fun k => tabOf k [(56, [{ xdr_NewWriter_g N with F := f0 }]), (57, [{ xdr_Writer_Uint_g N with F := f1 }, { xdr_Writer_Uint_v1_g N with F := f2 }]), (63, [{ xdr_Writer_Text_g N with F := f3 }]), (64, [{ xdr_PutList_uint32_g N with F := f4 }]), (59, [{ xdr_Writer_Why_g N with F := f5 }]), (60, [{ xdr_Writer_Bytes_g N with F := f6 }])]
theorem rpc_PutCred_CE (N : Nat) : rpc_PutCred_CA N (xdr_NewWriter) (xdr_Writer_Uint N) (xdr_Writer_Uint_v1 N) (xdr_Writer_Text N) (xdr_PutList_uint32 N) (xdr_Writer_Why) (xdr_Writer_Bytes) = rpc_PutCred_C N := by kernel_rfl
theorem rpc_PutCred_t (N : Nat) : TabC Try.prog (rpc_PutCred_C N) := tab_ok ⟨⟨xdr_NewWriter_ok N, trivial⟩, ⟨xdr_Writer_Uint_ok N, xdr_Writer_Uint_v1_ok N, trivial⟩, ⟨xdr_Writer_Text_ok N, trivial⟩, ⟨xdr_PutList_uint32_ok N, trivial⟩, ⟨xdr_Writer_Why_ok N, trivial⟩, ⟨xdr_Writer_Bytes_ok N, trivial⟩, trivial⟩
theorem rpc_PutCred_i : loopsOf rpc_PutCred_c = [] := by kernel_rfl
noncomputable def rpc_PutCred_a (N : Nat) (f0 : Unit → Option (Unit)) (f1 : Int × Int → Option (Int × (List Int))) (f2 : Int × Int × (List Int) → Option (Int × (List Int))) (f3 : (List UInt8) × Int × Int × (List Int) → Option (Int × (List Int))) (f4 : (List Int) × Int × Int × (List Int) → Option (Int × (List Int))) (f5 : Int × (List Int) → Option (Int × Int × (List Int))) (f6 : Int × (List Int) → Option (Int × (List Int) × (List Int))) (x : Int × Int × (List UInt8) × Int × Int × (List Int)) : Option (Int × Int × (List Int)) :=
  (cond (decide (x.1 = (0 : Int)))
  (Option.bind
  (cond (!(decide (x.2.1 = (0 : Int))))
  (some true)
  (cond (!(decide (x.2.2.1 = ([] : List UInt8))))
  (some true)
  (cond (!(decide (x.2.2.2.1 = (0 : Int))))
  (some true)
  (cond (!(decide (x.2.2.2.2.1 = (0 : Int))))
  (some true)
  (some (decide ((0 : Int) < (((List.length x.2.2.2.2.2) : Nat) : Int))))))))
  fun r8 =>
  (cond r8
  (some ((0 : Int), (2 : Int), ([] : List Int)))
  (some ((0 : Int), (0 : Int), ([] : List Int)))))
  (cond (decide (x.1 = (1 : Int)))
  (Option.bind (f0 ()) fun r10 =>
  (Option.bind (f1 (x.2.1, (0 : Int))) fun r11 =>
  (Option.bind (f3 (x.2.2.1, (64 : Int), r11.1, r11.2)) fun r12 =>
  (Option.bind (f2 (x.2.2.2.1, r12.1, r12.2)) fun r13 =>
  (Option.bind (f2 (x.2.2.2.2.1, r13.1, r13.2)) fun r14 =>
  (Option.bind (f4 (x.2.2.2.2.2, (16 : Int), r14.1, r14.2)) fun r15 =>
  (Option.bind (f5 (r15.1, r15.2)) fun r16 =>
  (cond (!(decide (r16.1 = (0 : Int))))
  (Option.bind (f5 (r16.2.1, r16.2.2)) fun r18 =>
  (some ((0 : Int), r18.1, ([] : List Int))))
  (Option.bind (f6 (r16.2.1, r16.2.2)) fun r19 =>
  (some ((1 : Int), (0 : Int), r19.2.2)))))))))))
  (some ((0 : Int), (2 : Int), ([] : List Int)))))
theorem rpc_PutCred_f (N : Nat) (f0 : Unit → Option (Unit)) (f1 : Int × Int → Option (Int × (List Int))) (f2 : Int × Int × (List Int) → Option (Int × (List Int))) (f3 : (List UInt8) × Int × Int × (List Int) → Option (Int × (List Int))) (f4 : (List Int) × Int × Int × (List Int) → Option (Int × (List Int))) (f5 : Int × (List Int) → Option (Int × Int × (List Int))) (f6 : Int × (List Int) → Option (Int × (List Int) × (List Int))) (x) : rpc_PutCred_a N f0 f1 f2 f3 f4 f5 f6 x = fnStep Γ (rpc_PutCred_CA N f0 f1 f2 f3 f4 f5 f6) (rpc_PutCred_J N) 68 Try.f32.results.toList (rpc_PutCred_g N) rpc_PutCred_o rpc_PutCred_c x := by kernel_rfl
theorem rpc_PutCred_e (N : Nat) (x) : (rpc_PutCred_g N).F x = fnStep Γ (rpc_PutCred_C N) (rpc_PutCred_J N) 68 Try.f32.results.toList (rpc_PutCred_g N) rpc_PutCred_o rpc_PutCred_c x := by
  rw [← rpc_PutCred_CE N]
  exact Eq.trans (by kernel_rfl) (rpc_PutCred_f N (xdr_NewWriter) (xdr_Writer_Uint N) (xdr_Writer_Uint_v1 N) (xdr_Writer_Text N) (xdr_PutList_uint32 N) (xdr_Writer_Why) (xdr_Writer_Bytes) x)
theorem rpc_PutCred_y : Try.f32.body = some rpc_PutCred_c := by kernel_rfl
theorem rpc_PutCred_n : (Try.f32.name == "runtime.NumGoroutine") = false := by kernel_rfl
theorem rpc_PutCred_ok (N : Nat) : FnDoes Try.prog 32 (rpc_PutCred_g N) := fn_ok tabOK (rpc_PutCred_t N) mixedOK (J := rpc_PutCred_J N) (body := rpc_PutCred_c) Try.func32 rpc_PutCred_y rpc_PutCred_n Try.ntmps32 (jok_from rpc_PutCred_i ⟨trivial, trivial⟩) rfl rfl (le_of_ble rfl) (rpc_PutCred_e N)
noncomputable def rpc_GetCall_c : Code := codeOf Try.f29.body
noncomputable def rpc_GetCall_J (N : Nat) : Nat → Hint := fun cx => hintOf cx [(0, { reg := fun k => assoc0 k [(7, ⟨⟨[(44, (.av (.one .bool)))], [(.keep, true), (.keep, true), (.keep, true), (.keep, true), (.keep, true), (.keep, true), (.keep, true), (.keep, true), (.keep, true), (.keep, false), (.keep, true), (.keep, true), (.keep, true), (.keep, false), (.keep, false), (.keep, true), (.keep, true), (.keep, true), (.keep, true), (.keep, true), (.keep, true), (.keep, true), (.keep, true), (.keep, true), (.keep, false), (.keep, false), (.keep, false)]⟩, [], [], [.bool]⟩)], cnd := fun k => assoc0 k [], loop := fun k => assoc0 k [], nil := fun k => assoc0 k [], unr := fun k => assocN k [], blk := fun k => assoc0 k [] })]
noncomputable def rpc_GetCall_C (N : Nat) : Nat → List GS := fun k => tabOf k [(45, [xdr_NewReader_g N]), (46, [xdr_Reader_Uint_g N]), (47, [rpc_getAuth_g N]), (48, [xdr_Reader_Why_g N]), (49, [rpc_rest_g N])]
def rpc_GetCall_o : List (Shp × List Nat) := [(⟨[(0, (.tup [(.agg [(.one (.int .u32)), (.one (.int .u32)), (.one (.int .u32)), (.one (.int .u32)), (.one (.int .u32)), (.one (.int .u32)), (.one (.const (.slw 0 1))), (.one (.int .u32)), (.one (.const (.slw 1 1))), (.one (.const (.slw 2 1)))]), (.one (.int .i64))]))], [(.sh (.arr (.int .u8) none), false), (.sh (.arr (.int .u8) none), false), (.sh (.arr (.int .u8) none), false)]⟩, [])]
noncomputable def rpc_GetCall_g (N : Nat) : GS := { ins := ⟨[(0, (.av (.one (.rsl (.int .u8)))))], []⟩, lend := [.lend (.int .u8)], outs := rpc_GetCall_o.map fun s => ssOf s.1, its := [.lst (.int .u8)], ots := [[.int, .int, .int, .int, .int, .int, .int, .int, .lst (.int .u8), .lst (.int .u8), .lst (.int .u8)]], F := rpc_GetCall N }
noncomputable def rpc_GetCall_CA (N : Nat) (f0 : (List Int) → Option ((List Int))) (f1 : Int × Int × Int × (List Int) → Option (Int × Int × Int × Int × (List Int))) (f2 : Int × Int × Int × (List Int) → Option (Int × Int × Int × Int × (List Int) × (List Int))) (f3 : Int × Int × Int × (List Int) → Option (Int × Int × Int × Int × Int × (List Int))) (f4 : (List Int) × Int × Int × Int × (List Int) → Option (Int × Int × Int × (List Int) × (List Int))) : Nat → List GS := fun k => tabOf k [(45, [{ xdr_NewReader_g N with F := f0 }]), (46, [{ xdr_Reader_Uint_g N with F := f1 }]), (47, [{ rpc_getAuth_g N with F := f2 }]), (48, [{ xdr_Reader_Why_g N with F := f3 }]), (49, [{ rpc_rest_g N with F := f4 }])]
theorem rpc_GetCall_CE (N : Nat) : rpc_GetCall_CA N (xdr_NewReader) (xdr_Reader_Uint N) (rpc_getAuth N) (xdr_Reader_Why) (rpc_rest) = rpc_GetCall_C N := by kernel_rfl
theorem rpc_GetCall_t (N : Nat) : TabC Try.prog (rpc_GetCall_C N) := tab_ok ⟨⟨xdr_NewReader_ok N, trivial⟩, ⟨xdr_Reader_Uint_ok N, trivial⟩, ⟨rpc_getAuth_ok N, trivial⟩, ⟨xdr_Reader_Why_ok N, trivial⟩, ⟨rpc_rest_ok N, trivial⟩, trivial⟩
theorem rpc_GetCall_i : loopsOf rpc_GetCall_c = [] := by kernel_rfl
noncomputable def rpc_GetCall_a (N : Nat) (f0 : (List Int) → Option ((List Int))) (f1 : Int × Int × Int × (List Int) → Option (Int × Int × Int × Int × (List Int))) (f2 : Int × Int × Int × (List Int) → Option (Int × Int × Int × Int × (List Int) × (List Int))) (f3 : Int × Int × Int × (List Int) → Option (Int × Int × Int × Int × Int × (List Int))) (f4 : (List Int) × Int × Int × Int × (List Int) → Option (Int × Int × Int × (List Int) × (List Int))) (x : (List Int)) : Option (Int × Int × Int × Int × Int × Int × Int × Int × (List Int) × (List Int) × (List Int)) :=
  (Option.bind (f0 x) fun r1 =>
  (Option.bind (f1 ((0 : Int), (0 : Int), (0 : Int), r1)) fun r2 =>
  (Option.bind (f1 (r2.2.1, r2.2.2.1, r2.2.2.2.1, r2.2.2.2.2)) fun r3 =>
  (Option.bind (f1 (r3.2.1, r3.2.2.1, r3.2.2.2.1, r3.2.2.2.2)) fun r4 =>
  (Option.bind (f1 (r4.2.1, r4.2.2.1, r4.2.2.2.1, r4.2.2.2.2)) fun r5 =>
  (Option.bind (f1 (r5.2.1, r5.2.2.1, r5.2.2.2.1, r5.2.2.2.2)) fun r6 =>
  (Option.bind (f1 (r6.2.1, r6.2.2.1, r6.2.2.2.1, r6.2.2.2.2)) fun r7 =>
  (Option.bind (f2 (r7.2.1, r7.2.2.1, r7.2.2.2.1, r7.2.2.2.2)) fun r8 =>
  (Option.bind (f2 (r8.2.1, r8.2.2.1, r8.2.2.2.1, r8.2.2.2.2.1)) fun r9 =>
  (Option.bind (f3 (r9.2.1, r9.2.2.1, r9.2.2.2.1, r9.2.2.2.2.1)) fun r10 =>
  (Option.bind
  (cond (!(decide (r10.1 = (0 : Int))))
  (some true)
  (some (!(decide (r3.1 = (0 : Int))))))
  fun r13 =>
  (cond r13
  (some ((0 : Int), (0 : Int), (0 : Int), (0 : Int), (0 : Int), (0 : Int), (0 : Int), (211 : Int), ([] : List Int), ([] : List Int), ([] : List Int)))
  (Option.bind (f4 (x, r10.2.2.1, r10.2.2.2.1, r10.2.2.2.2.1, r10.2.2.2.2.2)) fun r14 =>
  (some (r2.1, r4.1, r5.1, r6.1, r7.1, r8.1, r9.1, (0 : Int), r8.2.2.2.2.2, r9.2.2.2.2.2, r14.2.2.2.2)))))))))))))))
theorem rpc_GetCall_f (N : Nat) (f0 : (List Int) → Option ((List Int))) (f1 : Int × Int × Int × (List Int) → Option (Int × Int × Int × Int × (List Int))) (f2 : Int × Int × Int × (List Int) → Option (Int × Int × Int × Int × (List Int) × (List Int))) (f3 : Int × Int × Int × (List Int) → Option (Int × Int × Int × Int × Int × (List Int))) (f4 : (List Int) × Int × Int × Int × (List Int) → Option (Int × Int × Int × (List Int) × (List Int))) (x) : rpc_GetCall_a N f0 f1 f2 f3 f4 x = fnStep Γ (rpc_GetCall_CA N f0 f1 f2 f3 f4) (rpc_GetCall_J N) 51 Try.f29.results.toList (rpc_GetCall_g N) rpc_GetCall_o rpc_GetCall_c x := by kernel_rfl
theorem rpc_GetCall_e (N : Nat) (x) : (rpc_GetCall_g N).F x = fnStep Γ (rpc_GetCall_C N) (rpc_GetCall_J N) 51 Try.f29.results.toList (rpc_GetCall_g N) rpc_GetCall_o rpc_GetCall_c x := by
  rw [← rpc_GetCall_CE N]
  exact Eq.trans (by kernel_rfl) (rpc_GetCall_f N (xdr_NewReader) (xdr_Reader_Uint N) (rpc_getAuth N) (xdr_Reader_Why) (rpc_rest) x)
theorem rpc_GetCall_y : Try.f29.body = some rpc_GetCall_c := by kernel_rfl
theorem rpc_GetCall_n : (Try.f29.name == "runtime.NumGoroutine") = false := by kernel_rfl
theorem rpc_GetCall_ok (N : Nat) : FnDoes Try.prog 29 (rpc_GetCall_g N) := fn_ok tabOK (rpc_GetCall_t N) mixedOK (J := rpc_GetCall_J N) (body := rpc_GetCall_c) Try.func29 rpc_GetCall_y rpc_GetCall_n Try.ntmps29 (jok_from rpc_GetCall_i ⟨trivial, trivial⟩) rfl rfl (le_of_ble rfl) (rpc_GetCall_e N)
noncomputable def granaryref21_SameAuth_v1_c : Code := codeOf Try.f36.body
noncomputable def granaryref21_SameAuth_v1_J (N : Nat) : Nat → Hint := fun cx => hintOf cx [(0, { reg := fun k => assoc0 k [(1, ⟨⟨[(4, (.av (.one .bool)))], [(.keep, true), (.keep, false), (.keep, true), (.keep, false)]⟩, [], [], [.bool]⟩)], cnd := fun k => assoc0 k [], loop := fun k => assoc0 k [], nil := fun k => assoc0 k [], unr := fun k => assocN k [], blk := fun k => assoc0 k [] })]
noncomputable def granaryref21_SameAuth_v1_C (N : Nat) : Nat → List GS := fun k => tabOf k []
def granaryref21_SameAuth_v1_o : List (Shp × List Nat) := [(⟨[(0, (.av (.one .bool)))], []⟩, [])]
noncomputable def granaryref21_SameAuth_v1_g (N : Nat) : GS := { ins := ⟨[(0, (.av (.agg [(.one (.int .u32)), (.one (.rsl (.int .u8)))]))), (1, (.av (.agg [(.one (.int .u32)), (.one (.rsl (.int .u8)))])))], []⟩, lend := [.keep, .keep], outs := granaryref21_SameAuth_v1_o.map fun s => ssOf s.1, its := [.int, .lst (.int .u8), .int, .lst (.int .u8)], ots := [[.bool]], F := granaryref21_SameAuth_v1 }
theorem granaryref21_SameAuth_v1_t (N : Nat) : TabC Try.prog (granaryref21_SameAuth_v1_C N) := tab_ok trivial
theorem granaryref21_SameAuth_v1_i : loopsOf granaryref21_SameAuth_v1_c = [] := by kernel_rfl
theorem granaryref21_SameAuth_v1_e (N : Nat) (x) : (granaryref21_SameAuth_v1_g N).F x = fnStep Γ (granaryref21_SameAuth_v1_C N) (granaryref21_SameAuth_v1_J N) 19 Try.f36.results.toList (granaryref21_SameAuth_v1_g N) granaryref21_SameAuth_v1_o granaryref21_SameAuth_v1_c x := by kernel_rfl
theorem granaryref21_SameAuth_v1_y : Try.f36.body = some granaryref21_SameAuth_v1_c := by kernel_rfl
theorem granaryref21_SameAuth_v1_n : (Try.f36.name == "runtime.NumGoroutine") = false := by kernel_rfl
theorem granaryref21_SameAuth_v1_ok (N : Nat) : FnDoes Try.prog 36 (granaryref21_SameAuth_v1_g N) := fn_ok tabOK (granaryref21_SameAuth_v1_t N) mixedOK (J := granaryref21_SameAuth_v1_J N) (body := granaryref21_SameAuth_v1_c) Try.func36 granaryref21_SameAuth_v1_y granaryref21_SameAuth_v1_n Try.ntmps36 (jok_from granaryref21_SameAuth_v1_i ⟨trivial, trivial⟩) rfl rfl (le_of_ble rfl) (granaryref21_SameAuth_v1_e N)
noncomputable def rpc_whole_c : Code := codeOf Try.f73.body
noncomputable def rpc_whole_J (N : Nat) : Nat → Hint := fun cx => hintOf cx [(0, { reg := fun k => assoc0 k [(15, ⟨⟨[(2, (.av (.one .bool)))], [(.keep, true), (.keep, true), (.keep, true), (.keep, true), (.keep, true), (.keep, false), (.keep, true), (.keep, true), (.keep, true), (.keep, true), (.keep, true), (.keep, false)]⟩, [], [], [.bool]⟩)], cnd := fun k => assoc0 k [], loop := fun k => assoc0 k [], nil := fun k => assoc0 k [], unr := fun k => assocN k [], blk := fun k => assoc0 k [(3, ⟨[], [11], [(.normal, ⟨[], [(.keep, true), (.keep, true), (.keep, true), (.keep, true), (.keep, true), (.keep, false), (.keep, true), (.keep, true), (.keep, true), (.keep, true), (.keep, true), (.sh (.one (.const .nils)), false)]⟩), (.exit 0, ⟨[], [(.keep, true), (.keep, true), (.keep, true), (.keep, true), (.keep, true), (.keep, false), (.keep, true), (.keep, true), (.keep, true), (.keep, true), (.keep, true), (.sh (.one (.rsl (.int .u8))), false)]⟩), (.exit 4, ⟨[], [(.keep, true), (.keep, true), (.keep, true), (.keep, true), (.keep, true), (.keep, false), (.keep, true), (.keep, true), (.keep, true), (.keep, true), (.keep, true), (.sh (.one (.const .nils)), false)]⟩), (.exit 5, ⟨[], [(.keep, true), (.keep, true), (.keep, true), (.keep, true), (.keep, true), (.keep, false), (.keep, true), (.keep, true), (.keep, true), (.keep, true), (.keep, true), (.sh (.one (.const .nils)), false)]⟩), (.exit 6, ⟨[], [(.keep, true), (.keep, true), (.keep, true), (.keep, true), (.keep, true), (.keep, false), (.keep, true), (.keep, true), (.keep, true), (.keep, true), (.keep, true), (.sh (.one (.const .nils)), false)]⟩)], [[], [.lst (.int .u8)], [], [], []]⟩), (0, ⟨[], [8, 9, 10, 11], [(.normal, ⟨[], [(.keep, true), (.keep, true), (.keep, true), (.keep, true), (.keep, true), (.keep, false), (.keep, true), (.keep, true), (.sh (.one (.int .u32)), true), (.sh (.one (.int .u32)), true), (.sh (.one (.int .u32)), true), (.sh (.one (.rsl (.int .u8))), false)]⟩), (.ret, ⟨[(2, (.av (.one (.const (.bool false)))))], [(.keep, true), (.keep, true), (.keep, true), (.keep, true), (.keep, true), (.keep, false), (.keep, true), (.keep, true), (.sh (.one (.const (.int .u32 (0 : Int)))), true), (.sh (.one (.const (.int .u32 (0 : Int)))), true), (.sh (.one (.const (.int .u32 (0 : Int)))), true), (.sh (.one (.const .nils)), false)]⟩)], [[.int, .int, .int, .lst (.int .u8)], []]⟩)] })]
noncomputable def rpc_whole_C (N : Nat) : Nat → List GS := fun k => tabOf k []
def rpc_whole_o : List (Shp × List Nat) := [(⟨[(0, (.av (.one .bool)))], []⟩, [])]
noncomputable def rpc_whole_g (N : Nat) : GS := { ins := ⟨[(0, (.av (.agg [(.one (.int .u32)), (.one (.int .i64)), (.one (.int .u32)), (.one (.int .u32)), (.one (.int .u32)), (.one (.rsl (.int .u8)))])))], []⟩, lend := [.keep], outs := rpc_whole_o.map fun s => ssOf s.1, its := [.int, .int, .int, .int, .int, .lst (.int .u8)], ots := [[.bool]], F := rpc_whole }
theorem rpc_whole_t (N : Nat) : TabC Try.prog (rpc_whole_C N) := tab_ok trivial
theorem rpc_whole_i : loopsOf rpc_whole_c = [] := by kernel_rfl
theorem rpc_whole_e (N : Nat) (x) : (rpc_whole_g N).F x = fnStep Γ (rpc_whole_C N) (rpc_whole_J N) 64 Try.f73.results.toList (rpc_whole_g N) rpc_whole_o rpc_whole_c x := by kernel_rfl
theorem rpc_whole_y : Try.f73.body = some rpc_whole_c := by kernel_rfl
theorem rpc_whole_n : (Try.f73.name == "runtime.NumGoroutine") = false := by kernel_rfl
theorem rpc_whole_ok (N : Nat) : FnDoes Try.prog 73 (rpc_whole_g N) := fn_ok tabOK (rpc_whole_t N) mixedOK (J := rpc_whole_J N) (body := rpc_whole_c) Try.func73 rpc_whole_y rpc_whole_n Try.ntmps73 (jok_from rpc_whole_i ⟨trivial, trivial⟩) rfl rfl (le_of_ble rfl) (rpc_whole_e N)
noncomputable def rpc_PutReply_c : Code := codeOf Try.f38.body
noncomputable def rpc_PutReply_c1 : Code := codeOf (getLoop 1 rpc_PutReply_c)
def rpc_PutReply_d1 : LD := { ins := ⟨[(1, (.av (.one (.const (.ptr ⟨0, 0, 0, 0⟩))))), (4, (.av (.one (.const (.ptr ⟨6, 0, 0, 0⟩))))), (45, (.av (.one (.sl 9 1)))), (46, (.av (.one (.int .i64)))), (47, (.av (.one (.int .i64))))], [(.keep, false), (.keep, false), (.keep, false), (.keep, false), (.keep, false), (.keep, false), (.sh (.one (.const (.slw 10 1))), true), (.sh (.one (.int .i64)), false), (.keep, false), (.sh (.arr (.int .u32) none), false), (.sh (.arr (.int .u8) none), false)]⟩, mov := [10], wr := [6, 7, 9], outs := [(.exit 1, ⟨[], [(.keep, false), (.keep, false), (.keep, false), (.keep, false), (.keep, false), (.keep, false), (.sh (.one (.const (.slw 11 1))), true), (.sh (.one (.int .i64)), false), (.keep, false), (.sh (.arr (.int .u32) none), false), (.dead, false), (.sh (.arr (.int .u8) none), false)]⟩)], its := [.nat, .nat, .int, .int, .int, .lst (.int .u32), .lst (.int .u8)], ots := [[.int, .lst (.int .u32), .lst (.int .u8)]] }
noncomputable def rpc_PutReply_J (N : Nat) : Nat → Hint := fun cx => hintOf cx [(0, { reg := fun k => assoc0 k [], cnd := fun k => assoc0 k [(36, ⟨[8], [], [(.normal, ⟨[(5, (.av (.one (.sl 9 1))))], [(.keep, true), (.keep, true), (.keep, true), (.keep, true), (.keep, true), (.keep, false), (.keep, true), (.keep, false), (.dead, false), (.sh (.arr (.int .u32) none), false)]⟩)], [[.nat, .nat, .lst (.int .u32)]]⟩), (29, ⟨[], [8], [(.normal, ⟨[(5, (.av (.one (.sl 9 1))))], [(.keep, true), (.keep, true), (.keep, true), (.keep, true), (.keep, true), (.keep, false), (.keep, true), (.keep, false), (.dead, false), (.sh (.arr (.int .u32) none), false)]⟩)], [[.nat, .nat, .lst (.int .u32)]]⟩), (20, ⟨[], [8], [(.normal, ⟨[(5, (.av (.one (.sl 9 1))))], [(.keep, true), (.keep, true), (.keep, true), (.keep, true), (.keep, true), (.keep, false), (.keep, true), (.keep, false), (.dead, false), (.sh (.arr (.int .u32) none), false)]⟩)], [[.nat, .nat, .lst (.int .u32)]]⟩)], loop := fun k => assoc0 k [(1, ⟨rpc_PutReply_d1, loopF (rpc_PutReply_b1 N) N⟩)], nil := fun k => assoc0 k [], unr := fun k => assocN k [], blk := fun k => assoc0 k [] })]
noncomputable def rpc_PutReply_C (N : Nat) : Nat → List GS := fun k => tabOf k [(73, [rpc_whole_g N]), (56, [xdr_NewWriter_g N]), (57, [xdr_Writer_Uint_g N, xdr_Writer_Uint_v1_g N]), (60, [xdr_Writer_Bytes_g N])]
def rpc_PutReply_o : List (Shp × List Nat) := [(⟨[(0, (.tup [(.one (.const (.slw 0 1))), (.one (.int .i64))]))], [(.sh (.arr (.int .u8) none), false)]⟩, [])]
noncomputable def rpc_PutReply_g (N : Nat) : GS := { ins := ⟨[(0, (.av (.agg [(.one (.int .u32)), (.one (.int .i64)), (.one (.int .u32)), (.one (.int .u32)), (.one (.int .u32)), (.one (.rsl (.int .u8)))])))], []⟩, lend := [.keep], outs := rpc_PutReply_o.map fun s => ssOf s.1, its := [.int, .int, .int, .int, .int, .lst (.int .u8)], ots := [[.int, .lst (.int .u8)]], F := rpc_PutReply N }
noncomputable def rpc_PutReply_CA (N : Nat) (f0 : Int × Int × Int × Int × Int × (List Int) → Option (Bool)) (f1 : Unit → Option (Unit)) (f2 : Int × Int → Option (Int × (List Int))) (f3 : Int × Int × (List Int) → Option (Int × (List Int))) (f4 : Int × (List Int) → Option (Int × (List Int) × (List Int))) : Nat → List GS := fun k => tabOf k [(73, [{ rpc_whole_g N with F := f0 }]), (56, [{ xdr_NewWriter_g N with F := f1 }]), (57, [{ xdr_Writer_Uint_g N with F := f2 }, { xdr_Writer_Uint_v1_g N with F := f3 }]), (60, [{ xdr_Writer_Bytes_g N with F := f4 }])]
theorem rpc_PutReply_CE (N : Nat) : rpc_PutReply_CA N (rpc_whole) (xdr_NewWriter) (xdr_Writer_Uint N) (xdr_Writer_Uint_v1 N) (xdr_Writer_Bytes) = rpc_PutReply_C N := by kernel_rfl
theorem rpc_PutReply_t (N : Nat) : TabC Try.prog (rpc_PutReply_C N) := tab_ok ⟨⟨rpc_whole_ok N, trivial⟩, ⟨xdr_NewWriter_ok N, trivial⟩, ⟨xdr_Writer_Uint_ok N, xdr_Writer_Uint_v1_ok N, trivial⟩, ⟨xdr_Writer_Bytes_ok N, trivial⟩, trivial⟩
theorem rpc_PutReply_i1 : loopsOf rpc_PutReply_c1 = [] := by kernel_rfl
noncomputable def rpc_PutReply_a1 (N : Nat) (f0 : Int × Int × Int × Int × Int × (List Int) → Option (Bool)) (f1 : Unit → Option (Unit)) (f2 : Int × Int → Option (Int × (List Int))) (f3 : Int × Int × (List Int) → Option (Int × (List Int))) (f4 : Int × (List Int) → Option (Int × (List Int) × (List Int))) (next : Nat × Nat × Int × Int × Int × (List Int) × (List Int) → Option ((Int × (List Int) × (List Int)))) (x : Nat × Nat × Int × Int × Int × (List Int) × (List Int)) : Option ((Int × (List Int) × (List Int))) :=
  (cond (decide (x.2.2.2.1 < x.2.2.1))
  (cond ((decide ((0 : Int) ≤ x.2.2.2.1)) && (decide (x.2.2.2.1 < ((x.2.1 : Nat) : Int))))
  ((let v2 : Nat := ((Int.toNat x.2.2.2.1) + x.1)
  (cond (decide (v2 < (List.length x.2.2.2.2.2.1)))
  ((Option.bind (f3 ((List.getD x.2.2.2.2.2.1 v2 (EK.dflt (.int .u32))), x.2.2.2.2.1, x.2.2.2.2.2.2)) fun r4 =>
  (next (x.1, x.2.1, x.2.2.1, (wrapF .i64 (x.2.2.2.1 + (1 : Int))), r4.1, x.2.2.2.2.2.1, r4.2))))
  none)))
  none)
  (some (x.2.2.2.2.1, x.2.2.2.2.2.1, x.2.2.2.2.2.2)))
theorem rpc_PutReply_f1 (N : Nat) (f0 : Int × Int × Int × Int × Int × (List Int) → Option (Bool)) (f1 : Unit → Option (Unit)) (f2 : Int × Int → Option (Int × (List Int))) (f3 : Int × Int × (List Int) → Option (Int × (List Int))) (f4 : Int × (List Int) → Option (Int × (List Int) × (List Int))) (next) (x) : rpc_PutReply_a1 N f0 f1 f2 f3 f4 next x = loopStep Γ (rpc_PutReply_CA N f0 f1 f2 f3 f4) (rpc_PutReply_J N) 0 60 rpc_PutReply_d1 rpc_PutReply_c1 next x := by kernel_rfl
theorem rpc_PutReply_e1 (N : Nat) (next) (x) : rpc_PutReply_b1 N next x = loopStep Γ (rpc_PutReply_C N) (rpc_PutReply_J N) 0 60 rpc_PutReply_d1 rpc_PutReply_c1 next x := by
  rw [← rpc_PutReply_CE N]
  exact Eq.trans (by kernel_rfl) (rpc_PutReply_f1 N (rpc_whole) (xdr_NewWriter) (xdr_Writer_Uint N) (xdr_Writer_Uint_v1 N) (xdr_Writer_Bytes) next x)
theorem rpc_PutReply_k1 (N : Nat) : LoopOK Try.prog 60 rpc_PutReply_c1 ⟨rpc_PutReply_d1, loopF (rpc_PutReply_b1 N) N⟩ := loop_ok tabOK (rpc_PutReply_t N) mixedOK (J := rpc_PutReply_J N) (cx := 0) (body := rpc_PutReply_c1) (nt := 60) (l := rpc_PutReply_d1) (b := rpc_PutReply_b1 N) (jok_from rpc_PutReply_i1 ⟨trivial, trivial⟩) (rpc_PutReply_e1 N) N
theorem rpc_PutReply_i : loopsOf rpc_PutReply_c = [(1, rpc_PutReply_c1)] := by kernel_rfl
noncomputable def rpc_PutReply_a (N : Nat) (f0 : Int × Int × Int × Int × Int × (List Int) → Option (Bool)) (f1 : Unit → Option (Unit)) (f2 : Int × Int → Option (Int × (List Int))) (f3 : Int × Int × (List Int) → Option (Int × (List Int))) (f4 : Int × (List Int) → Option (Int × (List Int) × (List Int))) (x : Int × Int × Int × Int × Int × (List Int)) : Option (Int × (List Int)) :=
  (Option.bind (f0 (x.1, x.2.1, x.2.2.1, x.2.2.2.1, x.2.2.2.2.1, x.2.2.2.2.2)) fun r1 =>
  (cond (!r1)
  (some ((2 : Int), ([] : List Int)))
  (Option.bind (f1 ()) fun r3 =>
  (let v5 : List Int := ([x.1, (1 : Int), (0 : Int), (0 : Int), (0 : Int), (wrapF .u32 x.2.1)] : List Int)
  (Option.bind
  (cond (decide (x.2.1 = (6 : Int)))
  (some (0, 6, ([x.1, (1 : Int), (1 : Int), (0 : Int), x.2.2.1, x.2.2.2.1] : List Int)))
  (Option.bind
  (cond (decide (x.2.1 = (7 : Int)))
  (some (0, 5, ([x.1, (1 : Int), (1 : Int), (1 : Int), x.2.2.2.2.1] : List Int)))
  (Option.bind
  (cond (decide (x.2.1 = (2 : Int)))
  (let v11 : List Int := ([x.2.2.1, x.2.2.2.1] : List Int)
  (cond ((((decide (2 ≤ (List.length v11))) && (decide (6 = 6))) && (decide (0 + 6 ≤ (List.length v5)))) && (fits 4 (6 + (List.length (List.take 2 (List.drop 0 v11))))))
  ((let v12 : List Int := (List.take 6 (List.drop 0 v5) ++ (List.take 2 (List.drop 0 v11)))
  (some (0, (List.length v12), v12))))
  none))
  (some (0, 6, v5)))
  fun r13 =>
  (some (r13.1, r13.2.1, r13.2.2))))
  fun r14 =>
  (some (r14.1, r14.2.1, r14.2.2))))
  fun r15 =>
  (Option.bind (rpc_PutReply_l1 N (r15.1, r15.2.1, ((r15.2.1 : Nat) : Int), (0 : Int), (0 : Int), r15.2.2, ([] : List Int))) fun r17 =>
  (Option.bind (f4 (r17.1, r17.2.2)) fun r18 =>
  (cond (fits 1 ((List.length r18.2.2) + (List.length x.2.2.2.2.2)))
  ((some ((0 : Int), (r18.2.2 ++ x.2.2.2.2.2))))
  none))))))))
theorem rpc_PutReply_f (N : Nat) (f0 : Int × Int × Int × Int × Int × (List Int) → Option (Bool)) (f1 : Unit → Option (Unit)) (f2 : Int × Int → Option (Int × (List Int))) (f3 : Int × Int × (List Int) → Option (Int × (List Int))) (f4 : Int × (List Int) → Option (Int × (List Int) × (List Int))) (x) : rpc_PutReply_a N f0 f1 f2 f3 f4 x = fnStep Γ (rpc_PutReply_CA N f0 f1 f2 f3 f4) (rpc_PutReply_J N) 60 Try.f38.results.toList (rpc_PutReply_g N) rpc_PutReply_o rpc_PutReply_c x := by kernel_rfl
theorem rpc_PutReply_e (N : Nat) (x) : (rpc_PutReply_g N).F x = fnStep Γ (rpc_PutReply_C N) (rpc_PutReply_J N) 60 Try.f38.results.toList (rpc_PutReply_g N) rpc_PutReply_o rpc_PutReply_c x := by
  rw [← rpc_PutReply_CE N]
  exact Eq.trans (by kernel_rfl) (rpc_PutReply_f N (rpc_whole) (xdr_NewWriter) (xdr_Writer_Uint N) (xdr_Writer_Uint_v1 N) (xdr_Writer_Bytes) x)
theorem rpc_PutReply_y : Try.f38.body = some rpc_PutReply_c := by kernel_rfl
theorem rpc_PutReply_n : (Try.f38.name == "runtime.NumGoroutine") = false := by kernel_rfl
theorem rpc_PutReply_ok (N : Nat) : FnDoes Try.prog 38 (rpc_PutReply_g N) := fn_ok tabOK (rpc_PutReply_t N) mixedOK (J := rpc_PutReply_J N) (body := rpc_PutReply_c) Try.func38 rpc_PutReply_y rpc_PutReply_n Try.ntmps38 (jok_from rpc_PutReply_i ⟨⟨.inr ⟨_, rfl, rpc_PutReply_k1 N⟩, trivial⟩, trivial⟩) rfl rfl (le_of_ble rfl) (rpc_PutReply_e N)
noncomputable def rpc_PutReply_v1_c : Code := codeOf Try.f38.body
noncomputable def rpc_PutReply_v1_c1 : Code := codeOf (getLoop 1 rpc_PutReply_v1_c)
def rpc_PutReply_v1_d1 : LD := { ins := ⟨[(1, (.av (.one (.const (.ptr ⟨0, 0, 0, 0⟩))))), (4, (.av (.one (.const (.ptr ⟨6, 0, 0, 0⟩))))), (45, (.av (.one (.sl 9 1)))), (46, (.av (.one (.int .i64)))), (47, (.av (.one (.int .i64))))], [(.keep, false), (.keep, false), (.keep, false), (.keep, false), (.keep, false), (.keep, false), (.sh (.one (.const (.slw 10 1))), true), (.sh (.one (.int .i64)), false), (.keep, false), (.sh (.arr (.int .u32) none), false), (.sh (.arr (.int .u8) none), false)]⟩, mov := [10], wr := [6, 7, 9], outs := [(.exit 1, ⟨[], [(.keep, false), (.keep, false), (.keep, false), (.keep, false), (.keep, false), (.keep, false), (.sh (.one (.const (.slw 11 1))), true), (.sh (.one (.int .i64)), false), (.keep, false), (.sh (.arr (.int .u32) none), false), (.dead, false), (.sh (.arr (.int .u8) none), false)]⟩)], its := [.nat, .nat, .int, .int, .int, .lst (.int .u32), .lst (.int .u8)], ots := [[.int, .lst (.int .u32), .lst (.int .u8)]] }
noncomputable def rpc_PutReply_v1_J (N : Nat) : Nat → Hint := fun cx => hintOf cx [(0, { reg := fun k => assoc0 k [], cnd := fun k => assoc0 k [(36, ⟨[8], [], [(.normal, ⟨[(5, (.av (.one (.sl 9 1))))], [(.keep, true), (.keep, true), (.keep, true), (.keep, true), (.keep, true), (.keep, false), (.keep, true), (.keep, false), (.dead, false), (.sh (.arr (.int .u32) none), false)]⟩)], [[.nat, .nat, .lst (.int .u32)]]⟩), (29, ⟨[], [8], [(.normal, ⟨[(5, (.av (.one (.sl 9 1))))], [(.keep, true), (.keep, true), (.keep, true), (.keep, true), (.keep, true), (.keep, false), (.keep, true), (.keep, false), (.dead, false), (.sh (.arr (.int .u32) none), false)]⟩)], [[.nat, .nat, .lst (.int .u32)]]⟩), (20, ⟨[], [8], [(.normal, ⟨[(5, (.av (.one (.sl 9 1))))], [(.keep, true), (.keep, true), (.keep, true), (.keep, true), (.keep, true), (.keep, false), (.keep, true), (.keep, false), (.dead, false), (.sh (.arr (.int .u32) none), false)]⟩)], [[.nat, .nat, .lst (.int .u32)]]⟩)], loop := fun k => assoc0 k [(1, ⟨rpc_PutReply_v1_d1, loopF (rpc_PutReply_v1_b1 N) N⟩)], nil := fun k => assoc0 k [], unr := fun k => assocN k [], blk := fun k => assoc0 k [] })]
noncomputable def rpc_PutReply_v1_C (N : Nat) : Nat → List GS := fun k => tabOf k [(73, [rpc_whole_g N]), (56, [xdr_NewWriter_g N]), (57, [xdr_Writer_Uint_g N, xdr_Writer_Uint_v1_g N]), (60, [xdr_Writer_Bytes_g N])]
def rpc_PutReply_v1_o : List (Shp × List Nat) := [(⟨[(0, (.tup [(.one (.const (.slw 0 1))), (.one (.int .i64))]))], [(.sh (.arr (.int .u8) none), false)]⟩, [])]
noncomputable def rpc_PutReply_v1_g (N : Nat) : GS := { ins := ⟨[(0, (.av (.agg [(.one (.int .u32)), (.one (.int .i64)), (.one (.int .u32)), (.one (.int .u32)), (.one (.int .u32)), (.one (.rsl (.int .u8)))])))], []⟩, lend := [.agg [none, none, none, none, none, some (.int .u8)]], outs := rpc_PutReply_v1_o.map fun s => ssOf s.1, its := [.int, .int, .int, .int, .int, .lst (.int .u8)], ots := [[.int, .lst (.int .u8)]], F := rpc_PutReply_v1 N }
noncomputable def rpc_PutReply_v1_CA (N : Nat) (f0 : Int × Int × Int × Int × Int × (List Int) → Option (Bool)) (f1 : Unit → Option (Unit)) (f2 : Int × Int → Option (Int × (List Int))) (f3 : Int × Int × (List Int) → Option (Int × (List Int))) (f4 : Int × (List Int) → Option (Int × (List Int) × (List Int))) : Nat → List GS := fun k => tabOf k [(73, [{ rpc_whole_g N with F := f0 }]), (56, [{ xdr_NewWriter_g N with F := f1 }]), (57, [{ xdr_Writer_Uint_g N with F := f2 }, { xdr_Writer_Uint_v1_g N with F := f3 }]), (60, [{ xdr_Writer_Bytes_g N with F := f4 }])]
theorem rpc_PutReply_v1_CE (N : Nat) : rpc_PutReply_v1_CA N (rpc_whole) (xdr_NewWriter) (xdr_Writer_Uint N) (xdr_Writer_Uint_v1 N) (xdr_Writer_Bytes) = rpc_PutReply_v1_C N := by kernel_rfl
theorem rpc_PutReply_v1_t (N : Nat) : TabC Try.prog (rpc_PutReply_v1_C N) := tab_ok ⟨⟨rpc_whole_ok N, trivial⟩, ⟨xdr_NewWriter_ok N, trivial⟩, ⟨xdr_Writer_Uint_ok N, xdr_Writer_Uint_v1_ok N, trivial⟩, ⟨xdr_Writer_Bytes_ok N, trivial⟩, trivial⟩
theorem rpc_PutReply_v1_i1 : loopsOf rpc_PutReply_v1_c1 = [] := by kernel_rfl
noncomputable def rpc_PutReply_v1_a1 (N : Nat) (f0 : Int × Int × Int × Int × Int × (List Int) → Option (Bool)) (f1 : Unit → Option (Unit)) (f2 : Int × Int → Option (Int × (List Int))) (f3 : Int × Int × (List Int) → Option (Int × (List Int))) (f4 : Int × (List Int) → Option (Int × (List Int) × (List Int))) (next : Nat × Nat × Int × Int × Int × (List Int) × (List Int) → Option ((Int × (List Int) × (List Int)))) (x : Nat × Nat × Int × Int × Int × (List Int) × (List Int)) : Option ((Int × (List Int) × (List Int))) :=
  (cond (decide (x.2.2.2.1 < x.2.2.1))
  (cond ((decide ((0 : Int) ≤ x.2.2.2.1)) && (decide (x.2.2.2.1 < ((x.2.1 : Nat) : Int))))
  ((let v2 : Nat := ((Int.toNat x.2.2.2.1) + x.1)
  (cond (decide (v2 < (List.length x.2.2.2.2.2.1)))
  ((Option.bind (f3 ((List.getD x.2.2.2.2.2.1 v2 (EK.dflt (.int .u32))), x.2.2.2.2.1, x.2.2.2.2.2.2)) fun r4 =>
  (next (x.1, x.2.1, x.2.2.1, (wrapF .i64 (x.2.2.2.1 + (1 : Int))), r4.1, x.2.2.2.2.2.1, r4.2))))
  none)))
  none)
  (some (x.2.2.2.2.1, x.2.2.2.2.2.1, x.2.2.2.2.2.2)))
theorem rpc_PutReply_v1_f1 (N : Nat) (f0 : Int × Int × Int × Int × Int × (List Int) → Option (Bool)) (f1 : Unit → Option (Unit)) (f2 : Int × Int → Option (Int × (List Int))) (f3 : Int × Int × (List Int) → Option (Int × (List Int))) (f4 : Int × (List Int) → Option (Int × (List Int) × (List Int))) (next) (x) : rpc_PutReply_v1_a1 N f0 f1 f2 f3 f4 next x = loopStep Γ (rpc_PutReply_v1_CA N f0 f1 f2 f3 f4) (rpc_PutReply_v1_J N) 0 60 rpc_PutReply_v1_d1 rpc_PutReply_v1_c1 next x := by kernel_rfl
theorem rpc_PutReply_v1_e1 (N : Nat) (next) (x) : rpc_PutReply_v1_b1 N next x = loopStep Γ (rpc_PutReply_v1_C N) (rpc_PutReply_v1_J N) 0 60 rpc_PutReply_v1_d1 rpc_PutReply_v1_c1 next x := by
  rw [← rpc_PutReply_v1_CE N]
  exact Eq.trans (by kernel_rfl) (rpc_PutReply_v1_f1 N (rpc_whole) (xdr_NewWriter) (xdr_Writer_Uint N) (xdr_Writer_Uint_v1 N) (xdr_Writer_Bytes) next x)
theorem rpc_PutReply_v1_k1 (N : Nat) : LoopOK Try.prog 60 rpc_PutReply_v1_c1 ⟨rpc_PutReply_v1_d1, loopF (rpc_PutReply_v1_b1 N) N⟩ := loop_ok tabOK (rpc_PutReply_v1_t N) mixedOK (J := rpc_PutReply_v1_J N) (cx := 0) (body := rpc_PutReply_v1_c1) (nt := 60) (l := rpc_PutReply_v1_d1) (b := rpc_PutReply_v1_b1 N) (jok_from rpc_PutReply_v1_i1 ⟨trivial, trivial⟩) (rpc_PutReply_v1_e1 N) N
theorem rpc_PutReply_v1_i : loopsOf rpc_PutReply_v1_c = [(1, rpc_PutReply_v1_c1)] := by kernel_rfl
noncomputable def rpc_PutReply_v1_a (N : Nat) (f0 : Int × Int × Int × Int × Int × (List Int) → Option (Bool)) (f1 : Unit → Option (Unit)) (f2 : Int × Int → Option (Int × (List Int))) (f3 : Int × Int × (List Int) → Option (Int × (List Int))) (f4 : Int × (List Int) → Option (Int × (List Int) × (List Int))) (x : Int × Int × Int × Int × Int × (List Int)) : Option (Int × (List Int)) :=
  (Option.bind (f0 (x.1, x.2.1, x.2.2.1, x.2.2.2.1, x.2.2.2.2.1, x.2.2.2.2.2)) fun r1 =>
  (cond (!r1)
  (some ((2 : Int), ([] : List Int)))
  (Option.bind (f1 ()) fun r3 =>
  (let v5 : List Int := ([x.1, (1 : Int), (0 : Int), (0 : Int), (0 : Int), (wrapF .u32 x.2.1)] : List Int)
  (Option.bind
  (cond (decide (x.2.1 = (6 : Int)))
  (some (0, 6, ([x.1, (1 : Int), (1 : Int), (0 : Int), x.2.2.1, x.2.2.2.1] : List Int)))
  (Option.bind
  (cond (decide (x.2.1 = (7 : Int)))
  (some (0, 5, ([x.1, (1 : Int), (1 : Int), (1 : Int), x.2.2.2.2.1] : List Int)))
  (Option.bind
  (cond (decide (x.2.1 = (2 : Int)))
  (let v11 : List Int := ([x.2.2.1, x.2.2.2.1] : List Int)
  (cond ((((decide (2 ≤ (List.length v11))) && (decide (6 = 6))) && (decide (0 + 6 ≤ (List.length v5)))) && (fits 4 (6 + (List.length (List.take 2 (List.drop 0 v11))))))
  ((let v12 : List Int := (List.take 6 (List.drop 0 v5) ++ (List.take 2 (List.drop 0 v11)))
  (some (0, (List.length v12), v12))))
  none))
  (some (0, 6, v5)))
  fun r13 =>
  (some (r13.1, r13.2.1, r13.2.2))))
  fun r14 =>
  (some (r14.1, r14.2.1, r14.2.2))))
  fun r15 =>
  (Option.bind (rpc_PutReply_v1_l1 N (r15.1, r15.2.1, ((r15.2.1 : Nat) : Int), (0 : Int), (0 : Int), r15.2.2, ([] : List Int))) fun r17 =>
  (Option.bind (f4 (r17.1, r17.2.2)) fun r18 =>
  (cond (fits 1 ((List.length r18.2.2) + (List.length x.2.2.2.2.2)))
  ((some ((0 : Int), (r18.2.2 ++ x.2.2.2.2.2))))
  none))))))))
theorem rpc_PutReply_v1_f (N : Nat) (f0 : Int × Int × Int × Int × Int × (List Int) → Option (Bool)) (f1 : Unit → Option (Unit)) (f2 : Int × Int → Option (Int × (List Int))) (f3 : Int × Int × (List Int) → Option (Int × (List Int))) (f4 : Int × (List Int) → Option (Int × (List Int) × (List Int))) (x) : rpc_PutReply_v1_a N f0 f1 f2 f3 f4 x = fnStep Γ (rpc_PutReply_v1_CA N f0 f1 f2 f3 f4) (rpc_PutReply_v1_J N) 60 Try.f38.results.toList (rpc_PutReply_v1_g N) rpc_PutReply_v1_o rpc_PutReply_v1_c x := by kernel_rfl
theorem rpc_PutReply_v1_e (N : Nat) (x) : (rpc_PutReply_v1_g N).F x = fnStep Γ (rpc_PutReply_v1_C N) (rpc_PutReply_v1_J N) 60 Try.f38.results.toList (rpc_PutReply_v1_g N) rpc_PutReply_v1_o rpc_PutReply_v1_c x := by
  rw [← rpc_PutReply_v1_CE N]
  exact Eq.trans (by kernel_rfl) (rpc_PutReply_v1_f N (rpc_whole) (xdr_NewWriter) (xdr_Writer_Uint N) (xdr_Writer_Uint_v1 N) (xdr_Writer_Bytes) x)
theorem rpc_PutReply_v1_y : Try.f38.body = some rpc_PutReply_v1_c := by kernel_rfl
theorem rpc_PutReply_v1_n : (Try.f38.name == "runtime.NumGoroutine") = false := by kernel_rfl
theorem rpc_PutReply_v1_ok (N : Nat) : FnDoes Try.prog 38 (rpc_PutReply_v1_g N) := fn_ok tabOK (rpc_PutReply_v1_t N) mixedOK (J := rpc_PutReply_v1_J N) (body := rpc_PutReply_v1_c) Try.func38 rpc_PutReply_v1_y rpc_PutReply_v1_n Try.ntmps38 (jok_from rpc_PutReply_v1_i ⟨⟨.inr ⟨_, rfl, rpc_PutReply_v1_k1 N⟩, trivial⟩, trivial⟩) rfl rfl (le_of_ble rfl) (rpc_PutReply_v1_e N)
noncomputable def slices_Equal_byte_byte_c : Code := codeOf Try.f74.body
noncomputable def slices_Equal_byte_byte_c0 : Code := codeOf (getLoop 0 slices_Equal_byte_byte_c)
def slices_Equal_byte_byte_d0 : LD := { ins := ⟨[(0, (.av (.one (.rsl (.int .u8))))), (1, (.av (.one (.rsl (.int .u8))))), (12, (.av (.one (.int .i64)))), (13, (.av (.one (.int .i64))))], []⟩, mov := [], wr := [], outs := [(.ret, ⟨[(4, (.av (.one (.const (.bool false)))))], []⟩), (.exit 0, ⟨[], []⟩)], its := [.lst (.int .u8), .lst (.int .u8), .int, .int], ots := [[], []] }
noncomputable def slices_Equal_byte_byte_J (N : Nat) : Nat → Hint := fun cx => hintOf cx [(0, { reg := fun k => assoc0 k [], cnd := fun k => assoc0 k [], loop := fun k => assoc0 k [(0, ⟨slices_Equal_byte_byte_d0, loopF (slices_Equal_byte_byte_b0 N) N⟩)], nil := fun k => assoc0 k [], unr := fun k => assocN k [], blk := fun k => assoc0 k [] })]
noncomputable def slices_Equal_byte_byte_C (N : Nat) : Nat → List GS := fun k => tabOf k []
def slices_Equal_byte_byte_o : List (Shp × List Nat) := [(⟨[(0, (.av (.one .bool)))], []⟩, [])]
noncomputable def slices_Equal_byte_byte_g (N : Nat) : GS := { ins := ⟨[(0, (.av (.one (.rsl (.int .u8))))), (1, (.av (.one (.rsl (.int .u8)))))], []⟩, lend := [.lend (.int .u8), .keep], outs := slices_Equal_byte_byte_o.map fun s => ssOf s.1, its := [.lst (.int .u8), .lst (.int .u8)], ots := [[.bool]], F := slices_Equal_byte_byte N }
theorem slices_Equal_byte_byte_t (N : Nat) : TabC Try.prog (slices_Equal_byte_byte_C N) := tab_ok trivial
theorem slices_Equal_byte_byte_i0 : loopsOf slices_Equal_byte_byte_c0 = [] := by kernel_rfl
theorem slices_Equal_byte_byte_e0 (N : Nat) (next) (x) : slices_Equal_byte_byte_b0 N next x = loopStep Γ (slices_Equal_byte_byte_C N) (slices_Equal_byte_byte_J N) 0 26 slices_Equal_byte_byte_d0 slices_Equal_byte_byte_c0 next x := by kernel_rfl
theorem slices_Equal_byte_byte_k0 (N : Nat) : LoopOK Try.prog 26 slices_Equal_byte_byte_c0 ⟨slices_Equal_byte_byte_d0, loopF (slices_Equal_byte_byte_b0 N) N⟩ := loop_ok tabOK (slices_Equal_byte_byte_t N) mixedOK (J := slices_Equal_byte_byte_J N) (cx := 0) (body := slices_Equal_byte_byte_c0) (nt := 26) (l := slices_Equal_byte_byte_d0) (b := slices_Equal_byte_byte_b0 N) (jok_from slices_Equal_byte_byte_i0 ⟨trivial, trivial⟩) (slices_Equal_byte_byte_e0 N) N
theorem slices_Equal_byte_byte_i : loopsOf slices_Equal_byte_byte_c = [(0, slices_Equal_byte_byte_c0)] := by kernel_rfl
theorem slices_Equal_byte_byte_e (N : Nat) (x) : (slices_Equal_byte_byte_g N).F x = fnStep Γ (slices_Equal_byte_byte_C N) (slices_Equal_byte_byte_J N) 26 Try.f74.results.toList (slices_Equal_byte_byte_g N) slices_Equal_byte_byte_o slices_Equal_byte_byte_c x := by kernel_rfl
theorem slices_Equal_byte_byte_y : Try.f74.body = some slices_Equal_byte_byte_c := by kernel_rfl
theorem slices_Equal_byte_byte_n : (Try.f74.name == "runtime.NumGoroutine") = false := by kernel_rfl
theorem slices_Equal_byte_byte_ok (N : Nat) : FnDoes Try.prog 74 (slices_Equal_byte_byte_g N) := fn_ok tabOK (slices_Equal_byte_byte_t N) mixedOK (J := slices_Equal_byte_byte_J N) (body := slices_Equal_byte_byte_c) Try.func74 slices_Equal_byte_byte_y slices_Equal_byte_byte_n Try.ntmps74 (jok_from slices_Equal_byte_byte_i ⟨⟨.inr ⟨_, rfl, slices_Equal_byte_byte_k0 N⟩, trivial⟩, trivial⟩) rfl rfl (le_of_ble rfl) (slices_Equal_byte_byte_e N)
noncomputable def rpc_GetReply_c : Code := codeOf Try.f40.body
noncomputable def rpc_GetReply_J (N : Nat) : Nat → Hint := fun cx => hintOf cx [(0, { reg := fun k => assoc0 k [(11, ⟨⟨[(41, (.av (.one .bool)))], [(.keep, true), (.keep, true), (.keep, true), (.keep, true), (.keep, true), (.keep, false), (.sh (.one (.const (.slw 10 1))), true), (.sh (.one (.int .i64)), true), (.sh (.one (.int .i64)), true), (.sh (.one (.int .i64)), false), (.sh (.arr (.int .u8) none), false), (.keep, true), (.keep, true), (.keep, true), (.keep, true), (.keep, true), (.keep, false)]⟩, [], [6, 7, 8, 9, 10], [.bool, .int, .int, .int, .lst (.int .u8)]⟩), (13, ⟨⟨[(57, (.av (.one .bool)))], [(.keep, true), (.keep, true), (.keep, true), (.keep, true), (.keep, true), (.keep, false), (.keep, true), (.keep, true), (.keep, true), (.keep, false), (.keep, false), (.keep, true), (.keep, true), (.keep, true), (.keep, true), (.keep, true), (.keep, false)]⟩, [], [], [.bool]⟩), (17, ⟨⟨[(92, (.av (.one .bool)))], [(.keep, true), (.keep, true), (.keep, true), (.keep, true), (.keep, true), (.keep, false), (.keep, true), (.keep, true), (.keep, true), (.keep, false), (.keep, false), (.keep, true), (.keep, true), (.keep, true), (.keep, true), (.keep, true), (.keep, false), (.keep, false), (.keep, false)]⟩, [], [], [.bool]⟩)], cnd := fun k => assoc0 k [(27, ⟨[], [6, 7, 8, 9, 10, 13, 14], [(.normal, ⟨[], [(.keep, true), (.keep, true), (.keep, true), (.keep, true), (.keep, true), (.keep, false), (.sh (.one (.const (.slw 10 1))), true), (.sh (.one (.int .i64)), true), (.sh (.one (.int .i64)), true), (.sh (.one (.int .i64)), false), (.sh (.arr (.int .u8) none), false), (.keep, true), (.keep, true), (.sh (.one (.int .u32)), true), (.sh (.one (.int .u32)), true), (.keep, true), (.keep, false)]⟩)], [[.int, .int, .int, .lst (.int .u8), .int, .int]]⟩), (36, ⟨[], [6, 7, 8, 9, 10, 16], [(.normal, ⟨[], [(.keep, true), (.keep, true), (.keep, true), (.keep, true), (.keep, true), (.keep, false), (.sh (.one (.const (.slw 10 1))), true), (.sh (.one (.int .i64)), true), (.sh (.one (.int .i64)), true), (.sh (.one (.int .i64)), false), (.sh (.arr (.int .u8) none), false), (.keep, true), (.keep, true), (.keep, true), (.keep, true), (.keep, true), (.sh (.one (.const (.slw 17 1))), false), (.sh (.arr (.int .u8) none), false)]⟩)], [[.int, .int, .int, .lst (.int .u8), .lst (.int .u8)]]⟩), (57, ⟨[], [6, 7, 8, 9, 10, 12, 13, 14, 15, 16], [(.normal, ⟨[], [(.keep, true), (.keep, true), (.keep, true), (.keep, true), (.keep, true), (.keep, false), (.sh (.one (.const (.slw 10 1))), true), (.sh (.one (.int .i64)), true), (.sh (.one (.int .i64)), true), (.sh (.one (.int .i64)), false), (.sh (.arr (.int .u8) none), false), (.keep, true), (.sh (.one (.int .i64)), true), (.sh (.one (.int .u32)), true), (.sh (.one (.int .u32)), true), (.sh (.one (.int .u32)), true), (.sh (.one (.const (.slw 17 1))), false), (.sh (.arr (.int .u8) none), false)]⟩)], [[.int, .int, .int, .lst (.int .u8), .int, .int, .int, .int, .lst (.int .u8)]]⟩), (41, ⟨[], [6, 7, 8, 9, 10, 12, 13, 14, 15, 16], [(.normal, ⟨[], [(.keep, true), (.keep, true), (.keep, true), (.keep, true), (.keep, true), (.keep, false), (.sh (.one (.const (.slw 10 1))), true), (.sh (.one (.int .i64)), true), (.sh (.one (.int .i64)), true), (.sh (.one (.int .i64)), false), (.sh (.arr (.int .u8) none), false), (.keep, true), (.sh (.one (.int .i64)), true), (.sh (.one (.int .u32)), true), (.sh (.one (.int .u32)), true), (.sh (.one (.int .u32)), true), (.sh (.one (.const (.slw 17 1))), false), (.sh (.arr (.int .u8) none), false)]⟩)], [[.int, .int, .int, .lst (.int .u8), .int, .int, .int, .int, .lst (.int .u8)]]⟩)], loop := fun k => assoc0 k [], nil := fun k => assoc0 k [], unr := fun k => assocN k [], blk := fun k => assoc0 k [] })]
noncomputable def rpc_GetReply_C (N : Nat) : Nat → List GS := fun k => tabOf k [(45, [xdr_NewReader_g N]), (46, [xdr_Reader_Uint_g N]), (49, [rpc_rest_g N]), (38, [rpc_PutReply_v1_g N]), (48, [xdr_Reader_Why_g N]), (74, [slices_Equal_byte_byte_g N])]
def rpc_GetReply_o : List (Shp × List Nat) := [(⟨[(0, (.tup [(.agg [(.one (.int .u32)), (.one (.int .i64)), (.one (.int .u32)), (.one (.int .u32)), (.one (.int .u32)), (.one (.const (.slw 0 1)))]), (.one (.int .i64))]))], [(.sh (.arr (.int .u8) none), false)]⟩, [])]
noncomputable def rpc_GetReply_g (N : Nat) : GS := { ins := ⟨[(0, (.av (.one (.rsl (.int .u8)))))], []⟩, lend := [.lend (.int .u8)], outs := rpc_GetReply_o.map fun s => ssOf s.1, its := [.lst (.int .u8)], ots := [[.int, .int, .int, .int, .int, .int, .lst (.int .u8)]], F := rpc_GetReply N }
noncomputable def rpc_GetReply_CA (N : Nat) (f0 : (List Int) → Option ((List Int))) (f1 : Int × Int × Int × (List Int) → Option (Int × Int × Int × Int × (List Int))) (f2 : (List Int) × Int × Int × Int × (List Int) → Option (Int × Int × Int × (List Int) × (List Int))) (f3 : Int × Int × Int × Int × Int × (List Int) → Option (Int × (List Int))) (f4 : Int × Int × Int × (List Int) → Option (Int × Int × Int × Int × Int × (List Int))) (f5 : (List Int) × (List Int) → Option (Bool)) : Nat → List GS := fun k => tabOf k [(45, [{ xdr_NewReader_g N with F := f0 }]), (46, [{ xdr_Reader_Uint_g N with F := f1 }]), (49, [{ rpc_rest_g N with F := f2 }]), (38, [{ rpc_PutReply_v1_g N with F := f3 }]), (48, [{ xdr_Reader_Why_g N with F := f4 }]), (74, [{ slices_Equal_byte_byte_g N with F := f5 }])]
theorem rpc_GetReply_CE (N : Nat) : rpc_GetReply_CA N (xdr_NewReader) (xdr_Reader_Uint N) (rpc_rest) (rpc_PutReply_v1 N) (xdr_Reader_Why) (slices_Equal_byte_byte N) = rpc_GetReply_C N := by kernel_rfl
theorem rpc_GetReply_t (N : Nat) : TabC Try.prog (rpc_GetReply_C N) := tab_ok ⟨⟨xdr_NewReader_ok N, trivial⟩, ⟨xdr_Reader_Uint_ok N, trivial⟩, ⟨rpc_rest_ok N, trivial⟩, ⟨rpc_PutReply_v1_ok N, trivial⟩, ⟨xdr_Reader_Why_ok N, trivial⟩, ⟨slices_Equal_byte_byte_ok N, trivial⟩, trivial⟩
theorem rpc_GetReply_i : loopsOf rpc_GetReply_c = [] := by kernel_rfl
noncomputable def rpc_GetReply_a (N : Nat) (f0 : (List Int) → Option ((List Int))) (f1 : Int × Int × Int × (List Int) → Option (Int × Int × Int × Int × (List Int))) (f2 : (List Int) × Int × Int × Int × (List Int) → Option (Int × Int × Int × (List Int) × (List Int))) (f3 : Int × Int × Int × Int × Int × (List Int) → Option (Int × (List Int))) (f4 : Int × Int × Int × (List Int) → Option (Int × Int × Int × Int × Int × (List Int))) (f5 : (List Int) × (List Int) → Option (Bool)) (x : (List Int)) : Option (Int × Int × Int × Int × Int × Int × (List Int)) :=
  (Option.bind (f0 x) fun r1 =>
  (Option.bind (f1 ((0 : Int), (0 : Int), (0 : Int), r1)) fun r2 =>
  (Option.bind (f1 (r2.2.1, r2.2.2.1, r2.2.2.2.1, r2.2.2.2.2)) fun r3 =>
  (Option.bind
  (Option.bind (f1 (r3.2.1, r3.2.2.1, r3.2.2.2.1, r3.2.2.2.2)) fun r4 =>
  (cond (decide (r4.1 = (1 : Int)))
  (Option.bind (f1 (r4.2.1, r4.2.2.1, r4.2.2.2.1, r4.2.2.2.2)) fun r6 =>
  (some ((decide (r6.1 = (0 : Int))), r6.2.1, r6.2.2.1, r6.2.2.2.1, r6.2.2.2.2)))
  (some (false, r4.2.1, r4.2.2.1, r4.2.2.2.1, r4.2.2.2.2))))
  fun r8 =>
  (Option.bind
  (cond r8.1
  (Option.bind (f1 (r8.2.1, r8.2.2.1, r8.2.2.2.1, r8.2.2.2.2)) fun r9 =>
  (Option.bind (f1 (r9.2.1, r9.2.2.1, r9.2.2.2.1, r9.2.2.2.2)) fun r10 =>
  (some (r10.2.1, r10.2.2.1, r10.2.2.2.1, r10.2.2.2.2, (6 : Int), r9.1, r10.1, (0 : Int), ([] : List Int)))))
  (Option.bind
  (cond (decide ((16 : Int) ≤ (((List.length x) : Nat) : Int)))
  (cond (decide ((11 : Int) < (((List.length x) : Nat) : Int)))
  ((some (decide ((List.getD x 11 (EK.dflt (.int .u8))) = (1 : Int)))))
  none)
  (some false))
  fun r15 =>
  (Option.bind
  (cond r15
  (Option.bind (f1 (r8.2.1, r8.2.2.1, r8.2.2.2.1, r8.2.2.2.2)) fun r16 =>
  (some (r16.2.1, r16.2.2.1, r16.2.2.2.1, r16.2.2.2.2, (7 : Int), (0 : Int), (0 : Int), r16.1, ([] : List Int))))
  (Option.bind (f1 (r8.2.1, r8.2.2.1, r8.2.2.2.1, r8.2.2.2.2)) fun r17 =>
  (Option.bind (f1 (r17.2.1, r17.2.2.1, r17.2.2.2.1, r17.2.2.2.2)) fun r18 =>
  (Option.bind (f1 (r18.2.1, r18.2.2.1, r18.2.2.2.1, r18.2.2.2.2)) fun r19 =>
  (let v20 : Int := (wrapF .i64 r19.1)
  (Option.bind
  (cond (decide (v20 = (2 : Int)))
  (Option.bind (f1 (r19.2.1, r19.2.2.1, r19.2.2.2.1, r19.2.2.2.2)) fun r22 =>
  (Option.bind (f1 (r22.2.1, r22.2.2.1, r22.2.2.2.1, r22.2.2.2.2)) fun r23 =>
  (some (r23.2.1, r23.2.2.1, r23.2.2.2.1, r23.2.2.2.2, r22.1, r23.1))))
  (some (r19.2.1, r19.2.2.1, r19.2.2.2.1, r19.2.2.2.2, (0 : Int), (0 : Int))))
  fun r24 =>
  (Option.bind
  (cond (decide (v20 = (0 : Int)))
  (Option.bind (f2 (x, r24.1, r24.2.1, r24.2.2.1, r24.2.2.2.1)) fun r26 =>
  (some (r26.1, r26.2.1, r26.2.2.1, r26.2.2.2.1, r26.2.2.2.2)))
  (some (r24.1, r24.2.1, r24.2.2.1, r24.2.2.2.1, ([] : List Int))))
  fun r27 =>
  (some (r27.1, r27.2.1, r27.2.2.1, r27.2.2.2.1, v20, r24.2.2.2.2.1, r24.2.2.2.2.2, (0 : Int), r27.2.2.2.2)))))))))
  fun r28 =>
  (some (r28.1, r28.2.1, r28.2.2.1, r28.2.2.2.1, r28.2.2.2.2.1, r28.2.2.2.2.2.1, r28.2.2.2.2.2.2.1, r28.2.2.2.2.2.2.2.1, r28.2.2.2.2.2.2.2.2)))))
  fun r29 =>
  (Option.bind (f3 (r2.1, r29.2.2.2.2.1, r29.2.2.2.2.2.1, r29.2.2.2.2.2.2.1, r29.2.2.2.2.2.2.2.1, r29.2.2.2.2.2.2.2.2)) fun r30 =>
  (Option.bind (f4 (r29.1, r29.2.1, r29.2.2.1, r29.2.2.2.1)) fun r31 =>
  (Option.bind
  (cond (!(decide (r31.1 = (0 : Int))))
  (some true)
  (cond (!(decide (r30.1 = (0 : Int))))
  (some true)
  (Option.bind (f5 (r30.2, x)) fun r34 =>
  (some (!r34)))))
  fun r36 =>
  (cond r36
  (some ((0 : Int), (0 : Int), (0 : Int), (0 : Int), (0 : Int), (212 : Int), ([] : List Int)))
  (some (r2.1, r29.2.2.2.2.1, r29.2.2.2.2.2.1, r29.2.2.2.2.2.2.1, r29.2.2.2.2.2.2.2.1, (0 : Int), r29.2.2.2.2.2.2.2.2)))))))))))
theorem rpc_GetReply_f (N : Nat) (f0 : (List Int) → Option ((List Int))) (f1 : Int × Int × Int × (List Int) → Option (Int × Int × Int × Int × (List Int))) (f2 : (List Int) × Int × Int × Int × (List Int) → Option (Int × Int × Int × (List Int) × (List Int))) (f3 : Int × Int × Int × Int × Int × (List Int) → Option (Int × (List Int))) (f4 : Int × Int × Int × (List Int) → Option (Int × Int × Int × Int × Int × (List Int))) (f5 : (List Int) × (List Int) → Option (Bool)) (x) : rpc_GetReply_a N f0 f1 f2 f3 f4 f5 x = fnStep Γ (rpc_GetReply_CA N f0 f1 f2 f3 f4 f5) (rpc_GetReply_J N) 95 Try.f40.results.toList (rpc_GetReply_g N) rpc_GetReply_o rpc_GetReply_c x := by kernel_rfl
theorem rpc_GetReply_e (N : Nat) (x) : (rpc_GetReply_g N).F x = fnStep Γ (rpc_GetReply_C N) (rpc_GetReply_J N) 95 Try.f40.results.toList (rpc_GetReply_g N) rpc_GetReply_o rpc_GetReply_c x := by
  rw [← rpc_GetReply_CE N]
  exact Eq.trans (by kernel_rfl) (rpc_GetReply_f N (xdr_NewReader) (xdr_Reader_Uint N) (rpc_rest) (rpc_PutReply_v1 N) (xdr_Reader_Why) (slices_Equal_byte_byte N) x)
theorem rpc_GetReply_y : Try.f40.body = some rpc_GetReply_c := by kernel_rfl
theorem rpc_GetReply_n : (Try.f40.name == "runtime.NumGoroutine") = false := by kernel_rfl
theorem rpc_GetReply_ok (N : Nat) : FnDoes Try.prog 40 (rpc_GetReply_g N) := fn_ok tabOK (rpc_GetReply_t N) mixedOK (J := rpc_GetReply_J N) (body := rpc_GetReply_c) Try.func40 rpc_GetReply_y rpc_GetReply_n Try.ntmps40 (jok_from rpc_GetReply_i ⟨trivial, trivial⟩) rfl rfl (le_of_ble rfl) (rpc_GetReply_e N)
noncomputable def granaryref21_Same_c : Code := codeOf Try.f22.body
noncomputable def granaryref21_Same_c0 : Code := codeOf (getLoop 0 granaryref21_Same_c)
def granaryref21_Same_d0 : LD := { ins := ⟨[(0, (.av (.one (.rsl (.sl (.int .u8)))))), (1, (.av (.one (.rsl (.sl (.int .u8)))))), (5, (.av (.one (.int .i64))))], []⟩, mov := [], wr := [], outs := [(.ret, ⟨[(4, (.av (.one (.const (.bool false)))))], []⟩), (.exit 0, ⟨[], []⟩)], its := [.lst (.sl (.int .u8)), .lst (.sl (.int .u8)), .int], ots := [[], []] }
noncomputable def granaryref21_Same_J (N : Nat) : Nat → Hint := fun cx => hintOf cx [(0, { reg := fun k => assoc0 k [], cnd := fun k => assoc0 k [], loop := fun k => assoc0 k [(0, ⟨granaryref21_Same_d0, loopF (granaryref21_Same_b0 N) N⟩)], nil := fun k => assoc0 k [], unr := fun k => assocN k [], blk := fun k => assoc0 k [] })]
noncomputable def granaryref21_Same_C (N : Nat) : Nat → List GS := fun k => tabOf k []
def granaryref21_Same_o : List (Shp × List Nat) := [(⟨[(0, (.av (.one .bool)))], []⟩, [])]
noncomputable def granaryref21_Same_g (N : Nat) : GS := { ins := ⟨[(0, (.av (.one (.rsl (.sl (.int .u8)))))), (1, (.av (.one (.rsl (.sl (.int .u8))))))], []⟩, lend := [.lend (.sl (.int .u8)), .lend (.sl (.int .u8))], outs := granaryref21_Same_o.map fun s => ssOf s.1, its := [.lst (.sl (.int .u8)), .lst (.sl (.int .u8))], ots := [[.bool]], F := granaryref21_Same N }
theorem granaryref21_Same_t (N : Nat) : TabC Try.prog (granaryref21_Same_C N) := tab_ok trivial
theorem granaryref21_Same_i0 : loopsOf granaryref21_Same_c0 = [] := by kernel_rfl
theorem granaryref21_Same_e0 (N : Nat) (next) (x) : granaryref21_Same_b0 N next x = loopStep Γ (granaryref21_Same_C N) (granaryref21_Same_J N) 0 28 granaryref21_Same_d0 granaryref21_Same_c0 next x := by kernel_rfl
theorem granaryref21_Same_k0 (N : Nat) : LoopOK Try.prog 28 granaryref21_Same_c0 ⟨granaryref21_Same_d0, loopF (granaryref21_Same_b0 N) N⟩ := loop_ok tabOK (granaryref21_Same_t N) mixedOK (J := granaryref21_Same_J N) (cx := 0) (body := granaryref21_Same_c0) (nt := 28) (l := granaryref21_Same_d0) (b := granaryref21_Same_b0 N) (jok_from granaryref21_Same_i0 ⟨trivial, trivial⟩) (granaryref21_Same_e0 N) N
theorem granaryref21_Same_i : loopsOf granaryref21_Same_c = [(0, granaryref21_Same_c0)] := by kernel_rfl
theorem granaryref21_Same_e (N : Nat) (x) : (granaryref21_Same_g N).F x = fnStep Γ (granaryref21_Same_C N) (granaryref21_Same_J N) 28 Try.f22.results.toList (granaryref21_Same_g N) granaryref21_Same_o granaryref21_Same_c x := by kernel_rfl
theorem granaryref21_Same_y : Try.f22.body = some granaryref21_Same_c := by kernel_rfl
theorem granaryref21_Same_n : (Try.f22.name == "runtime.NumGoroutine") = false := by kernel_rfl
theorem granaryref21_Same_ok (N : Nat) : FnDoes Try.prog 22 (granaryref21_Same_g N) := fn_ok tabOK (granaryref21_Same_t N) mixedOK (J := granaryref21_Same_J N) (body := granaryref21_Same_c) Try.func22 granaryref21_Same_y granaryref21_Same_n Try.ntmps22 (jok_from granaryref21_Same_i ⟨⟨.inr ⟨_, rfl, granaryref21_Same_k0 N⟩, trivial⟩, trivial⟩) rfl rfl (le_of_ble rfl) (granaryref21_Same_e N)
end Go.Rf.W
