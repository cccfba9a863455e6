/-
  The printed functions are what the program does.
-/
import Derived.Test.YtngehbaakpkoiaaRpcK0
set_option linter.unusedVariables false
set_option maxRecDepth 100000
namespace Go.Rf.W
open Go Go.Rf Go.Proofs
noncomputable def rpc_getGid_c : Code := codeOf Try.f69.body
noncomputable def rpc_getGid_J (N : Nat) : Nat → Hint := fun cx => hintOf cx []
noncomputable def rpc_getGid_C (N : Nat) : Nat → List GS := fun k => tabOf k [(46, [xdr_Reader_Uint_g N])]
def rpc_getGid_o : List (Shp × List Nat) := [(⟨[(0, (.av (.one (.int .u32))))], [(.sh (.one (.const (.slw 4 1))), true), (.sh (.one (.int .i64)), true), (.sh (.one (.int .i64)), true), (.sh (.one (.int .i64)), false), (.sh (.arr (.int .u8) none), false)]⟩, [])]
noncomputable def rpc_getGid_g (N : Nat) : GS := { ins := ⟨[(0, (.av (.one (.const (.ptr ⟨0, 0, 0, 0⟩)))))], [(some (.one (.const (.slw 4 1))), true), (some (.one (.int .i64)), true), (some (.one (.int .i64)), true), (some (.one (.int .i64)), false), (some (.arr (.int .u8) none), false)]⟩, lend := [.keep], outs := rpc_getGid_o.map fun s => ssOf s.1, its := [.int, .int, .int, .lst (.int .u8)], ots := [[.int, .int, .int, .int, .lst (.int .u8)]], F := rpc_getGid N }
noncomputable def rpc_getGid_CA (N : Nat) (f0 : Int × Int × Int × (List Int) → Option (Int × Int × Int × Int × (List Int))) : Nat → List GS := fun k => tabOf k [(46, [{ xdr_Reader_Uint_g N with F := f0 }])]
theorem rpc_getGid_CE (N : Nat) : rpc_getGid_CA N (xdr_Reader_Uint N) = rpc_getGid_C N := by kernel_rfl
theorem rpc_getGid_t (N : Nat) : TabC Try.prog (rpc_getGid_C N) := tab_ok ⟨⟨xdr_Reader_Uint_ok N, trivial⟩, trivial⟩
theorem rpc_getGid_i : loopsOf rpc_getGid_c = [] := by kernel_rfl
noncomputable def rpc_getGid_a (N : Nat) (f0 : Int × Int × Int × (List Int) → Option (Int × Int × Int × Int × (List Int))) (x : Int × Int × Int × (List Int)) : Option (Int × Int × Int × Int × (List Int)) :=
  (Option.bind (f0 (x.1, x.2.1, x.2.2.1, x.2.2.2)) fun r1 =>
  (some (r1.1, r1.2.1, r1.2.2.1, r1.2.2.2.1, r1.2.2.2.2)))
theorem rpc_getGid_f (N : Nat) (f0 : Int × Int × Int × (List Int) → Option (Int × Int × Int × Int × (List Int))) (x) : rpc_getGid_a N f0 x = fnStep Γ (rpc_getGid_CA N f0) (rpc_getGid_J N) 5 Try.f69.results.toList (rpc_getGid_g N) rpc_getGid_o rpc_getGid_c x := by kernel_rfl
theorem rpc_getGid_e (N : Nat) (x) : (rpc_getGid_g N).F x = fnStep Γ (rpc_getGid_C N) (rpc_getGid_J N) 5 Try.f69.results.toList (rpc_getGid_g N) rpc_getGid_o rpc_getGid_c x := by
  rw [← rpc_getGid_CE N]
  exact Eq.trans (by kernel_rfl) (rpc_getGid_f N (xdr_Reader_Uint N) x)
theorem rpc_getGid_y : Try.f69.body = some rpc_getGid_c := by kernel_rfl
theorem rpc_getGid_n : (Try.f69.name == "runtime.NumGoroutine") = false := by kernel_rfl
theorem rpc_getGid_ok (N : Nat) : FnDoes Try.prog 69 (rpc_getGid_g N) := fn_ok tabOK (rpc_getGid_t N) mixedOK (J := rpc_getGid_J N) (body := rpc_getGid_c) Try.func69 rpc_getGid_y rpc_getGid_n Try.ntmps69 (jok_from rpc_getGid_i trivial) rfl rfl (le_of_ble rfl) (rpc_getGid_e N)
noncomputable def xdr_List_uint32_c : Code := codeOf Try.f68.body
noncomputable def xdr_List_uint32_c0 : Code := codeOf (getLoop 0 xdr_List_uint32_c)
def xdr_List_uint32_d0 : LD := { ins := ⟨[(0, (.av (.one (.const (.ptr ⟨0, 0, 0, 0⟩))))), (2, (.av (.one (.const (.fn 69 []))))), (7, (.av (.one (.const (.slw 5 1))))), (12, (.av (.one (.int .i64)))), (13, (.av (.one (.int .i64))))], [(.sh (.one (.const (.slw 4 1))), true), (.sh (.one (.int .i64)), true), (.sh (.one (.int .i64)), true), (.sh (.one (.int .i64)), false), (.sh (.arr (.int .u8) none), false), (.sh (.arr (.int .u32) none), false)]⟩, mov := [5], wr := [0, 1, 2, 3, 4], outs := [(.exit 0, ⟨[(7, (.av (.one (.const (.slw 6 1)))))], [(.sh (.one (.const (.slw 4 1))), true), (.sh (.one (.int .i64)), true), (.sh (.one (.int .i64)), true), (.sh (.one (.int .i64)), false), (.sh (.arr (.int .u8) none), false), (.dead, false), (.sh (.arr (.int .u32) none), false)]⟩)], its := [.int, .int, .int, .int, .int, .lst (.int .u8), .lst (.int .u32)], ots := [[.int, .int, .int, .lst (.int .u8), .lst (.int .u32)]] }
noncomputable def xdr_List_uint32_J (N : Nat) : Nat → Hint := fun cx => hintOf cx [(0, { reg := fun k => assoc0 k [], cnd := fun k => assoc0 k [], loop := fun k => assoc0 k [(0, ⟨xdr_List_uint32_d0, loopF (xdr_List_uint32_b0 N) N⟩)], nil := fun k => assoc0 k [], unr := fun k => assocN k [], blk := fun k => assoc0 k [] })]
noncomputable def xdr_List_uint32_C (N : Nat) : Nat → List GS := fun k => tabOf k [(88, [xdr_Reader_length_g N]), (89, [xdr_Reader_bad_g N]), (69, [rpc_getGid_g N])]
def xdr_List_uint32_o : List (Shp × List Nat) := [(⟨[(0, (.av (.one (.const (.slw 5 1)))))], [(.sh (.one (.const (.slw 4 1))), true), (.sh (.one (.int .i64)), true), (.sh (.one (.int .i64)), true), (.sh (.one (.int .i64)), false), (.sh (.arr (.int .u8) none), false), (.sh (.arr (.int .u32) none), false)]⟩, [])]
noncomputable def xdr_List_uint32_g (N : Nat) : GS := { ins := ⟨[(0, (.av (.one (.const (.ptr ⟨0, 0, 0, 0⟩))))), (1, (.av (.one (.int .i64)))), (2, (.av (.one (.const (.fn 69 [])))))], [(some (.one (.const (.slw 4 1))), true), (some (.one (.int .i64)), true), (some (.one (.int .i64)), true), (some (.one (.int .i64)), false), (some (.arr (.int .u8) none), false)]⟩, lend := [.keep, .keep, .keep], outs := xdr_List_uint32_o.map fun s => ssOf s.1, its := [.int, .int, .int, .int, .lst (.int .u8)], ots := [[.int, .int, .int, .lst (.int .u8), .lst (.int .u32)]], F := xdr_List_uint32 N }
noncomputable def xdr_List_uint32_CA (N : Nat) (f0 : Int × Int × Int × Int × (List Int) → Option (Int × Int × Int × Int × (List Int))) (f1 : Int × Int × Int × (List Int) → Option (Bool × Int × Int × Int × (List Int))) (f2 : Int × Int × Int × (List Int) → Option (Int × Int × Int × Int × (List Int))) : Nat → List GS := fun k => tabOf k [(88, [{ xdr_Reader_length_g N with F := f0 }]), (89, [{ xdr_Reader_bad_g N with F := f1 }]), (69, [{ rpc_getGid_g N with F := f2 }])]
theorem xdr_List_uint32_CE (N : Nat) : xdr_List_uint32_CA N (xdr_Reader_length N) (xdr_Reader_bad) (rpc_getGid N) = xdr_List_uint32_C N := by kernel_rfl
theorem xdr_List_uint32_t (N : Nat) : TabC Try.prog (xdr_List_uint32_C N) := tab_ok ⟨⟨xdr_Reader_length_ok N, trivial⟩, ⟨xdr_Reader_bad_ok N, trivial⟩, ⟨rpc_getGid_ok N, trivial⟩, trivial⟩
theorem xdr_List_uint32_i0 : loopsOf xdr_List_uint32_c0 = [] := by kernel_rfl
noncomputable def xdr_List_uint32_a0 (N : Nat) (f0 : Int × Int × Int × Int × (List Int) → Option (Int × Int × Int × Int × (List Int))) (f1 : Int × Int × Int × (List Int) → Option (Bool × Int × Int × Int × (List Int))) (f2 : Int × Int × Int × (List Int) → Option (Int × Int × Int × Int × (List Int))) (next : Int × Int × Int × Int × Int × (List Int) × (List Int) → Option ((Int × Int × Int × (List Int) × (List Int)))) (x : Int × Int × Int × Int × Int × (List Int) × (List Int)) : Option ((Int × Int × Int × (List Int) × (List Int))) :=
  (cond (decide (x.2.1 < x.1))
  (Option.bind (f1 (x.2.2.1, x.2.2.2.1, x.2.2.2.2.1, x.2.2.2.2.2.1)) fun r2 =>
  (cond r2.1
  (some (r2.2.1, r2.2.2.1, r2.2.2.2.1, r2.2.2.2.2, x.2.2.2.2.2.2))
  (Option.bind (f2 (r2.2.1, r2.2.2.1, r2.2.2.2.1, r2.2.2.2.2)) fun r3 =>
  (let v4 : List Int := ([r3.1] : List Int)
  (cond ((decide (1 ≤ (List.length v4))) && (fits 4 ((List.length x.2.2.2.2.2.2) + (List.length (List.take 1 (List.drop 0 v4))))))
  ((next (x.1, (wrapF .i64 (x.2.1 + (1 : Int))), r3.2.1, r3.2.2.1, r3.2.2.2.1, r3.2.2.2.2, (x.2.2.2.2.2.2 ++ (List.take 1 (List.drop 0 v4))))))
  none)))))
  (some (x.2.2.1, x.2.2.2.1, x.2.2.2.2.1, x.2.2.2.2.2.1, x.2.2.2.2.2.2)))
theorem xdr_List_uint32_f0 (N : Nat) (f0 : Int × Int × Int × Int × (List Int) → Option (Int × Int × Int × Int × (List Int))) (f1 : Int × Int × Int × (List Int) → Option (Bool × Int × Int × Int × (List Int))) (f2 : Int × Int × Int × (List Int) → Option (Int × Int × Int × Int × (List Int))) (next) (x) : xdr_List_uint32_a0 N f0 f1 f2 next x = loopStep Γ (xdr_List_uint32_CA N f0 f1 f2) (xdr_List_uint32_J N) 0 27 xdr_List_uint32_d0 xdr_List_uint32_c0 next x := by kernel_rfl
theorem xdr_List_uint32_e0 (N : Nat) (next) (x) : xdr_List_uint32_b0 N next x = loopStep Γ (xdr_List_uint32_C N) (xdr_List_uint32_J N) 0 27 xdr_List_uint32_d0 xdr_List_uint32_c0 next x := by
  rw [← xdr_List_uint32_CE N]
  exact Eq.trans (by kernel_rfl) (xdr_List_uint32_f0 N (xdr_Reader_length N) (xdr_Reader_bad) (rpc_getGid N) next x)
theorem xdr_List_uint32_k0 (N : Nat) : LoopOK Try.prog 27 xdr_List_uint32_c0 ⟨xdr_List_uint32_d0, loopF (xdr_List_uint32_b0 N) N⟩ := loop_ok tabOK (xdr_List_uint32_t N) mixedOK (J := xdr_List_uint32_J N) (cx := 0) (body := xdr_List_uint32_c0) (nt := 27) (l := xdr_List_uint32_d0) (b := xdr_List_uint32_b0 N) (jok_from xdr_List_uint32_i0 ⟨trivial, trivial⟩) (xdr_List_uint32_e0 N) N
theorem xdr_List_uint32_i : loopsOf xdr_List_uint32_c = [(0, xdr_List_uint32_c0)] := by kernel_rfl
noncomputable def xdr_List_uint32_a (N : Nat) (f0 : Int × Int × Int × Int × (List Int) → Option (Int × Int × Int × Int × (List Int))) (f1 : Int × Int × Int × (List Int) → Option (Bool × Int × Int × Int × (List Int))) (f2 : Int × Int × Int × (List Int) → Option (Int × Int × Int × Int × (List Int))) (x : Int × Int × Int × Int × (List Int)) : Option (Int × Int × Int × (List Int) × (List Int)) :=
  (Option.bind (f0 (x.1, x.2.1, x.2.2.1, x.2.2.2.1, x.2.2.2.2)) fun r1 =>
  (Option.bind (xdr_List_uint32_l0 N (r1.1, (0 : Int), r1.2.1, r1.2.2.1, r1.2.2.2.1, r1.2.2.2.2, ([] : List Int))) fun r2 =>
  (Option.bind (f1 (r2.1, r2.2.1, r2.2.2.1, r2.2.2.2.1)) fun r3 =>
  (cond r3.1
  (some (r3.2.1, r3.2.2.1, r3.2.2.2.1, r3.2.2.2.2, ([] : List Int)))
  (some (r3.2.1, r3.2.2.1, r3.2.2.2.1, r3.2.2.2.2, r2.2.2.2.2))))))
theorem xdr_List_uint32_f (N : Nat) (f0 : Int × Int × Int × Int × (List Int) → Option (Int × Int × Int × Int × (List Int))) (f1 : Int × Int × Int × (List Int) → Option (Bool × Int × Int × Int × (List Int))) (f2 : Int × Int × Int × (List Int) → Option (Int × Int × Int × Int × (List Int))) (x) : xdr_List_uint32_a N f0 f1 f2 x = fnStep Γ (xdr_List_uint32_CA N f0 f1 f2) (xdr_List_uint32_J N) 27 Try.f68.results.toList (xdr_List_uint32_g N) xdr_List_uint32_o xdr_List_uint32_c x := by kernel_rfl
theorem xdr_List_uint32_e (N : Nat) (x) : (xdr_List_uint32_g N).F x = fnStep Γ (xdr_List_uint32_C N) (xdr_List_uint32_J N) 27 Try.f68.results.toList (xdr_List_uint32_g N) xdr_List_uint32_o xdr_List_uint32_c x := by
  rw [← xdr_List_uint32_CE N]
  exact Eq.trans (by kernel_rfl) (xdr_List_uint32_f N (xdr_Reader_length N) (xdr_Reader_bad) (rpc_getGid N) x)
theorem xdr_List_uint32_y : Try.f68.body = some xdr_List_uint32_c := by kernel_rfl
theorem xdr_List_uint32_n : (Try.f68.name == "runtime.NumGoroutine") = false := by kernel_rfl
theorem xdr_List_uint32_ok (N : Nat) : FnDoes Try.prog 68 (xdr_List_uint32_g N) := fn_ok tabOK (xdr_List_uint32_t N) mixedOK (J := xdr_List_uint32_J N) (body := xdr_List_uint32_c) Try.func68 xdr_List_uint32_y xdr_List_uint32_n Try.ntmps68 (jok_from xdr_List_uint32_i ⟨⟨.inr ⟨_, rfl, xdr_List_uint32_k0 N⟩, trivial⟩, trivial⟩) rfl rfl (le_of_ble rfl) (xdr_List_uint32_e N)
noncomputable def xdr_Reader_Done_c : Code := codeOf Try.f70.body
noncomputable def xdr_Reader_Done_J (N : Nat) : Nat → Hint := fun cx => hintOf cx [(0, { reg := fun k => assoc0 k [(3, ⟨⟨[(6, (.av (.one .bool)))], [(.keep, true), (.keep, true), (.keep, true), (.keep, false), (.keep, false)]⟩, [], [], [.bool]⟩)], cnd := fun k => assoc0 k [], loop := fun k => assoc0 k [], nil := fun k => assoc0 k [], unr := fun k => assocN k [], blk := fun k => assoc0 k [] })]
noncomputable def xdr_Reader_Done_C (N : Nat) : Nat → List GS := fun k => tabOf k []
def xdr_Reader_Done_o : List (Shp × List Nat) := [(⟨[(0, (.av (.one (.int .i64))))], [(.sh (.one (.const (.slw 4 1))), true), (.sh (.one (.int .i64)), true), (.sh (.one (.int .i64)), true), (.sh (.one (.int .i64)), false), (.sh (.arr (.int .u8) none), false)]⟩, [])]
noncomputable def xdr_Reader_Done_g (N : Nat) : GS := { ins := ⟨[(0, (.av (.one (.const (.ptr ⟨0, 0, 0, 0⟩)))))], [(some (.one (.const (.slw 4 1))), true), (some (.one (.int .i64)), true), (some (.one (.int .i64)), true), (some (.one (.int .i64)), false), (some (.arr (.int .u8) none), false)]⟩, lend := [.keep], outs := xdr_Reader_Done_o.map fun s => ssOf s.1, its := [.int, .int, .int, .lst (.int .u8)], ots := [[.int, .int, .int, .int, .lst (.int .u8)]], F := xdr_Reader_Done }
theorem xdr_Reader_Done_t (N : Nat) : TabC Try.prog (xdr_Reader_Done_C N) := tab_ok trivial
theorem xdr_Reader_Done_i : loopsOf xdr_Reader_Done_c = [] := by kernel_rfl
theorem xdr_Reader_Done_e (N : Nat) (x) : (xdr_Reader_Done_g N).F x = fnStep Γ (xdr_Reader_Done_C N) (xdr_Reader_Done_J N) 28 Try.f70.results.toList (xdr_Reader_Done_g N) xdr_Reader_Done_o xdr_Reader_Done_c x := by kernel_rfl
theorem xdr_Reader_Done_y : Try.f70.body = some xdr_Reader_Done_c := by kernel_rfl
theorem xdr_Reader_Done_n : (Try.f70.name == "runtime.NumGoroutine") = false := by kernel_rfl
theorem xdr_Reader_Done_ok (N : Nat) : FnDoes Try.prog 70 (xdr_Reader_Done_g N) := fn_ok tabOK (xdr_Reader_Done_t N) mixedOK (J := xdr_Reader_Done_J N) (body := xdr_Reader_Done_c) Try.func70 xdr_Reader_Done_y xdr_Reader_Done_n Try.ntmps70 (jok_from xdr_Reader_Done_i ⟨trivial, trivial⟩) rfl rfl (le_of_ble rfl) (xdr_Reader_Done_e N)
noncomputable def rpc_GetCred_c : Code := codeOf Try.f34.body
noncomputable def rpc_GetCred_J (N : Nat) : Nat → Hint := fun cx => hintOf cx []
noncomputable def rpc_GetCred_C (N : Nat) : Nat → List GS := fun k => tabOf k [(45, [xdr_NewReader_g N]), (46, [xdr_Reader_Uint_g N]), (67, [xdr_Reader_Text_g N]), (68, [xdr_List_uint32_g N]), (70, [xdr_Reader_Done_g N])]
def rpc_GetCred_o : List (Shp × List Nat) := [(⟨[(0, (.tup [(.agg [(.one (.int .u32)), (.one (.int .u32)), (.one .str), (.one (.int .u32)), (.one (.int .u32)), (.one (.const (.slw 0 1)))]), (.one (.int .u32))]))], [(.sh (.arr (.int .u32) none), false)]⟩, [])]
noncomputable def rpc_GetCred_g (N : Nat) : GS := { ins := ⟨[(0, (.av (.agg [(.one (.int .u32)), (.one (.rsl (.int .u8)))])))], []⟩, lend := [.agg [none, some (.int .u8)]], outs := rpc_GetCred_o.map fun s => ssOf s.1, its := [.int, .lst (.int .u8)], ots := [[.int, .int, .str, .int, .int, .int, .lst (.int .u32)]], F := rpc_GetCred N }
noncomputable def rpc_GetCred_CA (N : Nat) (f0 : (List Int) → Option ((List Int))) (f1 : Int × Int × Int × (List Int) → Option (Int × Int × Int × Int × (List Int))) (f2 : Int × Int × Int × Int × (List Int) → Option ((List UInt8) × Int × Int × Int × (List Int))) (f3 : Int × Int × Int × Int × (List Int) → Option (Int × Int × Int × (List Int) × (List Int))) (f4 : Int × Int × Int × (List Int) → Option (Int × Int × Int × Int × (List Int))) : Nat → List GS := fun k => tabOf k [(45, [{ xdr_NewReader_g N with F := f0 }]), (46, [{ xdr_Reader_Uint_g N with F := f1 }]), (67, [{ xdr_Reader_Text_g N with F := f2 }]), (68, [{ xdr_List_uint32_g N with F := f3 }]), (70, [{ xdr_Reader_Done_g N with F := f4 }])]
theorem rpc_GetCred_CE (N : Nat) : rpc_GetCred_CA N (xdr_NewReader) (xdr_Reader_Uint N) (xdr_Reader_Text N) (xdr_List_uint32 N) (xdr_Reader_Done) = rpc_GetCred_C N := by kernel_rfl
theorem rpc_GetCred_t (N : Nat) : TabC Try.prog (rpc_GetCred_C N) := tab_ok ⟨⟨xdr_NewReader_ok N, trivial⟩, ⟨xdr_Reader_Uint_ok N, trivial⟩, ⟨xdr_Reader_Text_ok N, trivial⟩, ⟨xdr_List_uint32_ok N, trivial⟩, ⟨xdr_Reader_Done_ok N, trivial⟩, trivial⟩
theorem rpc_GetCred_i : loopsOf rpc_GetCred_c = [] := by kernel_rfl
noncomputable def rpc_GetCred_a (N : Nat) (f0 : (List Int) → Option ((List Int))) (f1 : Int × Int × Int × (List Int) → Option (Int × Int × Int × Int × (List Int))) (f2 : Int × Int × Int × Int × (List Int) → Option ((List UInt8) × Int × Int × Int × (List Int))) (f3 : Int × Int × Int × Int × (List Int) → Option (Int × Int × Int × (List Int) × (List Int))) (f4 : Int × Int × Int × (List Int) → Option (Int × Int × Int × Int × (List Int))) (x : Int × (List Int)) : Option (Int × Int × (List UInt8) × Int × Int × Int × (List Int)) :=
  (cond (decide (x.1 = (0 : Int)))
  (cond (decide ((0 : Int) < (((List.length x.2) : Nat) : Int)))
  (some ((0 : Int), (0 : Int), ([] : List UInt8), (0 : Int), (0 : Int), (1 : Int), ([] : List Int)))
  (some ((0 : Int), (0 : Int), ([] : List UInt8), (0 : Int), (0 : Int), (0 : Int), ([] : List Int))))
  (cond (decide (x.1 = (1 : Int)))
  (Option.bind (f0 x.2) fun r8 =>
  (Option.bind (f1 ((0 : Int), (0 : Int), (0 : Int), r8)) fun r9 =>
  (Option.bind (f2 ((64 : Int), r9.2.1, r9.2.2.1, r9.2.2.2.1, r9.2.2.2.2)) fun r10 =>
  (Option.bind (f1 (r10.2.1, r10.2.2.1, r10.2.2.2.1, r10.2.2.2.2)) fun r11 =>
  (Option.bind (f1 (r11.2.1, r11.2.2.1, r11.2.2.2.1, r11.2.2.2.2)) fun r12 =>
  (Option.bind (f3 ((16 : Int), r12.2.1, r12.2.2.1, r12.2.2.2.1, r12.2.2.2.2)) fun r13 =>
  (Option.bind (f4 (r13.1, r13.2.1, r13.2.2.1, r13.2.2.2.1)) fun r15 =>
  (cond (!(decide (r15.1 = (0 : Int))))
  (some ((0 : Int), (0 : Int), ([] : List UInt8), (0 : Int), (0 : Int), (1 : Int), ([] : List Int)))
  (some ((1 : Int), r9.1, r10.1, r11.1, r12.1, (0 : Int), r13.2.2.2.2))))))))))
  (some ((0 : Int), (0 : Int), ([] : List UInt8), (0 : Int), (0 : Int), (2 : Int), ([] : List Int)))))
theorem rpc_GetCred_f (N : Nat) (f0 : (List Int) → Option ((List Int))) (f1 : Int × Int × Int × (List Int) → Option (Int × Int × Int × Int × (List Int))) (f2 : Int × Int × Int × Int × (List Int) → Option ((List UInt8) × Int × Int × Int × (List Int))) (f3 : Int × Int × Int × Int × (List Int) → Option (Int × Int × Int × (List Int) × (List Int))) (f4 : Int × Int × Int × (List Int) → Option (Int × Int × Int × Int × (List Int))) (x) : rpc_GetCred_a N f0 f1 f2 f3 f4 x = fnStep Γ (rpc_GetCred_CA N f0 f1 f2 f3 f4) (rpc_GetCred_J N) 38 Try.f34.results.toList (rpc_GetCred_g N) rpc_GetCred_o rpc_GetCred_c x := by kernel_rfl
theorem rpc_GetCred_e (N : Nat) (x) : (rpc_GetCred_g N).F x = fnStep Γ (rpc_GetCred_C N) (rpc_GetCred_J N) 38 Try.f34.results.toList (rpc_GetCred_g N) rpc_GetCred_o rpc_GetCred_c x := by
  rw [← rpc_GetCred_CE N]
  exact Eq.trans (by kernel_rfl) (rpc_GetCred_f N (xdr_NewReader) (xdr_Reader_Uint N) (xdr_Reader_Text N) (xdr_List_uint32 N) (xdr_Reader_Done) x)
theorem rpc_GetCred_y : Try.f34.body = some rpc_GetCred_c := by kernel_rfl
theorem rpc_GetCred_n : (Try.f34.name == "runtime.NumGoroutine") = false := by kernel_rfl
theorem rpc_GetCred_ok (N : Nat) : FnDoes Try.prog 34 (rpc_GetCred_g N) := fn_ok tabOK (rpc_GetCred_t N) mixedOK (J := rpc_GetCred_J N) (body := rpc_GetCred_c) Try.func34 rpc_GetCred_y rpc_GetCred_n Try.ntmps34 (jok_from rpc_GetCred_i trivial) rfl rfl (le_of_ble rfl) (rpc_GetCred_e N)
noncomputable def xdr_Reader_Left_c : Code := codeOf Try.f81.body
noncomputable def xdr_Reader_Left_J (N : Nat) : Nat → Hint := fun cx => hintOf cx []
noncomputable def xdr_Reader_Left_C (N : Nat) : Nat → List GS := fun k => tabOf k []
def xdr_Reader_Left_o : List (Shp × List Nat) := [(⟨[(0, (.av (.one (.int .i64))))], [(.sh (.one (.const (.slw 4 1))), true), (.sh (.one (.int .i64)), true), (.sh (.one (.int .i64)), true), (.sh (.one (.int .i64)), false), (.sh (.arr (.int .u8) none), false)]⟩, [])]
noncomputable def xdr_Reader_Left_g (N : Nat) : GS := { ins := ⟨[(0, (.av (.one (.const (.ptr ⟨0, 0, 0, 0⟩)))))], [(some (.one (.const (.slw 4 1))), true), (some (.one (.int .i64)), true), (some (.one (.int .i64)), true), (some (.one (.int .i64)), false), (some (.arr (.int .u8) none), false)]⟩, lend := [.keep], outs := xdr_Reader_Left_o.map fun s => ssOf s.1, its := [.int, .int, .int, .lst (.int .u8)], ots := [[.int, .int, .int, .int, .lst (.int .u8)]], F := xdr_Reader_Left }
theorem xdr_Reader_Left_t (N : Nat) : TabC Try.prog (xdr_Reader_Left_C N) := tab_ok trivial
theorem xdr_Reader_Left_i : loopsOf xdr_Reader_Left_c = [] := by kernel_rfl
theorem xdr_Reader_Left_e (N : Nat) (x) : (xdr_Reader_Left_g N).F x = fnStep Γ (xdr_Reader_Left_C N) (xdr_Reader_Left_J N) 15 Try.f81.results.toList (xdr_Reader_Left_g N) xdr_Reader_Left_o xdr_Reader_Left_c x := by kernel_rfl
theorem xdr_Reader_Left_y : Try.f81.body = some xdr_Reader_Left_c := by kernel_rfl
theorem xdr_Reader_Left_n : (Try.f81.name == "runtime.NumGoroutine") = false := by kernel_rfl
theorem xdr_Reader_Left_ok (N : Nat) : FnDoes Try.prog 81 (xdr_Reader_Left_g N) := fn_ok tabOK (xdr_Reader_Left_t N) mixedOK (J := xdr_Reader_Left_J N) (body := xdr_Reader_Left_c) Try.func81 xdr_Reader_Left_y xdr_Reader_Left_n Try.ntmps81 (jok_from xdr_Reader_Left_i trivial) rfl rfl (le_of_ble rfl) (xdr_Reader_Left_e N)
noncomputable def rpc_rest_c : Code := codeOf Try.f49.body
noncomputable def rpc_rest_J (N : Nat) : Nat → Hint := fun cx => hintOf cx []
noncomputable def rpc_rest_C (N : Nat) : Nat → List GS := fun k => tabOf k [(81, [xdr_Reader_Left_g N]), (78, [xdr_Reader_At_g N]), (76, [slices_Clone_byte_byte_v1_g N])]
def rpc_rest_o : List (Shp × List Nat) := [(⟨[(0, (.av (.one (.const (.slw 5 1)))))], [(.sh (.one (.const (.slw 4 1))), true), (.sh (.one (.int .i64)), true), (.sh (.one (.int .i64)), true), (.sh (.one (.int .i64)), false), (.sh (.arr (.int .u8) none), false), (.sh (.arr (.int .u8) none), false)]⟩, [])]
noncomputable def rpc_rest_g (N : Nat) : GS := { ins := ⟨[(0, (.av (.one (.const (.ptr ⟨0, 0, 0, 0⟩))))), (1, (.av (.one (.rsl (.int .u8)))))], [(some (.one (.const (.slw 4 1))), true), (some (.one (.int .i64)), true), (some (.one (.int .i64)), true), (some (.one (.int .i64)), false), (some (.arr (.int .u8) none), false)]⟩, lend := [.keep, .keep], outs := rpc_rest_o.map fun s => ssOf s.1, its := [.lst (.int .u8), .int, .int, .int, .lst (.int .u8)], ots := [[.int, .int, .int, .lst (.int .u8), .lst (.int .u8)]], F := rpc_rest }
noncomputable def rpc_rest_CA (N : Nat) (f0 : Int × Int × Int × (List Int) → Option (Int × Int × Int × Int × (List Int))) (f1 : Int × Int × Int × (List Int) → Option (Int × Int × Int × Int × (List Int))) (f2 : (List Int) → Option ((List Int))) : Nat → List GS := fun k => tabOf k [(81, [{ xdr_Reader_Left_g N with F := f0 }]), (78, [{ xdr_Reader_At_g N with F := f1 }]), (76, [{ slices_Clone_byte_byte_v1_g N with F := f2 }])]
theorem rpc_rest_CE (N : Nat) : rpc_rest_CA N (xdr_Reader_Left) (xdr_Reader_At) (slices_Clone_byte_byte_v1) = rpc_rest_C N := by kernel_rfl
theorem rpc_rest_t (N : Nat) : TabC Try.prog (rpc_rest_C N) := tab_ok ⟨⟨xdr_Reader_Left_ok N, trivial⟩, ⟨xdr_Reader_At_ok N, trivial⟩, ⟨slices_Clone_byte_byte_v1_ok N, trivial⟩, trivial⟩
theorem rpc_rest_i : loopsOf rpc_rest_c = [] := by kernel_rfl
noncomputable def rpc_rest_a (N : Nat) (f0 : Int × Int × Int × (List Int) → Option (Int × Int × Int × Int × (List Int))) (f1 : Int × Int × Int × (List Int) → Option (Int × Int × Int × Int × (List Int))) (f2 : (List Int) → Option ((List Int))) (x : (List Int) × Int × Int × Int × (List Int)) : Option (Int × Int × Int × (List Int) × (List Int)) :=
  (Option.bind (f0 (x.2.1, x.2.2.1, x.2.2.2.1, x.2.2.2.2)) fun r1 =>
  (cond (decide (r1.1 = (0 : Int)))
  (some (r1.2.1, r1.2.2.1, r1.2.2.2.1, r1.2.2.2.2, ([] : List Int)))
  (Option.bind (f1 (r1.2.1, r1.2.2.1, r1.2.2.2.1, r1.2.2.2.2)) fun r3 =>
  (cond (((decide ((0 : Int) ≤ r3.1)) && (decide (r3.1 ≤ (((List.length x.1) : Nat) : Int)))) && (decide ((((List.length x.1) : Nat) : Int) ≤ (((List.length x.1) : Nat) : Int))))
  ((Option.bind (f2 (List.take ((List.length x.1) - (Int.toNat r3.1)) (List.drop (Int.toNat r3.1) x.1))) fun r5 =>
  (some (r3.2.1, r3.2.2.1, r3.2.2.2.1, r3.2.2.2.2, r5))))
  none))))
theorem rpc_rest_f (N : Nat) (f0 : Int × Int × Int × (List Int) → Option (Int × Int × Int × Int × (List Int))) (f1 : Int × Int × Int × (List Int) → Option (Int × Int × Int × Int × (List Int))) (f2 : (List Int) → Option ((List Int))) (x) : rpc_rest_a N f0 f1 f2 x = fnStep Γ (rpc_rest_CA N f0 f1 f2) (rpc_rest_J N) 13 Try.f49.results.toList (rpc_rest_g N) rpc_rest_o rpc_rest_c x := by kernel_rfl
theorem rpc_rest_e (N : Nat) (x) : (rpc_rest_g N).F x = fnStep Γ (rpc_rest_C N) (rpc_rest_J N) 13 Try.f49.results.toList (rpc_rest_g N) rpc_rest_o rpc_rest_c x := by
  rw [← rpc_rest_CE N]
  exact Eq.trans (by kernel_rfl) (rpc_rest_f N (xdr_Reader_Left) (xdr_Reader_At) (slices_Clone_byte_byte_v1) x)
theorem rpc_rest_y : Try.f49.body = some rpc_rest_c := by kernel_rfl
theorem rpc_rest_n : (Try.f49.name == "runtime.NumGoroutine") = false := by kernel_rfl
theorem rpc_rest_ok (N : Nat) : FnDoes Try.prog 49 (rpc_rest_g N) := fn_ok tabOK (rpc_rest_t N) mixedOK (J := rpc_rest_J N) (body := rpc_rest_c) Try.func49 rpc_rest_y rpc_rest_n Try.ntmps49 (jok_from rpc_rest_i trivial) rfl rfl (le_of_ble rfl) (rpc_rest_e N)
noncomputable def rpc_Classify_c : Code := codeOf Try.f15.body
noncomputable def rpc_Classify_J (N : Nat) : Nat → Hint := fun cx => hintOf cx [(0, { reg := fun k => assoc0 k [(5, ⟨⟨[(44, (.av (.one .bool)))], [(.keep, true), (.keep, true), (.keep, true), (.keep, true), (.keep, true), (.keep, true), (.keep, true), (.keep, true), (.keep, true), (.keep, true), (.keep, true), (.keep, true), (.keep, true), (.keep, true), (.keep, true), (.keep, true), (.keep, true), (.keep, true), (.keep, true), (.keep, true), (.keep, true), (.keep, true), (.keep, false), (.keep, true), (.keep, true), (.keep, true), (.keep, false), (.keep, false), (.keep, true), (.keep, true), (.keep, true), (.keep, true), (.keep, true), (.keep, false)]⟩, [], [], [.bool]⟩), (21, ⟨⟨[(107, (.av (.one .bool)))], [(.keep, true), (.keep, true), (.keep, true), (.keep, true), (.keep, true), (.keep, true), (.keep, true), (.keep, true), (.keep, true), (.keep, true), (.keep, true), (.keep, true), (.keep, true), (.keep, true), (.keep, true), (.keep, true), (.keep, true), (.keep, true), (.keep, true), (.keep, true), (.keep, true), (.keep, true), (.keep, false), (.keep, true), (.keep, true), (.keep, true), (.keep, false), (.keep, false), (.keep, true), (.keep, true), (.keep, true), (.keep, true), (.keep, true), (.keep, false), (.keep, true), (.keep, true), (.keep, true), (.keep, true), (.keep, true), (.keep, true), (.keep, true), (.keep, true), (.keep, true), (.keep, false), (.keep, false), (.keep, false), (.keep, true), (.keep, true), (.keep, true), (.keep, true), (.keep, true), (.keep, false), (.keep, false)]⟩, [], [], [.bool]⟩)], cnd := fun k => assoc0 k [(107, ⟨[], [], [(.normal, ⟨[(12, (.av (.one (.int .u32))))], [(.keep, true), (.keep, true), (.keep, true), (.keep, true), (.keep, true), (.keep, true), (.keep, true), (.keep, true), (.keep, true), (.keep, true), (.keep, true), (.keep, true), (.keep, true), (.keep, true), (.keep, true), (.keep, true), (.keep, true), (.keep, true), (.keep, true), (.keep, true), (.keep, true), (.keep, true), (.keep, false), (.keep, true), (.keep, true), (.keep, true), (.keep, false), (.keep, false), (.keep, true), (.keep, true), (.keep, true), (.keep, true), (.keep, true), (.keep, false), (.keep, true), (.keep, true), (.keep, true), (.keep, true), (.keep, true), (.keep, true), (.keep, true), (.keep, true), (.keep, true), (.keep, false), (.keep, false), (.keep, false), (.keep, true), (.keep, true), (.keep, true), (.keep, true), (.keep, true), (.keep, false), (.keep, false)]⟩)], [[.int]]⟩), (84, ⟨[], [23, 24, 25, 26, 27, 41, 42], [(.normal, ⟨[(12, (.av (.one (.int .u32))))], [(.keep, true), (.keep, true), (.keep, true), (.keep, true), (.keep, true), (.keep, true), (.keep, true), (.keep, true), (.keep, true), (.keep, true), (.keep, true), (.keep, true), (.keep, true), (.keep, true), (.keep, true), (.keep, true), (.keep, true), (.keep, true), (.keep, true), (.keep, true), (.keep, true), (.keep, true), (.keep, false), (.sh (.one (.const (.slw 27 1))), true), (.sh (.one (.int .i64)), true), (.sh (.one (.int .i64)), true), (.sh (.one (.int .i64)), false), (.sh (.arr (.int .u8) none), false), (.keep, true), (.keep, true), (.keep, true), (.keep, true), (.keep, true), (.keep, false), (.keep, true), (.keep, true), (.keep, true), (.keep, true), (.keep, true), (.keep, true), (.keep, true), (.sh (.one (.int .u32)), true), (.sh (.one (.const (.slw 52 1))), true), (.keep, false), (.keep, false), (.keep, false), (.keep, true), (.keep, true), (.keep, true), (.keep, true), (.keep, true), (.keep, false), (.sh (.arr (.int .u8) none), false)]⟩)], [[.int, .int, .int, .int, .lst (.int .u8), .int, .lst (.int .u8)]]⟩), (118, ⟨[], [], [(.normal, ⟨[(15, (.av (.one (.int .u32))))], [(.keep, true), (.keep, true), (.keep, true), (.keep, true), (.keep, true), (.keep, true), (.keep, true), (.keep, true), (.keep, true), (.keep, true), (.keep, true), (.keep, true), (.keep, true), (.keep, true), (.keep, true), (.keep, true), (.keep, true), (.keep, true), (.keep, true), (.keep, true), (.keep, true), (.keep, true), (.keep, false), (.keep, true), (.keep, true), (.keep, true), (.keep, false), (.keep, false), (.keep, true), (.keep, true), (.keep, true), (.keep, true), (.keep, true), (.keep, false), (.keep, true), (.keep, true), (.keep, true), (.keep, true), (.keep, true), (.keep, true), (.keep, true), (.keep, true), (.keep, true), (.keep, false), (.keep, false), (.keep, false), (.keep, true), (.keep, true), (.keep, true), (.keep, true), (.keep, true), (.keep, false), (.keep, false)]⟩)], [[.int]]⟩), (116, ⟨[], [], [(.normal, ⟨[(15, (.av (.one (.int .u32))))], [(.keep, true), (.keep, true), (.keep, true), (.keep, true), (.keep, true), (.keep, true), (.keep, true), (.keep, true), (.keep, true), (.keep, true), (.keep, true), (.keep, true), (.keep, true), (.keep, true), (.keep, true), (.keep, true), (.keep, true), (.keep, true), (.keep, true), (.keep, true), (.keep, true), (.keep, true), (.keep, false), (.keep, true), (.keep, true), (.keep, true), (.keep, false), (.keep, false), (.keep, true), (.keep, true), (.keep, true), (.keep, true), (.keep, true), (.keep, false), (.keep, true), (.keep, true), (.keep, true), (.keep, true), (.keep, true), (.keep, true), (.keep, true), (.keep, true), (.keep, true), (.keep, false), (.keep, false), (.keep, false), (.keep, true), (.keep, true), (.keep, true), (.keep, true), (.keep, true), (.keep, false), (.keep, false)]⟩)], [[.int]]⟩), (132, ⟨[], [29], [(.normal, ⟨[], [(.keep, true), (.keep, true), (.keep, true), (.keep, true), (.keep, true), (.keep, true), (.keep, true), (.keep, true), (.keep, true), (.keep, true), (.keep, true), (.keep, true), (.keep, true), (.keep, true), (.keep, true), (.keep, true), (.keep, true), (.keep, true), (.keep, true), (.keep, true), (.keep, true), (.keep, true), (.keep, false), (.keep, true), (.keep, true), (.keep, true), (.keep, false), (.keep, false), (.keep, true), (.sh (.one (.int .i64)), true), (.keep, true), (.keep, true), (.keep, true), (.keep, false), (.keep, true), (.keep, true), (.keep, true), (.keep, true), (.keep, true), (.keep, true), (.keep, true), (.keep, true), (.keep, true), (.keep, false), (.keep, false), (.keep, false), (.keep, true), (.keep, true), (.keep, true), (.keep, true), (.keep, true), (.keep, false), (.keep, false)]⟩)], [[.int]]⟩), (125, ⟨[], [29, 30, 31], [(.normal, ⟨[], [(.keep, true), (.keep, true), (.keep, true), (.keep, true), (.keep, true), (.keep, true), (.keep, true), (.keep, true), (.keep, true), (.keep, true), (.keep, true), (.keep, true), (.keep, true), (.keep, true), (.keep, true), (.keep, true), (.keep, true), (.keep, true), (.keep, true), (.keep, true), (.keep, true), (.keep, true), (.keep, false), (.keep, true), (.keep, true), (.keep, true), (.keep, false), (.keep, false), (.keep, true), (.sh (.one (.int .i64)), true), (.sh (.one (.int .u32)), true), (.sh (.one (.int .u32)), true), (.keep, true), (.keep, false), (.keep, true), (.keep, true), (.keep, true), (.keep, true), (.keep, true), (.keep, true), (.keep, true), (.keep, true), (.keep, true), (.keep, false), (.keep, false), (.keep, false), (.keep, true), (.keep, true), (.keep, true), (.keep, true), (.keep, true), (.keep, false), (.keep, false)]⟩)], [[.int, .int, .int]]⟩), (121, ⟨[], [29, 30, 31], [(.normal, ⟨[], [(.keep, true), (.keep, true), (.keep, true), (.keep, true), (.keep, true), (.keep, true), (.keep, true), (.keep, true), (.keep, true), (.keep, true), (.keep, true), (.keep, true), (.keep, true), (.keep, true), (.keep, true), (.keep, true), (.keep, true), (.keep, true), (.keep, true), (.keep, true), (.keep, true), (.keep, true), (.keep, false), (.keep, true), (.keep, true), (.keep, true), (.keep, false), (.keep, false), (.keep, true), (.sh (.one (.int .i64)), true), (.sh (.one (.int .u32)), true), (.sh (.one (.int .u32)), true), (.keep, true), (.keep, false), (.keep, true), (.keep, true), (.keep, true), (.keep, true), (.keep, true), (.keep, true), (.keep, true), (.keep, true), (.keep, true), (.keep, false), (.keep, false), (.keep, false), (.keep, true), (.keep, true), (.keep, true), (.keep, true), (.keep, true), (.keep, false), (.keep, false)]⟩)], [[.int, .int, .int]]⟩)], loop := fun k => assoc0 k [], nil := fun k => assoc0 k [], unr := fun k => assocN k [], blk := fun k => assoc0 k [] })]
noncomputable def rpc_Classify_C (N : Nat) : Nat → List GS := fun k => tabOf k [(45, [xdr_NewReader_g N]), (46, [xdr_Reader_Uint_g N]), (47, [rpc_getAuth_g N]), (48, [xdr_Reader_Why_g N]), (34, [rpc_GetCred_g N]), (49, [rpc_rest_g N])]
def rpc_Classify_o : List (Shp × List Nat) := [(⟨[(0, (.av (.agg [(.one (.int .i64)), (.one (.int .u32)), (.one (.int .i64)), (.one (.int .u32)), (.one (.int .u32)), (.one (.int .u32)), (.one (.const .nils)), (.one (.int .u32)), (.one (.int .u32)), (.one (.int .u32)), (.one (.int .u32)), (.one (.int .u32)), (.one (.int .u32)), (.one (.const (.slw 0 1))), (.one (.int .u32)), (.one (.const (.slw 1 1))), (.one (.const (.slw 2 1))), (.one (.int .u32)), (.one (.int .u32)), (.one .str), (.one (.int .u32)), (.one (.int .u32)), (.one (.const (.slw 3 1)))])))], [(.sh (.arr (.int .u8) none), false), (.sh (.arr (.int .u8) none), false), (.sh (.arr (.int .u8) none), false), (.sh (.arr (.int .u32) none), false)]⟩, [])]
noncomputable def rpc_Classify_g (N : Nat) : GS := { ins := ⟨[(0, (.av (.one (.rsl (.int .u8)))))], []⟩, lend := [.lend (.int .u8)], outs := rpc_Classify_o.map fun s => ssOf s.1, its := [.lst (.int .u8)], ots := [((.int : LK) :: (.int : LK) :: (.int : LK) :: (.int : LK) :: (.int : LK) :: (.int : LK) :: (.int : LK) :: (.int : LK) :: (.int : LK) :: (.int : LK) :: (.int : LK) :: (.int : LK) :: (.int : LK) :: (.int : LK) :: (.int : LK) :: (.str : LK) :: (.int : LK) :: (.int : LK) :: (.lst (.int .u8) : LK) :: (.lst (.int .u8) : LK) :: (.lst (.int .u8) : LK) :: (.lst (.int .u32) : LK) :: [])], F := rpc_Classify N }
noncomputable def rpc_Classify_CA (N : Nat) (f0 : (List Int) → Option ((List Int))) (f1 : Int × Int × Int × (List Int) → Option (Int × Int × Int × Int × (List Int))) (f2 : Int × Int × Int × (List Int) → Option (Int × Int × Int × Int × (List Int) × (List Int))) (f3 : Int × Int × Int × (List Int) → Option (Int × Int × Int × Int × Int × (List Int))) (f4 : Int × (List Int) → Option (Int × Int × (List UInt8) × Int × Int × Int × (List Int))) (f5 : (List Int) × Int × Int × Int × (List Int) → Option (Int × Int × Int × (List Int) × (List Int))) : Nat → List GS := fun k => tabOf k [(45, [{ xdr_NewReader_g N with F := f0 }]), (46, [{ xdr_Reader_Uint_g N with F := f1 }]), (47, [{ rpc_getAuth_g N with F := f2 }]), (48, [{ xdr_Reader_Why_g N with F := f3 }]), (34, [{ rpc_GetCred_g N with F := f4 }]), (49, [{ rpc_rest_g N with F := f5 }])]
theorem rpc_Classify_CE (N : Nat) : rpc_Classify_CA N (xdr_NewReader) (xdr_Reader_Uint N) (rpc_getAuth N) (xdr_Reader_Why) (rpc_GetCred N) (rpc_rest) = rpc_Classify_C N := by kernel_rfl
theorem rpc_Classify_t (N : Nat) : TabC Try.prog (rpc_Classify_C N) := tab_ok ⟨⟨xdr_NewReader_ok N, trivial⟩, ⟨xdr_Reader_Uint_ok N, trivial⟩, ⟨rpc_getAuth_ok N, trivial⟩, ⟨xdr_Reader_Why_ok N, trivial⟩, ⟨rpc_GetCred_ok N, trivial⟩, ⟨rpc_rest_ok N, trivial⟩, trivial⟩
theorem rpc_Classify_i : loopsOf rpc_Classify_c = [] := by kernel_rfl
noncomputable def rpc_Classify_a (N : Nat) (f0 : (List Int) → Option ((List Int))) (f1 : Int × Int × Int × (List Int) → Option (Int × Int × Int × Int × (List Int))) (f2 : Int × Int × Int × (List Int) → Option (Int × Int × Int × Int × (List Int) × (List Int))) (f3 : Int × Int × Int × (List Int) → Option (Int × Int × Int × Int × Int × (List Int))) (f4 : Int × (List Int) → Option (Int × Int × (List UInt8) × Int × Int × Int × (List Int))) (f5 : (List Int) × Int × Int × Int × (List Int) → Option (Int × Int × Int × (List Int) × (List Int))) (x : (List Int)) : Option (Int × Int × Int × Int × Int × Int × Int × Int × Int × Int × Int × Int × Int × Int × Int × (List UInt8) × Int × Int × (List Int) × (List Int) × (List Int) × (List Int)) :=
  (Option.bind (f0 x) fun r2 =>
  (Option.bind (f1 ((0 : Int), (0 : Int), (0 : Int), r2)) fun r3 =>
  (Option.bind (f1 (r3.2.1, r3.2.2.1, r3.2.2.2.1, r3.2.2.2.2)) fun r4 =>
  (Option.bind (f1 (r4.2.1, r4.2.2.1, r4.2.2.2.1, r4.2.2.2.2)) fun r5 =>
  (let v6 : Int := (((List.length x) : Nat) : Int)
  (Option.bind
  (cond (decide (v6 < (8 : Int)))
  (some true)
  (cond (!(decide (r4.1 = (0 : Int))))
  (some true)
  (cond (decide (v6 < (24 : Int)))
  (cond (decide (r5.1 = (2 : Int)))
  (some true)
  (some (decide (v6 < (12 : Int)))))
  (some false))))
  fun r12 =>
  (cond r12
  (some ((0 : Int), (0 : Int), (0 : Int), (0 : Int), (0 : Int), (0 : Int), (0 : Int), (0 : Int), (0 : Int), (0 : Int), (0 : Int), (0 : Int), (0 : Int), (0 : Int), (0 : Int), ([] : List UInt8), (0 : Int), (0 : Int), ([] : List Int), ([] : List Int), ([] : List Int), ([] : List Int)))
  (cond (!(decide (r5.1 = (2 : Int))))
  (some ((1 : Int), r3.1, (6 : Int), (2 : Int), (2 : Int), (0 : Int), (0 : Int), (0 : Int), (0 : Int), (0 : Int), (0 : Int), (0 : Int), (0 : Int), (0 : Int), (0 : Int), ([] : List UInt8), (0 : Int), (0 : Int), ([] : List Int), ([] : List Int), ([] : List Int), ([] : List Int)))
  (Option.bind (f1 (r5.2.1, r5.2.2.1, r5.2.2.2.1, r5.2.2.2.2)) fun r16 =>
  (Option.bind (f1 (r16.2.1, r16.2.2.1, r16.2.2.2.1, r16.2.2.2.2)) fun r17 =>
  (Option.bind (f1 (r17.2.1, r17.2.2.1, r17.2.2.2.1, r17.2.2.2.2)) fun r18 =>
  (Option.bind (f2 (r18.2.1, r18.2.2.1, r18.2.2.2.1, r18.2.2.2.2)) fun r19 =>
  (Option.bind (f3 (r19.2.1, r19.2.2.1, r19.2.2.2.1, r19.2.2.2.2.1)) fun r20 =>
  (cond (!(decide (r20.1 = (0 : Int))))
  (some ((1 : Int), r3.1, (7 : Int), (0 : Int), (0 : Int), (1 : Int), (0 : Int), (0 : Int), (0 : Int), (0 : Int), (0 : Int), (0 : Int), (0 : Int), (0 : Int), (0 : Int), ([] : List UInt8), (0 : Int), (0 : Int), ([] : List Int), ([] : List Int), ([] : List Int), ([] : List Int)))
  (Option.bind (f4 (r19.1, r19.2.2.2.2.2)) fun r23 =>
  (Option.bind
  (cond (decide (r23.2.2.2.2.2.1 = (0 : Int)))
  (Option.bind (f2 (r20.2.2.1, r20.2.2.2.1, r20.2.2.2.2.1, r20.2.2.2.2.2)) fun r26 =>
  (Option.bind (f3 (r26.2.1, r26.2.2.1, r26.2.2.2.1, r26.2.2.2.2.1)) fun r27 =>
  (Option.bind
  (cond (!(decide (r27.1 = (0 : Int))))
  (some true)
  (cond (!(decide (r26.1 = (0 : Int))))
  (some true)
  (some (decide ((0 : Int) < (((List.length r26.2.2.2.2.2) : Nat) : Int))))))
  fun r32 =>
  (Option.bind
  (cond r32
  (some (3 : Int))
  (some r23.2.2.2.2.2.1))
  fun r33 =>
  (some (r33, r27.2.2.1, r27.2.2.2.1, r27.2.2.2.2.1, r27.2.2.2.2.2, r26.1, r26.2.2.2.2.2))))))
  (some (r23.2.2.2.2.2.1, r20.2.2.1, r20.2.2.2.1, r20.2.2.2.2.1, r20.2.2.2.2.2, (0 : Int), ([] : List Int))))
  fun r34 =>
  (cond (!(decide (r34.1 = (0 : Int))))
  (some ((1 : Int), r3.1, (7 : Int), (0 : Int), (0 : Int), r34.1, (0 : Int), (0 : Int), (0 : Int), (0 : Int), (0 : Int), (0 : Int), (0 : Int), (0 : Int), (0 : Int), ([] : List UInt8), (0 : Int), (0 : Int), ([] : List Int), ([] : List Int), ([] : List Int), ([] : List Int)))
  (Option.bind
  (cond (decide (r16.1 = (100003 : Int)))
  (some (22 : Int))
  (Option.bind
  (cond (decide (r16.1 = (100005 : Int)))
  (some (4 : Int))
  (some (0 : Int)))
  fun r39 =>
  (some r39)))
  fun r40 =>
  (Option.bind
  (cond (decide (r40 = (0 : Int)))
  (some ((1 : Int), (0 : Int), (0 : Int)))
  (Option.bind
  (cond (!(decide (r17.1 = (3 : Int))))
  (some ((2 : Int), (3 : Int), (3 : Int)))
  (Option.bind
  (cond (decide (r40 ≤ r18.1))
  (some (3 : Int))
  (some (0 : Int)))
  fun r44 =>
  (some (r44, (0 : Int), (0 : Int)))))
  fun r45 =>
  (some (r45.1, r45.2.1, r45.2.2))))
  fun r46 =>
  (cond (!(decide (r46.1 = (0 : Int))))
  (some ((1 : Int), r3.1, r46.1, r46.2.1, r46.2.2, (0 : Int), (0 : Int), (0 : Int), (0 : Int), (0 : Int), (0 : Int), (0 : Int), (0 : Int), (0 : Int), (0 : Int), ([] : List UInt8), (0 : Int), (0 : Int), ([] : List Int), ([] : List Int), ([] : List Int), ([] : List Int)))
  (Option.bind (f5 (x, r34.2.1, r34.2.2.1, r34.2.2.2.1, r34.2.2.2.2.1)) fun r49 =>
  (some ((2 : Int), (0 : Int), (0 : Int), (0 : Int), (0 : Int), (0 : Int), r3.1, r5.1, r16.1, r17.1, r18.1, r19.1, r34.2.2.2.2.2.1, r23.1, r23.2.1, r23.2.2.1, r23.2.2.2.1, r23.2.2.2.2.1, r19.2.2.2.2.2, r34.2.2.2.2.2.2, r49.2.2.2.2, r23.2.2.2.2.2.2)))))))))))))))))))))))
theorem rpc_Classify_f (N : Nat) (f0 : (List Int) → Option ((List Int))) (f1 : Int × Int × Int × (List Int) → Option (Int × Int × Int × Int × (List Int))) (f2 : Int × Int × Int × (List Int) → Option (Int × Int × Int × Int × (List Int) × (List Int))) (f3 : Int × Int × Int × (List Int) → Option (Int × Int × Int × Int × Int × (List Int))) (f4 : Int × (List Int) → Option (Int × Int × (List UInt8) × Int × Int × Int × (List Int))) (f5 : (List Int) × Int × Int × Int × (List Int) → Option (Int × Int × Int × (List Int) × (List Int))) (x) : rpc_Classify_a N f0 f1 f2 f3 f4 f5 x = fnStep Γ (rpc_Classify_CA N f0 f1 f2 f3 f4 f5) (rpc_Classify_J N) 150 Try.f15.results.toList (rpc_Classify_g N) rpc_Classify_o rpc_Classify_c x := by kernel_rfl
theorem rpc_Classify_e (N : Nat) (x) : (rpc_Classify_g N).F x = fnStep Γ (rpc_Classify_C N) (rpc_Classify_J N) 150 Try.f15.results.toList (rpc_Classify_g N) rpc_Classify_o rpc_Classify_c x := by
  rw [← rpc_Classify_CE N]
  exact Eq.trans (by kernel_rfl) (rpc_Classify_f N (xdr_NewReader) (xdr_Reader_Uint N) (rpc_getAuth N) (xdr_Reader_Why) (rpc_GetCred N) (rpc_rest) x)
theorem rpc_Classify_y : Try.f15.body = some rpc_Classify_c := by kernel_rfl
theorem rpc_Classify_n : (Try.f15.name == "runtime.NumGoroutine") = false := by kernel_rfl
theorem rpc_Classify_ok (N : Nat) : FnDoes Try.prog 15 (rpc_Classify_g N) := fn_ok tabOK (rpc_Classify_t N) mixedOK (J := rpc_Classify_J N) (body := rpc_Classify_c) Try.func15 rpc_Classify_y rpc_Classify_n Try.ntmps15 (jok_from rpc_Classify_i ⟨trivial, trivial⟩) rfl rfl (le_of_ble rfl) (rpc_Classify_e N)
noncomputable def granarylaw21_num_c : Code := codeOf Try.f23.body
noncomputable def granarylaw21_num_J (N : Nat) : Nat → Hint := fun cx => hintOf cx []
noncomputable def granarylaw21_num_C (N : Nat) : Nat → List GS := fun k => tabOf k []
def granarylaw21_num_o : List (Shp × List Nat) := [(⟨[(0, (.av (.one (.int .i64))))], []⟩, [])]
noncomputable def granarylaw21_num_g (N : Nat) : GS := { ins := ⟨[(0, (.av (.one (.int .i64))))], []⟩, lend := [.keep], outs := granarylaw21_num_o.map fun s => ssOf s.1, its := [.int], ots := [[.int]], F := granarylaw21_num }
theorem granarylaw21_num_t (N : Nat) : TabC Try.prog (granarylaw21_num_C N) := tab_ok trivial
theorem granarylaw21_num_i : loopsOf granarylaw21_num_c = [] := by kernel_rfl
theorem granarylaw21_num_e (N : Nat) (x) : (granarylaw21_num_g N).F x = fnStep Γ (granarylaw21_num_C N) (granarylaw21_num_J N) 4 Try.f23.results.toList (granarylaw21_num_g N) granarylaw21_num_o granarylaw21_num_c x := by kernel_rfl
theorem granarylaw21_num_y : Try.f23.body = some granarylaw21_num_c := by kernel_rfl
theorem granarylaw21_num_n : (Try.f23.name == "runtime.NumGoroutine") = false := by kernel_rfl
theorem granarylaw21_num_ok (N : Nat) : FnDoes Try.prog 23 (granarylaw21_num_g N) := fn_ok tabOK (granarylaw21_num_t N) mixedOK (J := granarylaw21_num_J N) (body := granarylaw21_num_c) Try.func23 granarylaw21_num_y granarylaw21_num_n Try.ntmps23 (jok_from granarylaw21_num_i trivial) rfl rfl (le_of_ble rfl) (granarylaw21_num_e N)
noncomputable def rpc_Classify_v1_c : Code := codeOf Try.f15.body
noncomputable def rpc_Classify_v1_J (N : Nat) : Nat → Hint := fun cx => hintOf cx [(0, { reg := fun k => assoc0 k [(5, ⟨⟨[(44, (.av (.one .bool)))], [(.keep, true), (.keep, true), (.keep, true), (.keep, true), (.keep, true), (.keep, true), (.keep, true), (.keep, true), (.keep, true), (.keep, true), (.keep, true), (.keep, true), (.keep, true), (.keep, true), (.keep, true), (.keep, true), (.keep, true), (.keep, true), (.keep, true), (.keep, true), (.keep, true), (.keep, true), (.keep, false), (.keep, true), (.keep, true), (.keep, true), (.keep, false), (.keep, false), (.keep, true), (.keep, true), (.keep, true), (.keep, true), (.keep, true), (.keep, false)]⟩, [], [], [.bool]⟩), (21, ⟨⟨[(107, (.av (.one .bool)))], [(.keep, true), (.keep, true), (.keep, true), (.keep, true), (.keep, true), (.keep, true), (.keep, true), (.keep, true), (.keep, true), (.keep, true), (.keep, true), (.keep, true), (.keep, true), (.keep, true), (.keep, true), (.keep, true), (.keep, true), (.keep, true), (.keep, true), (.keep, true), (.keep, true), (.keep, true), (.keep, false), (.keep, true), (.keep, true), (.keep, true), (.keep, false), (.keep, false), (.keep, true), (.keep, true), (.keep, true), (.keep, true), (.keep, true), (.keep, false), (.keep, true), (.keep, true), (.keep, true), (.keep, true), (.keep, true), (.keep, true), (.keep, true), (.keep, true), (.keep, true), (.keep, false), (.keep, false), (.keep, false), (.keep, true), (.keep, true), (.keep, true), (.keep, true), (.keep, true), (.keep, false), (.keep, false)]⟩, [], [], [.bool]⟩)], cnd := fun k => assoc0 k [(107, ⟨[], [], [(.normal, ⟨[(12, (.av (.one (.int .u32))))], [(.keep, true), (.keep, true), (.keep, true), (.keep, true), (.keep, true), (.keep, true), (.keep, true), (.keep, true), (.keep, true), (.keep, true), (.keep, true), (.keep, true), (.keep, true), (.keep, true), (.keep, true), (.keep, true), (.keep, true), (.keep, true), (.keep, true), (.keep, true), (.keep, true), (.keep, true), (.keep, false), (.keep, true), (.keep, true), (.keep, true), (.keep, false), (.keep, false), (.keep, true), (.keep, true), (.keep, true), (.keep, true), (.keep, true), (.keep, false), (.keep, true), (.keep, true), (.keep, true), (.keep, true), (.keep, true), (.keep, true), (.keep, true), (.keep, true), (.keep, true), (.keep, false), (.keep, false), (.keep, false), (.keep, true), (.keep, true), (.keep, true), (.keep, true), (.keep, true), (.keep, false), (.keep, false)]⟩)], [[.int]]⟩), (84, ⟨[], [23, 24, 25, 26, 27, 41, 42], [(.normal, ⟨[(12, (.av (.one (.int .u32))))], [(.keep, true), (.keep, true), (.keep, true), (.keep, true), (.keep, true), (.keep, true), (.keep, true), (.keep, true), (.keep, true), (.keep, true), (.keep, true), (.keep, true), (.keep, true), (.keep, true), (.keep, true), (.keep, true), (.keep, true), (.keep, true), (.keep, true), (.keep, true), (.keep, true), (.keep, true), (.keep, false), (.sh (.one (.const (.slw 27 1))), true), (.sh (.one (.int .i64)), true), (.sh (.one (.int .i64)), true), (.sh (.one (.int .i64)), false), (.sh (.arr (.int .u8) none), false), (.keep, true), (.keep, true), (.keep, true), (.keep, true), (.keep, true), (.keep, false), (.keep, true), (.keep, true), (.keep, true), (.keep, true), (.keep, true), (.keep, true), (.keep, true), (.sh (.one (.int .u32)), true), (.sh (.one (.const (.slw 52 1))), true), (.keep, false), (.keep, false), (.keep, false), (.keep, true), (.keep, true), (.keep, true), (.keep, true), (.keep, true), (.keep, false), (.sh (.arr (.int .u8) none), false)]⟩)], [[.int, .int, .int, .int, .lst (.int .u8), .int, .lst (.int .u8)]]⟩), (118, ⟨[], [], [(.normal, ⟨[(15, (.av (.one (.int .u32))))], [(.keep, true), (.keep, true), (.keep, true), (.keep, true), (.keep, true), (.keep, true), (.keep, true), (.keep, true), (.keep, true), (.keep, true), (.keep, true), (.keep, true), (.keep, true), (.keep, true), (.keep, true), (.keep, true), (.keep, true), (.keep, true), (.keep, true), (.keep, true), (.keep, true), (.keep, true), (.keep, false), (.keep, true), (.keep, true), (.keep, true), (.keep, false), (.keep, false), (.keep, true), (.keep, true), (.keep, true), (.keep, true), (.keep, true), (.keep, false), (.keep, true), (.keep, true), (.keep, true), (.keep, true), (.keep, true), (.keep, true), (.keep, true), (.keep, true), (.keep, true), (.keep, false), (.keep, false), (.keep, false), (.keep, true), (.keep, true), (.keep, true), (.keep, true), (.keep, true), (.keep, false), (.keep, false)]⟩)], [[.int]]⟩), (116, ⟨[], [], [(.normal, ⟨[(15, (.av (.one (.int .u32))))], [(.keep, true), (.keep, true), (.keep, true), (.keep, true), (.keep, true), (.keep, true), (.keep, true), (.keep, true), (.keep, true), (.keep, true), (.keep, true), (.keep, true), (.keep, true), (.keep, true), (.keep, true), (.keep, true), (.keep, true), (.keep, true), (.keep, true), (.keep, true), (.keep, true), (.keep, true), (.keep, false), (.keep, true), (.keep, true), (.keep, true), (.keep, false), (.keep, false), (.keep, true), (.keep, true), (.keep, true), (.keep, true), (.keep, true), (.keep, false), (.keep, true), (.keep, true), (.keep, true), (.keep, true), (.keep, true), (.keep, true), (.keep, true), (.keep, true), (.keep, true), (.keep, false), (.keep, false), (.keep, false), (.keep, true), (.keep, true), (.keep, true), (.keep, true), (.keep, true), (.keep, false), (.keep, false)]⟩)], [[.int]]⟩), (132, ⟨[], [29], [(.normal, ⟨[], [(.keep, true), (.keep, true), (.keep, true), (.keep, true), (.keep, true), (.keep, true), (.keep, true), (.keep, true), (.keep, true), (.keep, true), (.keep, true), (.keep, true), (.keep, true), (.keep, true), (.keep, true), (.keep, true), (.keep, true), (.keep, true), (.keep, true), (.keep, true), (.keep, true), (.keep, true), (.keep, false), (.keep, true), (.keep, true), (.keep, true), (.keep, false), (.keep, false), (.keep, true), (.sh (.one (.int .i64)), true), (.keep, true), (.keep, true), (.keep, true), (.keep, false), (.keep, true), (.keep, true), (.keep, true), (.keep, true), (.keep, true), (.keep, true), (.keep, true), (.keep, true), (.keep, true), (.keep, false), (.keep, false), (.keep, false), (.keep, true), (.keep, true), (.keep, true), (.keep, true), (.keep, true), (.keep, false), (.keep, false)]⟩)], [[.int]]⟩), (125, ⟨[], [29, 30, 31], [(.normal, ⟨[], [(.keep, true), (.keep, true), (.keep, true), (.keep, true), (.keep, true), (.keep, true), (.keep, true), (.keep, true), (.keep, true), (.keep, true), (.keep, true), (.keep, true), (.keep, true), (.keep, true), (.keep, true), (.keep, true), (.keep, true), (.keep, true), (.keep, true), (.keep, true), (.keep, true), (.keep, true), (.keep, false), (.keep, true), (.keep, true), (.keep, true), (.keep, false), (.keep, false), (.keep, true), (.sh (.one (.int .i64)), true), (.sh (.one (.int .u32)), true), (.sh (.one (.int .u32)), true), (.keep, true), (.keep, false), (.keep, true), (.keep, true), (.keep, true), (.keep, true), (.keep, true), (.keep, true), (.keep, true), (.keep, true), (.keep, true), (.keep, false), (.keep, false), (.keep, false), (.keep, true), (.keep, true), (.keep, true), (.keep, true), (.keep, true), (.keep, false), (.keep, false)]⟩)], [[.int, .int, .int]]⟩), (121, ⟨[], [29, 30, 31], [(.normal, ⟨[], [(.keep, true), (.keep, true), (.keep, true), (.keep, true), (.keep, true), (.keep, true), (.keep, true), (.keep, true), (.keep, true), (.keep, true), (.keep, true), (.keep, true), (.keep, true), (.keep, true), (.keep, true), (.keep, true), (.keep, true), (.keep, true), (.keep, true), (.keep, true), (.keep, true), (.keep, true), (.keep, false), (.keep, true), (.keep, true), (.keep, true), (.keep, false), (.keep, false), (.keep, true), (.sh (.one (.int .i64)), true), (.sh (.one (.int .u32)), true), (.sh (.one (.int .u32)), true), (.keep, true), (.keep, false), (.keep, true), (.keep, true), (.keep, true), (.keep, true), (.keep, true), (.keep, true), (.keep, true), (.keep, true), (.keep, true), (.keep, false), (.keep, false), (.keep, false), (.keep, true), (.keep, true), (.keep, true), (.keep, true), (.keep, true), (.keep, false), (.keep, false)]⟩)], [[.int, .int, .int]]⟩)], loop := fun k => assoc0 k [], nil := fun k => assoc0 k [], unr := fun k => assocN k [], blk := fun k => assoc0 k [] })]
noncomputable def rpc_Classify_v1_C (N : Nat) : Nat → List GS := fun k => tabOf k [(45, [xdr_NewReader_g N]), (46, [xdr_Reader_Uint_g N]), (47, [rpc_getAuth_g N]), (48, [xdr_Reader_Why_g N]), (34, [rpc_GetCred_g N]), (49, [rpc_rest_g N])]
def rpc_Classify_v1_o : List (Shp × List Nat) := [(⟨[(0, (.av (.agg [(.one (.int .i64)), (.one (.int .u32)), (.one (.int .i64)), (.one (.int .u32)), (.one (.int .u32)), (.one (.int .u32)), (.one (.const .nils)), (.one (.int .u32)), (.one (.int .u32)), (.one (.int .u32)), (.one (.int .u32)), (.one (.int .u32)), (.one (.int .u32)), (.one (.const (.slw 0 1))), (.one (.int .u32)), (.one (.const (.slw 1 1))), (.one (.const (.slw 2 1))), (.one (.int .u32)), (.one (.int .u32)), (.one .str), (.one (.int .u32)), (.one (.int .u32)), (.one (.const (.slw 3 1)))])))], [(.sh (.arr (.int .u8) none), false), (.sh (.arr (.int .u8) none), false), (.sh (.arr (.int .u8) none), false), (.sh (.arr (.int .u32) none), false)]⟩, [])]
noncomputable def rpc_Classify_v1_g (N : Nat) : GS := { ins := ⟨[(0, (.av (.one (.rsl (.int .u8)))))], []⟩, lend := [.keep], outs := rpc_Classify_v1_o.map fun s => ssOf s.1, its := [.lst (.int .u8)], ots := [((.int : LK) :: (.int : LK) :: (.int : LK) :: (.int : LK) :: (.int : LK) :: (.int : LK) :: (.int : LK) :: (.int : LK) :: (.int : LK) :: (.int : LK) :: (.int : LK) :: (.int : LK) :: (.int : LK) :: (.int : LK) :: (.int : LK) :: (.str : LK) :: (.int : LK) :: (.int : LK) :: (.lst (.int .u8) : LK) :: (.lst (.int .u8) : LK) :: (.lst (.int .u8) : LK) :: (.lst (.int .u32) : LK) :: [])], F := rpc_Classify_v1 N }
noncomputable def rpc_Classify_v1_CA (N : Nat) (f0 : (List Int) → Option ((List Int))) (f1 : Int × Int × Int × (List Int) → Option (Int × Int × Int × Int × (List Int))) (f2 : Int × Int × Int × (List Int) → Option (Int × Int × Int × Int × (List Int) × (List Int))) (f3 : Int × Int × Int × (List Int) → Option (Int × Int × Int × Int × Int × (List Int))) (f4 : Int × (List Int) → Option (Int × Int × (List UInt8) × Int × Int × Int × (List Int))) (f5 : (List Int) × Int × Int × Int × (List Int) → Option (Int × Int × Int × (List Int) × (List Int))) : Nat → List GS := fun k => tabOf k [(45, [{ xdr_NewReader_g N with F := f0 }]), (46, [{ xdr_Reader_Uint_g N with F := f1 }]), (47, [{ rpc_getAuth_g N with F := f2 }]), (48, [{ xdr_Reader_Why_g N with F := f3 }]), (34, [{ rpc_GetCred_g N with F := f4 }]), (49, [{ rpc_rest_g N with F := f5 }])]
theorem rpc_Classify_v1_CE (N : Nat) : rpc_Classify_v1_CA N (xdr_NewReader) (xdr_Reader_Uint N) (rpc_getAuth N) (xdr_Reader_Why) (rpc_GetCred N) (rpc_rest) = rpc_Classify_v1_C N := by kernel_rfl
theorem rpc_Classify_v1_t (N : Nat) : TabC Try.prog (rpc_Classify_v1_C N) := tab_ok ⟨⟨xdr_NewReader_ok N, trivial⟩, ⟨xdr_Reader_Uint_ok N, trivial⟩, ⟨rpc_getAuth_ok N, trivial⟩, ⟨xdr_Reader_Why_ok N, trivial⟩, ⟨rpc_GetCred_ok N, trivial⟩, ⟨rpc_rest_ok N, trivial⟩, trivial⟩
theorem rpc_Classify_v1_i : loopsOf rpc_Classify_v1_c = [] := by kernel_rfl
noncomputable def rpc_Classify_v1_a (N : Nat) (f0 : (List Int) → Option ((List Int))) (f1 : Int × Int × Int × (List Int) → Option (Int × Int × Int × Int × (List Int))) (f2 : Int × Int × Int × (List Int) → Option (Int × Int × Int × Int × (List Int) × (List Int))) (f3 : Int × Int × Int × (List Int) → Option (Int × Int × Int × Int × Int × (List Int))) (f4 : Int × (List Int) → Option (Int × Int × (List UInt8) × Int × Int × Int × (List Int))) (f5 : (List Int) × Int × Int × Int × (List Int) → Option (Int × Int × Int × (List Int) × (List Int))) (x : (List Int)) : Option (Int × Int × Int × Int × Int × Int × Int × Int × Int × Int × Int × Int × Int × Int × Int × (List UInt8) × Int × Int × (List Int) × (List Int) × (List Int) × (List Int)) :=
  (Option.bind (f0 x) fun r2 =>
  (Option.bind (f1 ((0 : Int), (0 : Int), (0 : Int), r2)) fun r3 =>
  (Option.bind (f1 (r3.2.1, r3.2.2.1, r3.2.2.2.1, r3.2.2.2.2)) fun r4 =>
  (Option.bind (f1 (r4.2.1, r4.2.2.1, r4.2.2.2.1, r4.2.2.2.2)) fun r5 =>
  (let v6 : Int := (((List.length x) : Nat) : Int)
  (Option.bind
  (cond (decide (v6 < (8 : Int)))
  (some true)
  (cond (!(decide (r4.1 = (0 : Int))))
  (some true)
  (cond (decide (v6 < (24 : Int)))
  (cond (decide (r5.1 = (2 : Int)))
  (some true)
  (some (decide (v6 < (12 : Int)))))
  (some false))))
  fun r12 =>
  (cond r12
  (some ((0 : Int), (0 : Int), (0 : Int), (0 : Int), (0 : Int), (0 : Int), (0 : Int), (0 : Int), (0 : Int), (0 : Int), (0 : Int), (0 : Int), (0 : Int), (0 : Int), (0 : Int), ([] : List UInt8), (0 : Int), (0 : Int), ([] : List Int), ([] : List Int), ([] : List Int), ([] : List Int)))
  (cond (!(decide (r5.1 = (2 : Int))))
  (some ((1 : Int), r3.1, (6 : Int), (2 : Int), (2 : Int), (0 : Int), (0 : Int), (0 : Int), (0 : Int), (0 : Int), (0 : Int), (0 : Int), (0 : Int), (0 : Int), (0 : Int), ([] : List UInt8), (0 : Int), (0 : Int), ([] : List Int), ([] : List Int), ([] : List Int), ([] : List Int)))
  (Option.bind (f1 (r5.2.1, r5.2.2.1, r5.2.2.2.1, r5.2.2.2.2)) fun r16 =>
  (Option.bind (f1 (r16.2.1, r16.2.2.1, r16.2.2.2.1, r16.2.2.2.2)) fun r17 =>
  (Option.bind (f1 (r17.2.1, r17.2.2.1, r17.2.2.2.1, r17.2.2.2.2)) fun r18 =>
  (Option.bind (f2 (r18.2.1, r18.2.2.1, r18.2.2.2.1, r18.2.2.2.2)) fun r19 =>
  (Option.bind (f3 (r19.2.1, r19.2.2.1, r19.2.2.2.1, r19.2.2.2.2.1)) fun r20 =>
  (cond (!(decide (r20.1 = (0 : Int))))
  (some ((1 : Int), r3.1, (7 : Int), (0 : Int), (0 : Int), (1 : Int), (0 : Int), (0 : Int), (0 : Int), (0 : Int), (0 : Int), (0 : Int), (0 : Int), (0 : Int), (0 : Int), ([] : List UInt8), (0 : Int), (0 : Int), ([] : List Int), ([] : List Int), ([] : List Int), ([] : List Int)))
  (Option.bind (f4 (r19.1, r19.2.2.2.2.2)) fun r23 =>
  (Option.bind
  (cond (decide (r23.2.2.2.2.2.1 = (0 : Int)))
  (Option.bind (f2 (r20.2.2.1, r20.2.2.2.1, r20.2.2.2.2.1, r20.2.2.2.2.2)) fun r26 =>
  (Option.bind (f3 (r26.2.1, r26.2.2.1, r26.2.2.2.1, r26.2.2.2.2.1)) fun r27 =>
  (Option.bind
  (cond (!(decide (r27.1 = (0 : Int))))
  (some true)
  (cond (!(decide (r26.1 = (0 : Int))))
  (some true)
  (some (decide ((0 : Int) < (((List.length r26.2.2.2.2.2) : Nat) : Int))))))
  fun r32 =>
  (Option.bind
  (cond r32
  (some (3 : Int))
  (some r23.2.2.2.2.2.1))
  fun r33 =>
  (some (r33, r27.2.2.1, r27.2.2.2.1, r27.2.2.2.2.1, r27.2.2.2.2.2, r26.1, r26.2.2.2.2.2))))))
  (some (r23.2.2.2.2.2.1, r20.2.2.1, r20.2.2.2.1, r20.2.2.2.2.1, r20.2.2.2.2.2, (0 : Int), ([] : List Int))))
  fun r34 =>
  (cond (!(decide (r34.1 = (0 : Int))))
  (some ((1 : Int), r3.1, (7 : Int), (0 : Int), (0 : Int), r34.1, (0 : Int), (0 : Int), (0 : Int), (0 : Int), (0 : Int), (0 : Int), (0 : Int), (0 : Int), (0 : Int), ([] : List UInt8), (0 : Int), (0 : Int), ([] : List Int), ([] : List Int), ([] : List Int), ([] : List Int)))
  (Option.bind
  (cond (decide (r16.1 = (100003 : Int)))
  (some (22 : Int))
  (Option.bind
  (cond (decide (r16.1 = (100005 : Int)))
  (some (4 : Int))
  (some (0 : Int)))
  fun r39 =>
  (some r39)))
  fun r40 =>
  (Option.bind
  (cond (decide (r40 = (0 : Int)))
  (some ((1 : Int), (0 : Int), (0 : Int)))
  (Option.bind
  (cond (!(decide (r17.1 = (3 : Int))))
  (some ((2 : Int), (3 : Int), (3 : Int)))
  (Option.bind
  (cond (decide (r40 ≤ r18.1))
  (some (3 : Int))
  (some (0 : Int)))
  fun r44 =>
  (some (r44, (0 : Int), (0 : Int)))))
  fun r45 =>
  (some (r45.1, r45.2.1, r45.2.2))))
  fun r46 =>
  (cond (!(decide (r46.1 = (0 : Int))))
  (some ((1 : Int), r3.1, r46.1, r46.2.1, r46.2.2, (0 : Int), (0 : Int), (0 : Int), (0 : Int), (0 : Int), (0 : Int), (0 : Int), (0 : Int), (0 : Int), (0 : Int), ([] : List UInt8), (0 : Int), (0 : Int), ([] : List Int), ([] : List Int), ([] : List Int), ([] : List Int)))
  (Option.bind (f5 (x, r34.2.1, r34.2.2.1, r34.2.2.2.1, r34.2.2.2.2.1)) fun r49 =>
  (some ((2 : Int), (0 : Int), (0 : Int), (0 : Int), (0 : Int), (0 : Int), r3.1, r5.1, r16.1, r17.1, r18.1, r19.1, r34.2.2.2.2.2.1, r23.1, r23.2.1, r23.2.2.1, r23.2.2.2.1, r23.2.2.2.2.1, r19.2.2.2.2.2, r34.2.2.2.2.2.2, r49.2.2.2.2, r23.2.2.2.2.2.2)))))))))))))))))))))))
theorem rpc_Classify_v1_f (N : Nat) (f0 : (List Int) → Option ((List Int))) (f1 : Int × Int × Int × (List Int) → Option (Int × Int × Int × Int × (List Int))) (f2 : Int × Int × Int × (List Int) → Option (Int × Int × Int × Int × (List Int) × (List Int))) (f3 : Int × Int × Int × (List Int) → Option (Int × Int × Int × Int × Int × (List Int))) (f4 : Int × (List Int) → Option (Int × Int × (List UInt8) × Int × Int × Int × (List Int))) (f5 : (List Int) × Int × Int × Int × (List Int) → Option (Int × Int × Int × (List Int) × (List Int))) (x) : rpc_Classify_v1_a N f0 f1 f2 f3 f4 f5 x = fnStep Γ (rpc_Classify_v1_CA N f0 f1 f2 f3 f4 f5) (rpc_Classify_v1_J N) 150 Try.f15.results.toList (rpc_Classify_v1_g N) rpc_Classify_v1_o rpc_Classify_v1_c x := by kernel_rfl
theorem rpc_Classify_v1_e (N : Nat) (x) : (rpc_Classify_v1_g N).F x = fnStep Γ (rpc_Classify_v1_C N) (rpc_Classify_v1_J N) 150 Try.f15.results.toList (rpc_Classify_v1_g N) rpc_Classify_v1_o rpc_Classify_v1_c x := by
  rw [← rpc_Classify_v1_CE N]
  exact Eq.trans (by kernel_rfl) (rpc_Classify_v1_f N (xdr_NewReader) (xdr_Reader_Uint N) (rpc_getAuth N) (xdr_Reader_Why) (rpc_GetCred N) (rpc_rest) x)
theorem rpc_Classify_v1_y : Try.f15.body = some rpc_Classify_v1_c := by kernel_rfl
theorem rpc_Classify_v1_n : (Try.f15.name == "runtime.NumGoroutine") = false := by kernel_rfl
theorem rpc_Classify_v1_ok (N : Nat) : FnDoes Try.prog 15 (rpc_Classify_v1_g N) := fn_ok tabOK (rpc_Classify_v1_t N) mixedOK (J := rpc_Classify_v1_J N) (body := rpc_Classify_v1_c) Try.func15 rpc_Classify_v1_y rpc_Classify_v1_n Try.ntmps15 (jok_from rpc_Classify_v1_i ⟨trivial, trivial⟩) rfl rfl (le_of_ble rfl) (rpc_Classify_v1_e N)
noncomputable def rpc_Frame_c : Code := codeOf Try.f13.body
noncomputable def rpc_Frame_c0 : Code := codeOf (getLoop 0 rpc_Frame_c)
def rpc_Frame_d0 : LD := { ins := ⟨[(0, (.av (.one (.rsl (.int .u8))))), (5, (.av (.one (.const (.slw 0 1))))), (6, (.av (.one (.int .i64)))), (9, (.av (.one (.rsl (.int .i64))))), (10, (.av (.one (.int .i64)))), (11, (.av (.one (.int .i64))))], [(.sh (.arr (.int .u8) none), false)]⟩, mov := [0], wr := [], outs := [(.exit 0, ⟨[(0, (.av (.one (.rsl (.int .u8))))), (5, (.av (.one (.const (.slw 1 1)))))], [(.dead, false), (.sh (.arr (.int .u8) none), false)]⟩)], its := [.lst (.int .u8), .int, .lst (.int .i64), .int, .int, .lst (.int .u8)], ots := [[.lst (.int .u8), .lst (.int .u8)]] }
noncomputable def rpc_Frame_J (N : Nat) : Nat → Hint := fun cx => hintOf cx [(0, { reg := fun k => assoc0 k [(6, ⟨⟨[(26, (.av (.one .bool)))], [(.keep, false)]⟩, [], [], [.bool]⟩)], cnd := fun k => assoc0 k [], loop := fun k => assoc0 k [(0, ⟨rpc_Frame_d0, loopF (rpc_Frame_b0 N) N⟩)], nil := fun k => assoc0 k [], unr := fun k => assocN k [], blk := fun k => assoc0 k [(1, ⟨[0], [], [(.normal, ⟨[(0, (.av (.one (.rsl (.int .u8))))), (5, (.av (.one (.const (.slw 1 1))))), (6, (.av (.one (.int .i64))))], [(.dead, false), (.sh (.arr (.int .u8) none), false)]⟩)], [[.lst (.int .u8), .int, .lst (.int .u8)]]⟩)] })]
noncomputable def rpc_Frame_C (N : Nat) : Nat → List GS := fun k => tabOf k [(43, [octet_Put_g N, octet_Put_v1_g N])]
def rpc_Frame_o : List (Shp × List Nat) := [(⟨[(0, (.av (.one (.const (.slw 0 1)))))], [(.sh (.arr (.int .u8) none), false)]⟩, [])]
noncomputable def rpc_Frame_g (N : Nat) : GS := { ins := ⟨[(0, (.av (.one (.rsl (.int .u8))))), (1, (.av (.one (.rsl (.int .i64)))))], []⟩, lend := [.lend (.int .u8), .lend (.int .i64)], outs := rpc_Frame_o.map fun s => ssOf s.1, its := [.lst (.int .u8), .lst (.int .i64)], ots := [[.lst (.int .u8)]], F := rpc_Frame N }
noncomputable def rpc_Frame_CA (N : Nat) (f0 : Int × Int → Option ((List Int))) (f1 : Int × Int × (List Int) → Option ((List Int))) : Nat → List GS := fun k => tabOf k [(43, [{ octet_Put_g N with F := f0 }, { octet_Put_v1_g N with F := f1 }])]
theorem rpc_Frame_CE (N : Nat) : rpc_Frame_CA N (octet_Put N) (octet_Put_v1 N) = rpc_Frame_C N := by kernel_rfl
theorem rpc_Frame_t (N : Nat) : TabC Try.prog (rpc_Frame_C N) := tab_ok ⟨⟨octet_Put_ok N, octet_Put_v1_ok N, trivial⟩, trivial⟩
theorem rpc_Frame_i0 : loopsOf rpc_Frame_c0 = [] := by kernel_rfl
noncomputable def rpc_Frame_a0 (N : Nat) (f0 : Int × Int → Option ((List Int))) (f1 : Int × Int × (List Int) → Option ((List Int))) (next : (List Int) × Int × (List Int) × Int × Int × (List Int) → Option (((List Int) × (List Int)))) (x : (List Int) × Int × (List Int) × Int × Int × (List Int)) : Option (((List Int) × (List Int))) :=
  (cond (decide (x.2.2.2.2.1 < x.2.2.2.1))
  (Option.bind
  (cond ((decide ((0 : Int) ≤ x.2.2.2.2.1)) && (decide (x.2.2.2.2.1 < (((List.length x.2.2.1) : Nat) : Int))))
  ((let v2 : Int := (List.getD x.2.2.1 (Int.toNat x.2.2.2.2.1) (EK.dflt (.int .i64)))
  (Option.bind
  (cond (decide (v2 ≤ (0 : Int)))
  (some true)
  (cond (decide ((((List.length x.1) : Nat) : Int) ≤ v2))
  (some true)
  (some (decide ((32 : Int) ≤ x.2.1)))))
  fun r7 =>
  (cond r7
  (some (x.1, x.2.1, x.2.2.2.2.2))
  (Option.bind (f1 ((wrapF .u64 v2), (4 : Int), x.2.2.2.2.2)) fun r9 =>
  (cond ((decide ((0 : Int) ≤ v2)) && (decide (v2 ≤ (((List.length x.1) : Nat) : Int))))
  ((let v10 : List Int := (List.take (Int.toNat v2) (List.drop 0 x.1))
  (cond (fits 1 ((List.length r9) + (List.length v10)))
  ((cond (((decide ((0 : Int) ≤ v2)) && (decide (v2 ≤ (((List.length x.1) : Nat) : Int)))) && (decide ((((List.length x.1) : Nat) : Int) ≤ (((List.length x.1) : Nat) : Int))))
  ((some ((List.take ((List.length x.1) - (Int.toNat v2)) (List.drop (Int.toNat v2) x.1)), (wrapF .i64 (x.2.1 + (1 : Int))), (r9 ++ v10))))
  none))
  none)))
  none))))))
  none)
  fun r14 =>
  (next (r14.1, r14.2.1, x.2.2.1, x.2.2.2.1, (wrapF .i64 (x.2.2.2.2.1 + (1 : Int))), r14.2.2)))
  (some (x.1, x.2.2.2.2.2)))
theorem rpc_Frame_f0 (N : Nat) (f0 : Int × Int → Option ((List Int))) (f1 : Int × Int × (List Int) → Option ((List Int))) (next) (x) : rpc_Frame_a0 N f0 f1 next x = loopStep Γ (rpc_Frame_CA N f0 f1) (rpc_Frame_J N) 0 50 rpc_Frame_d0 rpc_Frame_c0 next x := by kernel_rfl
theorem rpc_Frame_e0 (N : Nat) (next) (x) : rpc_Frame_b0 N next x = loopStep Γ (rpc_Frame_C N) (rpc_Frame_J N) 0 50 rpc_Frame_d0 rpc_Frame_c0 next x := by
  rw [← rpc_Frame_CE N]
  exact Eq.trans (by kernel_rfl) (rpc_Frame_f0 N (octet_Put N) (octet_Put_v1 N) next x)
theorem rpc_Frame_k0 (N : Nat) : LoopOK Try.prog 50 rpc_Frame_c0 ⟨rpc_Frame_d0, loopF (rpc_Frame_b0 N) N⟩ := loop_ok tabOK (rpc_Frame_t N) mixedOK (J := rpc_Frame_J N) (cx := 0) (body := rpc_Frame_c0) (nt := 50) (l := rpc_Frame_d0) (b := rpc_Frame_b0 N) (jok_from rpc_Frame_i0 ⟨trivial, trivial⟩) (rpc_Frame_e0 N) N
theorem rpc_Frame_i : loopsOf rpc_Frame_c = [(0, rpc_Frame_c0)] := by kernel_rfl
noncomputable def rpc_Frame_a (N : Nat) (f0 : Int × Int → Option ((List Int))) (f1 : Int × Int × (List Int) → Option ((List Int))) (x : (List Int) × (List Int)) : Option ((List Int)) :=
  (Option.bind (rpc_Frame_l0 N (x.1, (1 : Int), x.2, (((List.length x.2) : Nat) : Int), (0 : Int), ([] : List Int))) fun r2 =>
  (Option.bind (f1 ((wrapF .u64 (orF .u32 (2147483648 : Int) (wrapF .u32 (((List.length r2.1) : Nat) : Int)))), (4 : Int), r2.2)) fun r7 =>
  (cond (fits 1 ((List.length r7) + (List.length r2.1)))
  ((some (r7 ++ r2.1)))
  none)))
theorem rpc_Frame_f (N : Nat) (f0 : Int × Int → Option ((List Int))) (f1 : Int × Int × (List Int) → Option ((List Int))) (x) : rpc_Frame_a N f0 f1 x = fnStep Γ (rpc_Frame_CA N f0 f1) (rpc_Frame_J N) 50 Try.f13.results.toList (rpc_Frame_g N) rpc_Frame_o rpc_Frame_c x := by kernel_rfl
theorem rpc_Frame_e (N : Nat) (x) : (rpc_Frame_g N).F x = fnStep Γ (rpc_Frame_C N) (rpc_Frame_J N) 50 Try.f13.results.toList (rpc_Frame_g N) rpc_Frame_o rpc_Frame_c x := by
  rw [← rpc_Frame_CE N]
  exact Eq.trans (by kernel_rfl) (rpc_Frame_f N (octet_Put N) (octet_Put_v1 N) x)
theorem rpc_Frame_y : Try.f13.body = some rpc_Frame_c := by kernel_rfl
theorem rpc_Frame_n : (Try.f13.name == "runtime.NumGoroutine") = false := by kernel_rfl
theorem rpc_Frame_ok (N : Nat) : FnDoes Try.prog 13 (rpc_Frame_g N) := fn_ok tabOK (rpc_Frame_t N) mixedOK (J := rpc_Frame_J N) (body := rpc_Frame_c) Try.func13 rpc_Frame_y rpc_Frame_n Try.ntmps13 (jok_from rpc_Frame_i ⟨⟨.inr ⟨_, rfl, rpc_Frame_k0 N⟩, trivial⟩, trivial⟩) rfl rfl (le_of_ble rfl) (rpc_Frame_e N)
noncomputable def granarylaw21_live_c : Code := codeOf Try.f12.body
noncomputable def granarylaw21_live_J (N : Nat) : Nat → Hint := fun cx => hintOf cx [(0, { reg := fun k => assoc0 k [(8, ⟨⟨[(0, (.av (.one .bool)))], [(.keep, true), (.keep, true), (.keep, true), (.keep, true), (.keep, true), (.keep, true), (.keep, false), (.dead, false), (.keep, false), (.dead, false), (.dead, false), (.dead, false), (.keep, false), (.keep, false), (.keep, false), (.keep, false), (.keep, false), (.keep, false), (.keep, false), (.keep, false), (.keep, true), (.keep, true), (.keep, true), (.keep, true), (.keep, true), (.keep, true), (.keep, true), (.keep, true), (.keep, true), (.keep, true), (.keep, true), (.keep, true), (.keep, true), (.keep, true), (.keep, true), (.keep, true), (.keep, true), (.keep, true), (.keep, true), (.keep, true), (.keep, true), (.keep, true), (.keep, false)]⟩, [], [], [.bool]⟩)], cnd := fun k => assoc0 k [], loop := fun k => assoc0 k [], nil := fun k => assoc0 k [(15, (.arr 2 .unit)), (21, (.arr 2 .unit))], unr := fun k => assocN k [], blk := fun k => assoc0 k [] })]
noncomputable def granarylaw21_live_C (N : Nat) : Nat → List GS := fun k => tabOf k [(19, [rpc_NewFramer_g N]), (20, [rpc_Framer_Feed_g N, rpc_Framer_Feed_v1_g N]), (27, [rpc_PutCall_g N]), (15, [rpc_Classify_v1_g N, rpc_Classify_g N]), (23, [granarylaw21_num_g N]), (13, [rpc_Frame_g N])]
def granarylaw21_live_o : List (Shp × List Nat) := [(⟨[(0, (.av (.one .bool)))], []⟩, [])]
noncomputable def granarylaw21_live_g (N : Nat) : GS := { ins := ⟨[], []⟩, lend := [], outs := granarylaw21_live_o.map fun s => ssOf s.1, its := [], ots := [[.bool]], F := granarylaw21_live N }
noncomputable def granarylaw21_live_CA (N : Nat) (f0 : Unit → Option (Unit)) (f1 : (List Int) × Int × Bool × Int × Int × Bool → Option (Int × Int × Bool × Int × Int × Bool × (List (List Int)) × (List Int) × (List Int))) (f2 : (List Int) × Int × Bool × Int × Int × Bool × (List Int) × (List Int) → Option (Int × Int × Bool × Int × Int × Bool × (List (List Int)) × (List Int) × (List Int))) (f3 : Int × Int × Int × Int × Int × Int × (List Int) × Int × (List Int) × (List Int) → Option (Int × (List Int))) (f4 : (List Int) → Option (Int × Int × Int × Int × Int × Int × Int × Int × Int × Int × Int × Int × Int × Int × Int × (List UInt8) × Int × Int × (List Int) × (List Int) × (List Int) × (List Int))) (f5 : (List Int) → Option (Int × Int × Int × Int × Int × Int × Int × Int × Int × Int × Int × Int × Int × Int × Int × (List UInt8) × Int × Int × (List Int) × (List Int) × (List Int) × (List Int))) (f6 : Int → Option (Int)) (f7 : (List Int) × (List Int) → Option ((List Int))) : Nat → List GS := fun k => tabOf k [(19, [{ rpc_NewFramer_g N with F := f0 }]), (20, [{ rpc_Framer_Feed_g N with F := f1 }, { rpc_Framer_Feed_v1_g N with F := f2 }]), (27, [{ rpc_PutCall_g N with F := f3 }]), (15, [{ rpc_Classify_v1_g N with F := f4 }, { rpc_Classify_g N with F := f5 }]), (23, [{ granarylaw21_num_g N with F := f6 }]), (13, [{ rpc_Frame_g N with F := f7 }])]
theorem granarylaw21_live_CE (N : Nat) : granarylaw21_live_CA N (rpc_NewFramer) (rpc_Framer_Feed N) (rpc_Framer_Feed_v1 N) (rpc_PutCall N) (rpc_Classify_v1 N) (rpc_Classify N) (granarylaw21_num) (rpc_Frame N) = granarylaw21_live_C N := by kernel_rfl
theorem granarylaw21_live_t (N : Nat) : TabC Try.prog (granarylaw21_live_C N) := tab_ok ⟨⟨rpc_NewFramer_ok N, trivial⟩, ⟨rpc_Framer_Feed_ok N, rpc_Framer_Feed_v1_ok N, trivial⟩, ⟨rpc_PutCall_ok N, trivial⟩, ⟨rpc_Classify_v1_ok N, rpc_Classify_ok N, trivial⟩, ⟨granarylaw21_num_ok N, trivial⟩, ⟨rpc_Frame_ok N, trivial⟩, trivial⟩
theorem granarylaw21_live_i : loopsOf granarylaw21_live_c = [] := by kernel_rfl
noncomputable def granarylaw21_live_a (N : Nat) (f0 : Unit → Option (Unit)) (f1 : (List Int) × Int × Bool × Int × Int × Bool → Option (Int × Int × Bool × Int × Int × Bool × (List (List Int)) × (List Int) × (List Int))) (f2 : (List Int) × Int × Bool × Int × Int × Bool × (List Int) × (List Int) → Option (Int × Int × Bool × Int × Int × Bool × (List (List Int)) × (List Int) × (List Int))) (f3 : Int × Int × Int × Int × Int × Int × (List Int) × Int × (List Int) × (List Int) → Option (Int × (List Int))) (f4 : (List Int) → Option (Int × Int × Int × Int × Int × Int × Int × Int × Int × Int × Int × Int × Int × Int × Int × (List UInt8) × Int × Int × (List Int) × (List Int) × (List Int) × (List Int))) (f5 : (List Int) → Option (Int × Int × Int × Int × Int × Int × Int × Int × Int × Int × Int × Int × Int × Int × Int × (List UInt8) × Int × Int × (List Int) × (List Int) × (List Int) × (List Int))) (f6 : Int → Option (Int)) (f7 : (List Int) × (List Int) → Option ((List Int))) (x : Unit) : Option (Bool) :=
  (Option.bind (f0 ()) fun r1 =>
  (let v2 : List Int := ([(0 : Int), (0 : Int), (0 : Int), (1 : Int), (97 : Int)] : List Int)
  (cond (((decide (5 ≤ (List.length v2))) && true) && true)
  (Option.bind (f1 ((List.take 5 (List.drop 0 v2)), (0 : Int), false, (0 : Int), (0 : Int), false)) fun r3 =>
  (let v4 : List Int := ([(128 : Int), (0 : Int), (0 : Int), (1 : Int), (98 : Int)] : List Int)
  (cond (((decide (5 ≤ (List.length v4))) && true) && true)
  (Option.bind (f2 ((List.take 5 (List.drop 0 v4)), r3.2.1, r3.2.2.1, r3.2.2.2.1, r3.2.2.2.2.1, r3.2.2.2.2.2.1, r3.2.2.2.2.2.2.2.1, r3.2.2.2.2.2.2.2.2)) fun r5 =>
  (Option.bind (f3 ((9 : Int), (2 : Int), (100003 : Int), (3 : Int), (1 : Int), (0 : Int), ([] : List Int), (0 : Int), ([] : List Int), ([] : List Int))) fun r6 =>
  (Option.bind (f5 r6.2) fun r7 =>
  (Option.bind
  (Option.bind (f6 r3.1) fun r9 =>
  (cond (decide (r9 = (0 : Int)))
  (cond (decide ((((List.length r3.2.2.2.2.2.2.1) : Nat) : Int) = (0 : Int)))
  (Option.bind (f6 r5.1) fun r13 =>
  (cond (decide (r13 = (0 : Int)))
  (cond (decide ((((List.length r5.2.2.2.2.2.2.1) : Nat) : Int) = (1 : Int)))
  (cond (decide ((0 : Int) < (((List.length r5.2.2.2.2.2.2.1) : Nat) : Int)))
  ((cond (decide (0 < (List.length r5.2.2.2.2.2.2.1)))
  ((cond (decide ((List.map (fun (n : Int) => UInt8.ofNat n.toNat) (List.getD r5.2.2.2.2.2.2.1 0 (EK.dflt (.sl (.int .u8))))) = ([97, 98] : List UInt8)))
  (Option.bind (f6 r6.1) fun r20 =>
  (cond (decide (r20 = (0 : Int)))
  (cond (decide (r7.1 = (2 : Int)))
  (cond (decide (r7.2.2.2.2.2.2.1 = (9 : Int)))
  (Option.bind (f4 ([] : List Int)) fun r24 =>
  (cond (decide (r24.1 = (0 : Int)))
  (let v26 : List Int := ([(97 : Int), (98 : Int), (99 : Int)] : List Int)
  (let v27 : List Int := ([(1 : Int)] : List Int)
  (cond (cond (decide (3 ≤ (List.length v26))) (cond (decide (1 ≤ (List.length v27))) true false) false)
  (Option.bind (f7 ((List.take 3 (List.drop 0 v26)), (List.take 1 (List.drop 0 v27)))) fun r28 =>
  (some (decide ((List.map (fun (n : Int) => UInt8.ofNat n.toNat) r28) = ([0, 0, 0, 1, 97, 128, 0, 0, 2, 98, 99] : List UInt8)))))
  none)))
  (some false)))
  (some false))
  (some false))
  (some false)))
  (some false)))
  none))
  none)
  (some false))
  (some false)))
  (some false))
  (some false)))
  fun r31 =>
  (some r31)))))
  none)))
  none)))
theorem granarylaw21_live_f (N : Nat) (f0 : Unit → Option (Unit)) (f1 : (List Int) × Int × Bool × Int × Int × Bool → Option (Int × Int × Bool × Int × Int × Bool × (List (List Int)) × (List Int) × (List Int))) (f2 : (List Int) × Int × Bool × Int × Int × Bool × (List Int) × (List Int) → Option (Int × Int × Bool × Int × Int × Bool × (List (List Int)) × (List Int) × (List Int))) (f3 : Int × Int × Int × Int × Int × Int × (List Int) × Int × (List Int) × (List Int) → Option (Int × (List Int))) (f4 : (List Int) → Option (Int × Int × Int × Int × Int × Int × Int × Int × Int × Int × Int × Int × Int × Int × Int × (List UInt8) × Int × Int × (List Int) × (List Int) × (List Int) × (List Int))) (f5 : (List Int) → Option (Int × Int × Int × Int × Int × Int × Int × Int × Int × Int × Int × Int × Int × Int × Int × (List UInt8) × Int × Int × (List Int) × (List Int) × (List Int) × (List Int))) (f6 : Int → Option (Int)) (f7 : (List Int) × (List Int) → Option ((List Int))) (x) : granarylaw21_live_a N f0 f1 f2 f3 f4 f5 f6 f7 x = fnStep Γ (granarylaw21_live_CA N f0 f1 f2 f3 f4 f5 f6 f7) (granarylaw21_live_J N) 85 Try.f12.results.toList (granarylaw21_live_g N) granarylaw21_live_o granarylaw21_live_c x := by kernel_rfl
theorem granarylaw21_live_e (N : Nat) (x) : (granarylaw21_live_g N).F x = fnStep Γ (granarylaw21_live_C N) (granarylaw21_live_J N) 85 Try.f12.results.toList (granarylaw21_live_g N) granarylaw21_live_o granarylaw21_live_c x := by
  rw [← granarylaw21_live_CE N]
  exact Eq.trans (by kernel_rfl) (granarylaw21_live_f N (rpc_NewFramer) (rpc_Framer_Feed N) (rpc_Framer_Feed_v1 N) (rpc_PutCall N) (rpc_Classify_v1 N) (rpc_Classify N) (granarylaw21_num) (rpc_Frame N) x)
theorem granarylaw21_live_y : Try.f12.body = some granarylaw21_live_c := by kernel_rfl
theorem granarylaw21_live_n : (Try.f12.name == "runtime.NumGoroutine") = false := by kernel_rfl
theorem granarylaw21_live_ok (N : Nat) : FnDoes Try.prog 12 (granarylaw21_live_g N) := fn_ok tabOK (granarylaw21_live_t N) mixedOK (J := granarylaw21_live_J N) (body := granarylaw21_live_c) Try.func12 granarylaw21_live_y granarylaw21_live_n Try.ntmps12 (jok_from granarylaw21_live_i ⟨trivial, trivial⟩) rfl rfl (le_of_ble rfl) (granarylaw21_live_e N)
noncomputable def granaryref21_Same_c : Code := codeOf Try.f22.body
noncomputable def granaryref21_Same_c0 : Code := codeOf (getLoop 0 granaryref21_Same_c)
def granaryref21_Same_d0 : LD := { ins := ⟨[(0, (.av (.one (.rsl (.sl (.int .u8)))))), (1, (.av (.one (.rsl (.sl (.int .u8)))))), (5, (.av (.one (.int .i64))))], []⟩, mov := [], wr := [], outs := [(.ret, ⟨[(4, (.av (.one (.const (.bool false)))))], []⟩), (.exit 0, ⟨[], []⟩)], its := [.lst (.sl (.int .u8)), .lst (.sl (.int .u8)), .int], ots := [[], []] }
noncomputable def granaryref21_Same_J (N : Nat) : Nat → Hint := fun cx => hintOf cx [(0, { reg := fun k => assoc0 k [], cnd := fun k => assoc0 k [], loop := fun k => assoc0 k [(0, ⟨granaryref21_Same_d0, loopF (granaryref21_Same_b0 N) N⟩)], nil := fun k => assoc0 k [], unr := fun k => assocN k [], blk := fun k => assoc0 k [] })]
noncomputable def granaryref21_Same_C (N : Nat) : Nat → List GS := fun k => tabOf k []
def granaryref21_Same_o : List (Shp × List Nat) := [(⟨[(0, (.av (.one .bool)))], []⟩, [])]
noncomputable def granaryref21_Same_g (N : Nat) : GS := { ins := ⟨[(0, (.av (.one (.rsl (.sl (.int .u8)))))), (1, (.av (.one (.rsl (.sl (.int .u8))))))], []⟩, lend := [.lend (.sl (.int .u8)), .lend (.sl (.int .u8))], outs := granaryref21_Same_o.map fun s => ssOf s.1, its := [.lst (.sl (.int .u8)), .lst (.sl (.int .u8))], ots := [[.bool]], F := granaryref21_Same N }
theorem granaryref21_Same_t (N : Nat) : TabC Try.prog (granaryref21_Same_C N) := tab_ok trivial
theorem granaryref21_Same_i0 : loopsOf granaryref21_Same_c0 = [] := by kernel_rfl
theorem granaryref21_Same_e0 (N : Nat) (next) (x) : granaryref21_Same_b0 N next x = loopStep Γ (granaryref21_Same_C N) (granaryref21_Same_J N) 0 28 granaryref21_Same_d0 granaryref21_Same_c0 next x := by kernel_rfl
theorem granaryref21_Same_k0 (N : Nat) : LoopOK Try.prog 28 granaryref21_Same_c0 ⟨granaryref21_Same_d0, loopF (granaryref21_Same_b0 N) N⟩ := loop_ok tabOK (granaryref21_Same_t N) mixedOK (J := granaryref21_Same_J N) (cx := 0) (body := granaryref21_Same_c0) (nt := 28) (l := granaryref21_Same_d0) (b := granaryref21_Same_b0 N) (jok_from granaryref21_Same_i0 ⟨trivial, trivial⟩) (granaryref21_Same_e0 N) N
theorem granaryref21_Same_i : loopsOf granaryref21_Same_c = [(0, granaryref21_Same_c0)] := by kernel_rfl
theorem granaryref21_Same_e (N : Nat) (x) : (granaryref21_Same_g N).F x = fnStep Γ (granaryref21_Same_C N) (granaryref21_Same_J N) 28 Try.f22.results.toList (granaryref21_Same_g N) granaryref21_Same_o granaryref21_Same_c x := by kernel_rfl
theorem granaryref21_Same_y : Try.f22.body = some granaryref21_Same_c := by kernel_rfl
theorem granaryref21_Same_n : (Try.f22.name == "runtime.NumGoroutine") = false := by kernel_rfl
theorem granaryref21_Same_ok (N : Nat) : FnDoes Try.prog 22 (granaryref21_Same_g N) := fn_ok tabOK (granaryref21_Same_t N) mixedOK (J := granaryref21_Same_J N) (body := granaryref21_Same_c) Try.func22 granaryref21_Same_y granaryref21_Same_n Try.ntmps22 (jok_from granaryref21_Same_i ⟨⟨.inr ⟨_, rfl, granaryref21_Same_k0 N⟩, trivial⟩, trivial⟩) rfl rfl (le_of_ble rfl) (granaryref21_Same_e N)
noncomputable def rpc_Framer_Closed_v1_c : Code := codeOf Try.f26.body
noncomputable def rpc_Framer_Closed_v1_J (N : Nat) : Nat → Hint := fun cx => hintOf cx [(0, { reg := fun k => assoc0 k [], cnd := fun k => assoc0 k [], loop := fun k => assoc0 k [], nil := fun k => assoc0 k [], unr := fun k => assocN k [], blk := fun k => assoc0 k [] })]
noncomputable def rpc_Framer_Closed_v1_C (N : Nat) : Nat → List GS := fun k => tabOf k []
def rpc_Framer_Closed_v1_o : List (Shp × List Nat) := [(⟨[(0, (.av (.one .bool)))], [(.sh (.one (.const (.slw 7 1))), true), (.sh (.one (.int .i64)), true), (.sh (.one .bool), true), (.sh (.one (.const (.slw 8 1))), true), (.sh (.one (.int .i64)), true), (.sh (.one (.int .i64)), true), (.sh (.one .bool), false), (.sh (.arr (.int .u8) none), false), (.sh (.arr (.int .u8) none), false)]⟩, [])]
noncomputable def rpc_Framer_Closed_v1_g (N : Nat) : GS := { ins := ⟨[(0, (.av (.one (.const (.ptr ⟨0, 0, 0, 0⟩)))))], [(some (.one (.const (.slw 7 1))), true), (some (.one (.int .i64)), true), (some (.one .bool), true), (some (.one (.const (.slw 8 1))), true), (some (.one (.int .i64)), true), (some (.one (.int .i64)), true), (some (.one .bool), false), (some (.arr (.int .u8) none), false), (some (.arr (.int .u8) none), false)]⟩, lend := [.keep], outs := rpc_Framer_Closed_v1_o.map fun s => ssOf s.1, its := [.int, .bool, .int, .int, .bool, .lst (.int .u8), .lst (.int .u8)], ots := [[.bool, .int, .bool, .int, .int, .bool, .lst (.int .u8), .lst (.int .u8)]], F := rpc_Framer_Closed_v1 }
theorem rpc_Framer_Closed_v1_t (N : Nat) : TabC Try.prog (rpc_Framer_Closed_v1_C N) := tab_ok trivial
theorem rpc_Framer_Closed_v1_i : loopsOf rpc_Framer_Closed_v1_c = [] := by kernel_rfl
theorem rpc_Framer_Closed_v1_e (N : Nat) (x) : (rpc_Framer_Closed_v1_g N).F x = fnStep Γ (rpc_Framer_Closed_v1_C N) (rpc_Framer_Closed_v1_J N) 11 Try.f26.results.toList (rpc_Framer_Closed_v1_g N) rpc_Framer_Closed_v1_o rpc_Framer_Closed_v1_c x := by kernel_rfl
theorem rpc_Framer_Closed_v1_y : Try.f26.body = some rpc_Framer_Closed_v1_c := by kernel_rfl
theorem rpc_Framer_Closed_v1_n : (Try.f26.name == "runtime.NumGoroutine") = false := by kernel_rfl
theorem rpc_Framer_Closed_v1_ok (N : Nat) : FnDoes Try.prog 26 (rpc_Framer_Closed_v1_g N) := fn_ok tabOK (rpc_Framer_Closed_v1_t N) mixedOK (J := rpc_Framer_Closed_v1_J N) (body := rpc_Framer_Closed_v1_c) Try.func26 rpc_Framer_Closed_v1_y rpc_Framer_Closed_v1_n Try.ntmps26 (jok_from rpc_Framer_Closed_v1_i ⟨trivial, trivial⟩) rfl rfl (le_of_ble rfl) (rpc_Framer_Closed_v1_e N)
noncomputable def rpc_Framer_Left_v1_c : Code := codeOf Try.f24.body
noncomputable def rpc_Framer_Left_v1_J (N : Nat) : Nat → Hint := fun cx => hintOf cx []
noncomputable def rpc_Framer_Left_v1_C (N : Nat) : Nat → List GS := fun k => tabOf k []
def rpc_Framer_Left_v1_o : List (Shp × List Nat) := [(⟨[(0, (.av (.one (.int .i64))))], [(.sh (.one (.const (.slw 7 1))), true), (.sh (.one (.int .i64)), true), (.sh (.one .bool), true), (.sh (.one (.const (.slw 8 1))), true), (.sh (.one (.int .i64)), true), (.sh (.one (.int .i64)), true), (.sh (.one .bool), false), (.sh (.arr (.int .u8) none), false), (.sh (.arr (.int .u8) none), false)]⟩, [])]
noncomputable def rpc_Framer_Left_v1_g (N : Nat) : GS := { ins := ⟨[(0, (.av (.one (.const (.ptr ⟨0, 0, 0, 0⟩)))))], [(some (.one (.const (.slw 7 1))), true), (some (.one (.int .i64)), true), (some (.one .bool), true), (some (.one (.const (.slw 8 1))), true), (some (.one (.int .i64)), true), (some (.one (.int .i64)), true), (some (.one .bool), false), (some (.arr (.int .u8) none), false), (some (.arr (.int .u8) none), false)]⟩, lend := [.keep], outs := rpc_Framer_Left_v1_o.map fun s => ssOf s.1, its := [.int, .bool, .int, .int, .bool, .lst (.int .u8), .lst (.int .u8)], ots := [[.int, .int, .bool, .int, .int, .bool, .lst (.int .u8), .lst (.int .u8)]], F := rpc_Framer_Left_v1 }
theorem rpc_Framer_Left_v1_t (N : Nat) : TabC Try.prog (rpc_Framer_Left_v1_C N) := tab_ok trivial
theorem rpc_Framer_Left_v1_i : loopsOf rpc_Framer_Left_v1_c = [] := by kernel_rfl
theorem rpc_Framer_Left_v1_e (N : Nat) (x) : (rpc_Framer_Left_v1_g N).F x = fnStep Γ (rpc_Framer_Left_v1_C N) (rpc_Framer_Left_v1_J N) 9 Try.f24.results.toList (rpc_Framer_Left_v1_g N) rpc_Framer_Left_v1_o rpc_Framer_Left_v1_c x := by kernel_rfl
theorem rpc_Framer_Left_v1_y : Try.f24.body = some rpc_Framer_Left_v1_c := by kernel_rfl
theorem rpc_Framer_Left_v1_n : (Try.f24.name == "runtime.NumGoroutine") = false := by kernel_rfl
theorem rpc_Framer_Left_v1_ok (N : Nat) : FnDoes Try.prog 24 (rpc_Framer_Left_v1_g N) := fn_ok tabOK (rpc_Framer_Left_v1_t N) mixedOK (J := rpc_Framer_Left_v1_J N) (body := rpc_Framer_Left_v1_c) Try.func24 rpc_Framer_Left_v1_y rpc_Framer_Left_v1_n Try.ntmps24 (jok_from rpc_Framer_Left_v1_i trivial) rfl rfl (le_of_ble rfl) (rpc_Framer_Left_v1_e N)
noncomputable def granarylaw21_huge_c : Code := codeOf Try.f18.body
noncomputable def granarylaw21_huge_c0 : Code := codeOf (getLoop 0 granarylaw21_huge_c)
def granarylaw21_huge_d0 : LD := { ins := ⟨[(0, (.av (.one (.rsl (.sl (.int .u8)))))), (3, (.av (.one (.int .i64)))), (4, (.av (.one (.int .i64))))], []⟩, mov := [], wr := [], outs := [(.exit 0, ⟨[(3, (.av (.one (.int .i64))))], []⟩)], its := [.lst (.sl (.int .u8)), .int, .int], ots := [[.int]] }
noncomputable def granarylaw21_huge_J (N : Nat) : Nat → Hint := fun cx => hintOf cx [(0, { reg := fun k => assoc0 k [(3, ⟨⟨[(12, (.av (.one .bool)))], []⟩, [], [], [.bool]⟩), (6, ⟨⟨[(2, (.av (.one .bool)))], []⟩, [], [], [.bool]⟩)], cnd := fun k => assoc0 k [], loop := fun k => assoc0 k [(0, ⟨granarylaw21_huge_d0, loopF (granarylaw21_huge_b0 N) N⟩)], nil := fun k => assoc0 k [], unr := fun k => assocN k [], blk := fun k => assoc0 k [] })]
noncomputable def granarylaw21_huge_C (N : Nat) : Nat → List GS := fun k => tabOf k []
def granarylaw21_huge_o : List (Shp × List Nat) := [(⟨[(0, (.av (.one .bool)))], []⟩, [])]
noncomputable def granarylaw21_huge_g (N : Nat) : GS := { ins := ⟨[(0, (.av (.one (.rsl (.sl (.int .u8))))))], []⟩, lend := [.keep], outs := granarylaw21_huge_o.map fun s => ssOf s.1, its := [.lst (.sl (.int .u8))], ots := [[.bool]], F := granarylaw21_huge N }
theorem granarylaw21_huge_t (N : Nat) : TabC Try.prog (granarylaw21_huge_C N) := tab_ok trivial
theorem granarylaw21_huge_i0 : loopsOf granarylaw21_huge_c0 = [] := by kernel_rfl
theorem granarylaw21_huge_e0 (N : Nat) (next) (x) : granarylaw21_huge_b0 N next x = loopStep Γ (granarylaw21_huge_C N) (granarylaw21_huge_J N) 0 29 granarylaw21_huge_d0 granarylaw21_huge_c0 next x := by kernel_rfl
theorem granarylaw21_huge_k0 (N : Nat) : LoopOK Try.prog 29 granarylaw21_huge_c0 ⟨granarylaw21_huge_d0, loopF (granarylaw21_huge_b0 N) N⟩ := loop_ok tabOK (granarylaw21_huge_t N) mixedOK (J := granarylaw21_huge_J N) (cx := 0) (body := granarylaw21_huge_c0) (nt := 29) (l := granarylaw21_huge_d0) (b := granarylaw21_huge_b0 N) (jok_from granarylaw21_huge_i0 ⟨trivial, trivial⟩) (granarylaw21_huge_e0 N) N
theorem granarylaw21_huge_i : loopsOf granarylaw21_huge_c = [(0, granarylaw21_huge_c0)] := by kernel_rfl
theorem granarylaw21_huge_e (N : Nat) (x) : (granarylaw21_huge_g N).F x = fnStep Γ (granarylaw21_huge_C N) (granarylaw21_huge_J N) 29 Try.f18.results.toList (granarylaw21_huge_g N) granarylaw21_huge_o granarylaw21_huge_c x := by kernel_rfl
theorem granarylaw21_huge_y : Try.f18.body = some granarylaw21_huge_c := by kernel_rfl
theorem granarylaw21_huge_n : (Try.f18.name == "runtime.NumGoroutine") = false := by kernel_rfl
theorem granarylaw21_huge_ok (N : Nat) : FnDoes Try.prog 18 (granarylaw21_huge_g N) := fn_ok tabOK (granarylaw21_huge_t N) mixedOK (J := granarylaw21_huge_J N) (body := granarylaw21_huge_c) Try.func18 granarylaw21_huge_y granarylaw21_huge_n Try.ntmps18 (jok_from granarylaw21_huge_i ⟨⟨.inr ⟨_, rfl, granarylaw21_huge_k0 N⟩, trivial⟩, trivial⟩) rfl rfl (le_of_ble rfl) (granarylaw21_huge_e N)
noncomputable def rpc_Framer_Feed_v3_c : Code := codeOf Try.f20.body
noncomputable def rpc_Framer_Feed_v3_c1 : Code := codeOf (getLoop 1 rpc_Framer_Feed_v3_c)
def rpc_Framer_Feed_v3_d1 : LD := { ins := ⟨[(0, (.av (.one (.const (.ptr ⟨0, 0, 0, 0⟩))))), (1, (.av (.one (.rsl (.int .u8))))), (6, (.av (.one (.const (.slw 7 1))))), (7, (.av (.one .bool)))], [(.sh (.one (.const .nils)), true), (.sh (.one (.int .i64)), true), (.sh (.one .bool), true), (.sh (.one (.const (.slw 8 1))), true), (.sh (.one (.int .i64)), true), (.sh (.one (.int .i64)), true), (.sh (.one .bool), false), (.sh (.deep .u8), false), (.sh (.arr (.int .u8) none), false)]⟩, mov := [7, 8], wr := [0, 1, 2, 3, 4, 5, 6], outs := [(.exit 1, ⟨[(6, (.av (.one (.const (.slw 9 1)))))], [(.sh (.one (.const (.slw 10 1))), true), (.sh (.one (.int .i64)), true), (.sh (.one .bool), true), (.sh (.one (.const (.slw 11 1))), true), (.sh (.one (.int .i64)), true), (.sh (.one (.int .i64)), true), (.sh (.one .bool), false), (.dead, false), (.dead, false), (.sh (.deep .u8), false), (.sh (.arr (.int .u8) none), false), (.sh (.arr (.int .u8) none), false)]⟩), (.ret, ⟨[(4, (.av (.one (.const (.slw 9 1))))), (5, (.av (.one (.const (.int .i64 (210 : Int))))))], [(.sh (.one (.const .nils)), true), (.sh (.one (.const (.int .i64 (0 : Int)))), true), (.sh (.one (.const (.bool false))), true), (.sh (.one (.const .nils)), true), (.sh (.one (.const (.int .i64 (0 : Int)))), true), (.sh (.one (.const (.int .i64 (0 : Int)))), true), (.sh (.one (.const (.bool true))), false), (.dead, false), (.dead, false), (.sh (.deep .u8), false)]⟩)], its := [.lst (.int .u8), .bool, .int, .bool, .int, .int, .bool, .lst (.sl (.int .u8)), .lst (.int .u8)], ots := [[.int, .bool, .int, .int, .bool, .lst (.sl (.int .u8)), .lst (.int .u8), .lst (.int .u8)], [.lst (.sl (.int .u8))]] }
noncomputable def rpc_Framer_Feed_v3_J (N : Nat) : Nat → Hint := fun cx => hintOf cx [(0, { reg := fun k => assoc0 k [(23, ⟨⟨[(121, (.av (.one .bool)))], [(.keep, true), (.keep, true), (.keep, true), (.keep, true), (.keep, true), (.keep, true), (.keep, false), (.keep, false), (.dead, false), (.keep, false)]⟩, [], [], [.bool]⟩)], cnd := fun k => assoc0 k [(27, ⟨[], [0, 1, 2, 3, 4, 5, 6, 8], [(.normal, ⟨[(1, (.av (.one (.rsl (.int .u8)))))], [(.sh (.one (.const .nils)), true), (.sh (.one (.int .i64)), true), (.sh (.one .bool), true), (.sh (.one (.const (.slw 8 1))), true), (.sh (.one (.int .i64)), true), (.sh (.one (.int .i64)), true), (.sh (.one .bool), false), (.keep, false), (.sh (.arr (.int .u8) none), false)]⟩), (.exit 1, ⟨[], [(.sh (.one (.const (.slw 9 1))), true), (.sh (.one (.int .i64)), true), (.sh (.one .bool), true), (.sh (.one (.const (.slw 8 1))), true), (.sh (.one (.int .i64)), true), (.sh (.one (.int .i64)), true), (.sh (.one .bool), false), (.keep, false), (.sh (.arr (.int .u8) none), false), (.sh (.arr (.int .u8) none), false)]⟩), (.ret, ⟨[(4, (.av (.one (.const (.slw 7 1))))), (5, (.av (.one (.const (.int .i64 (210 : Int))))))], [(.sh (.one (.const .nils)), true), (.sh (.one (.const (.int .i64 (0 : Int)))), true), (.sh (.one (.const (.bool false))), true), (.sh (.one (.const .nils)), true), (.sh (.one (.const (.int .i64 (0 : Int)))), true), (.sh (.one (.const (.int .i64 (0 : Int)))), true), (.sh (.one (.const (.bool true))), false), (.keep, false), (.sh (.arr (.int .u8) none), false)]⟩)], [[.lst (.int .u8), .int, .bool, .int, .int, .bool, .lst (.int .u8)], [.int, .bool, .int, .int, .bool, .lst (.int .u8), .lst (.int .u8)], [.lst (.int .u8)]]⟩)], loop := fun k => assoc0 k [(1, ⟨rpc_Framer_Feed_v3_d1, loopF (rpc_Framer_Feed_v3_b1 N) N⟩)], nil := fun k => assoc0 k [(6, (.pair (.sl (.int .u8)) .unit)), (129, (.pair (.sl (.int .u8)) .unit))], unr := fun k => assocN k [], blk := fun k => assoc0 k [(2, ⟨[7], [0, 1, 2, 3, 4, 5, 6, 8], [(.normal, ⟨[(1, (.av (.one (.rsl (.int .u8))))), (6, (.av (.one (.const (.slw 9 1))))), (7, (.av (.one .bool)))], [(.sh (.one (.const .nils)), true), (.sh (.one (.int .i64)), true), (.sh (.one .bool), true), (.sh (.one (.const (.slw 10 1))), true), (.sh (.one (.int .i64)), true), (.sh (.one (.int .i64)), true), (.sh (.one .bool), false), (.dead, false), (.dead, false), (.sh (.deep .u8), false), (.sh (.arr (.int .u8) none), false)]⟩), (.exit 1, ⟨[(6, (.av (.one (.const (.slw 9 1)))))], [(.sh (.one (.const (.slw 10 1))), true), (.sh (.one (.int .i64)), true), (.sh (.one .bool), true), (.sh (.one (.const (.slw 8 1))), true), (.sh (.one (.int .i64)), true), (.sh (.one (.int .i64)), true), (.sh (.one .bool), false), (.dead, false), (.sh (.arr (.int .u8) none), false), (.sh (.deep .u8), false), (.sh (.arr (.int .u8) none), false)]⟩), (.ret, ⟨[(4, (.av (.one (.const (.slw 9 1))))), (5, (.av (.one (.const (.int .i64 (210 : Int))))))], [(.sh (.one (.const .nils)), true), (.sh (.one (.const (.int .i64 (0 : Int)))), true), (.sh (.one (.const (.bool false))), true), (.sh (.one (.const .nils)), true), (.sh (.one (.const (.int .i64 (0 : Int)))), true), (.sh (.one (.const (.int .i64 (0 : Int)))), true), (.sh (.one (.const (.bool true))), false), (.dead, false), (.sh (.arr (.int .u8) none), false), (.sh (.deep .u8), false)]⟩)], [[.lst (.int .u8), .bool, .int, .bool, .int, .int, .bool, .lst (.sl (.int .u8)), .lst (.int .u8)], [.int, .bool, .int, .int, .bool, .lst (.int .u8), .lst (.sl (.int .u8)), .lst (.int .u8)], [.lst (.int .u8), .lst (.sl (.int .u8))]]⟩)] })]
noncomputable def rpc_Framer_Feed_v3_C (N : Nat) : Nat → List GS := fun k => tabOf k [(54, [rpc_Framer_begins_g N, rpc_Framer_begins_v1_g N])]
def rpc_Framer_Feed_v3_o : List (Shp × List Nat) := [(⟨[(0, (.tup [(.one (.const (.slw 7 1))), (.one (.int .i64))]))], [(.sh (.one (.const (.slw 8 1))), true), (.sh (.one (.int .i64)), true), (.sh (.one .bool), true), (.sh (.one (.const (.slw 9 1))), true), (.sh (.one (.int .i64)), true), (.sh (.one (.int .i64)), true), (.sh (.one .bool), false), (.sh (.deep .u8), false), (.sh (.arr (.int .u8) none), false), (.sh (.arr (.int .u8) none), false)]⟩, [])]
noncomputable def rpc_Framer_Feed_v3_g (N : Nat) : GS := { ins := ⟨[(0, (.av (.one (.const (.ptr ⟨0, 0, 0, 0⟩))))), (1, (.av (.one (.rsl (.int .u8)))))], [(some (.one (.const .nils)), true), (some (.one (.int .i64)), true), (some (.one .bool), true), (some (.one (.const .nils)), true), (some (.one (.int .i64)), true), (some (.one (.int .i64)), true), (some (.one .bool), false)]⟩, lend := [.keep, .lend (.int .u8)], outs := rpc_Framer_Feed_v3_o.map fun s => ssOf s.1, its := [.lst (.int .u8), .int, .bool, .int, .int, .bool], ots := [[.int, .int, .bool, .int, .int, .bool, .lst (.sl (.int .u8)), .lst (.int .u8), .lst (.int .u8)]], F := rpc_Framer_Feed_v3 N }
noncomputable def rpc_Framer_Feed_v3_CA (N : Nat) (f0 : Int × Bool × Int × Int × Bool × (List Int) → Option (Bool × Int × Bool × Int × Int × Bool × (List Int))) (f1 : Int × Bool × Int × Int × Bool × (List Int) × (List Int) → Option (Bool × Int × Bool × Int × Int × Bool × (List Int) × (List Int))) : Nat → List GS := fun k => tabOf k [(54, [{ rpc_Framer_begins_g N with F := f0 }, { rpc_Framer_begins_v1_g N with F := f1 }])]
theorem rpc_Framer_Feed_v3_CE (N : Nat) : rpc_Framer_Feed_v3_CA N (rpc_Framer_begins N) (rpc_Framer_begins_v1 N) = rpc_Framer_Feed_v3_C N := by kernel_rfl
theorem rpc_Framer_Feed_v3_t (N : Nat) : TabC Try.prog (rpc_Framer_Feed_v3_C N) := tab_ok ⟨⟨rpc_Framer_begins_ok N, rpc_Framer_begins_v1_ok N, trivial⟩, trivial⟩
theorem rpc_Framer_Feed_v3_i1 : loopsOf rpc_Framer_Feed_v3_c1 = [] := by kernel_rfl
noncomputable def rpc_Framer_Feed_v3_a1 (N : Nat) (f0 : Int × Bool × Int × Int × Bool × (List Int) → Option (Bool × Int × Bool × Int × Int × Bool × (List Int))) (f1 : Int × Bool × Int × Int × Bool × (List Int) × (List Int) → Option (Bool × Int × Bool × Int × Int × Bool × (List Int) × (List Int))) (next : (List Int) × Bool × Int × Bool × Int × Int × Bool × (List (List Int)) × (List Int) → Option ((Int × Bool × Int × Int × Bool × (List (List Int)) × (List Int) × (List Int)) ⊕ ((List (List Int))))) (x : (List Int) × Bool × Int × Bool × Int × Int × Bool × (List (List Int)) × (List Int)) : Option ((Int × Bool × Int × Int × Bool × (List (List Int)) × (List Int) × (List Int)) ⊕ ((List (List Int)))) :=
  (cond (decide ((0 : Int) < (((List.length x.1) : Nat) : Int)))
  (Option.bind
  ((Option.bind
  ((cond (!x.2.1)
  (let v4 : Int := (((List.length x.1) : Nat) : Int)
  (let v5 : Int := (if v4 < (4 : Int) then v4 else (4 : Int))
  (cond ((decide ((0 : Int) ≤ v5)) && (decide (v5 ≤ (((List.length x.1) : Nat) : Int))))
  ((let v6 : List Int := (List.take (Int.toNat v5) (List.drop 0 x.1))
  (cond (fits 1 (List.length v6))
  ((cond (((decide ((0 : Int) ≤ v5)) && (decide (v5 ≤ (((List.length x.1) : Nat) : Int)))) && (decide ((((List.length x.1) : Nat) : Int) ≤ (((List.length x.1) : Nat) : Int))))
  ((let v8 : Int := (wrapF .i64 (x.2.2.2.2.2.1 + v5))
  (cond (decide ((((List.length v6) : Nat) : Int) < (4 : Int)))
  (some (.inr (.inl (x.2.2.1, x.2.2.2.1, x.2.2.2.2.1, v8, x.2.2.2.2.2.2.1, x.2.2.2.2.2.2.2.2, v6))))
  (Option.bind (f1 (x.2.2.1, x.2.2.2.1, x.2.2.2.2.1, v8, x.2.2.2.2.2.2.1, v6, x.2.2.2.2.2.2.2.2)) fun r11 =>
  (cond (!r11.1)
  (some (.inr (.inr (r11.2.2.2.2.2.2.2))))
  (some (.inl ((List.take ((List.length x.1) - (Int.toNat v5)) (List.drop (Int.toNat v5) x.1)), r11.2.1, r11.2.2.1, r11.2.2.2.1, r11.2.2.2.2.1, r11.2.2.2.2.2.1, r11.2.2.2.2.2.2.2))))))))
  none))
  none)))
  none)))
  (some (.inl (x.1, x.2.2.1, x.2.2.2.1, x.2.2.2.2.1, x.2.2.2.2.2.1, x.2.2.2.2.2.2.1, x.2.2.2.2.2.2.2.2)))) : Option (((List Int) × Int × Bool × Int × Int × Bool × (List Int)) ⊕ (Int × Bool × Int × Int × Bool × (List Int) × (List Int)) ⊕ ((List Int))))
  fun r13 =>
  (match r13 with
  | .inl y14 =>
  (let v16 : Int := (((List.length y14.1) : Nat) : Int)
  (let v17 : Int := (if v16 < y14.2.1 then v16 else y14.2.1)
  (cond ((decide ((0 : Int) ≤ v17)) && (decide (v17 ≤ (((List.length y14.1) : Nat) : Int))))
  ((let v18 : List Int := (List.take (Int.toNat v17) (List.drop 0 y14.1))
  (cond (fits 1 ((List.length y14.2.2.2.2.2.2) + (List.length v18)))
  ((let v19 : List Int := (y14.2.2.2.2.2.2 ++ v18)
  (cond (((decide ((0 : Int) ≤ v17)) && (decide (v17 ≤ (((List.length y14.1) : Nat) : Int)))) && (decide ((((List.length y14.1) : Nat) : Int) ≤ (((List.length y14.1) : Nat) : Int))))
  ((let v20 : List Int := (List.take ((List.length y14.1) - (Int.toNat v17)) (List.drop (Int.toNat v17) y14.1))
  (let v21 : Int := (wrapF .i64 (y14.2.1 - v17))
  (let v23 : Bool := (decide ((0 : Int) < v21))
  (Option.bind
  (cond v23
  (some true)
  (some (!y14.2.2.1)))
  fun r25 =>
  (cond r25
  (some (.inl (v20, v23, v21, y14.2.2.1, y14.2.2.2.1, (wrapF .i64 (y14.2.2.2.2.1 + v17)), y14.2.2.2.2.2.1, x.2.2.2.2.2.2.2.1, v19)))
  (cond (fits 1 (List.length v19))
  ((let v27 : List (List Int) := ([v19] : List (List Int))
  (cond (fits 24 ((List.length x.2.2.2.2.2.2.2.1) + (List.length v27)))
  ((some (.inl (v20, v23, (0 : Int), false, (0 : Int), (0 : Int), false, (x.2.2.2.2.2.2.2.1 ++ v27), ([] : List Int)))))
  none)))
  none)))))))
  none)))
  none)))
  none)))
  | .inr z15 =>
  (match z15 with
  | .inl y29 =>
  (some (.inr (.inl (y29.1, y29.2.1, y29.2.2.1, y29.2.2.2.1, y29.2.2.2.2.1, y29.2.2.2.2.2.1, x.2.2.2.2.2.2.2.1, y29.2.2.2.2.2.2))))
  | .inr z30 =>
  (some (.inr (.inr ((z30, x.2.2.2.2.2.2.2.1)))))))) : Option (((List Int) × Bool × Int × Bool × Int × Int × Bool × (List (List Int)) × (List Int)) ⊕ (Int × Bool × Int × Int × Bool × (List Int) × (List (List Int)) × (List Int)) ⊕ ((List Int) × (List (List Int)))))
  fun r31 =>
  (match r31 with
  | .inl y32 =>
  (next (y32.1, y32.2.1, y32.2.2.1, y32.2.2.2.1, y32.2.2.2.2.1, y32.2.2.2.2.2.1, y32.2.2.2.2.2.2.1, y32.2.2.2.2.2.2.2.1, y32.2.2.2.2.2.2.2.2))
  | .inr z33 =>
  (match z33 with
  | .inl y34 =>
  (some (.inl (y34.1, y34.2.1, y34.2.2.1, y34.2.2.2.1, y34.2.2.2.2.1, y34.2.2.2.2.2.2.1, y34.2.2.2.2.2.2.2, y34.2.2.2.2.2.1)))
  | .inr z35 =>
  (some (.inr (z35.2))))))
  (some (.inl (x.2.2.1, x.2.2.2.1, x.2.2.2.2.1, x.2.2.2.2.2.1, x.2.2.2.2.2.2.1, x.2.2.2.2.2.2.2.1, ([] : List Int), x.2.2.2.2.2.2.2.2))))
theorem rpc_Framer_Feed_v3_f1 (N : Nat) (f0 : Int × Bool × Int × Int × Bool × (List Int) → Option (Bool × Int × Bool × Int × Int × Bool × (List Int))) (f1 : Int × Bool × Int × Int × Bool × (List Int) × (List Int) → Option (Bool × Int × Bool × Int × Int × Bool × (List Int) × (List Int))) (next) (x) : rpc_Framer_Feed_v3_a1 N f0 f1 next x = loopStep Γ (rpc_Framer_Feed_v3_CA N f0 f1) (rpc_Framer_Feed_v3_J N) 0 135 rpc_Framer_Feed_v3_d1 rpc_Framer_Feed_v3_c1 next x := by kernel_rfl
theorem rpc_Framer_Feed_v3_e1 (N : Nat) (next) (x) : rpc_Framer_Feed_v3_b1 N next x = loopStep Γ (rpc_Framer_Feed_v3_C N) (rpc_Framer_Feed_v3_J N) 0 135 rpc_Framer_Feed_v3_d1 rpc_Framer_Feed_v3_c1 next x := by
  rw [← rpc_Framer_Feed_v3_CE N]
  exact Eq.trans (by kernel_rfl) (rpc_Framer_Feed_v3_f1 N (rpc_Framer_begins N) (rpc_Framer_begins_v1 N) next x)
theorem rpc_Framer_Feed_v3_k1 (N : Nat) : LoopOK Try.prog 135 rpc_Framer_Feed_v3_c1 ⟨rpc_Framer_Feed_v3_d1, loopF (rpc_Framer_Feed_v3_b1 N) N⟩ := loop_ok tabOK (rpc_Framer_Feed_v3_t N) mixedOK (J := rpc_Framer_Feed_v3_J N) (cx := 0) (body := rpc_Framer_Feed_v3_c1) (nt := 135) (l := rpc_Framer_Feed_v3_d1) (b := rpc_Framer_Feed_v3_b1 N) (jok_from rpc_Framer_Feed_v3_i1 ⟨trivial, trivial⟩) (rpc_Framer_Feed_v3_e1 N) N
theorem rpc_Framer_Feed_v3_i : loopsOf rpc_Framer_Feed_v3_c = [(1, rpc_Framer_Feed_v3_c1)] := by kernel_rfl
noncomputable def rpc_Framer_Feed_v3_a (N : Nat) (f0 : Int × Bool × Int × Int × Bool × (List Int) → Option (Bool × Int × Bool × Int × Int × Bool × (List Int))) (f1 : Int × Bool × Int × Int × Bool × (List Int) × (List Int) → Option (Bool × Int × Bool × Int × Int × Bool × (List Int) × (List Int))) (x : (List Int) × Int × Bool × Int × Int × Bool) : Option (Int × Int × Bool × Int × Int × Bool × (List (List Int)) × (List Int) × (List Int)) :=
  (cond x.2.2.2.2.2
  (some ((210 : Int), x.2.1, x.2.2.1, x.2.2.2.1, x.2.2.2.2.1, x.2.2.2.2.2, ([] : List (List Int)), ([] : List Int), ([] : List Int)))
  (Option.bind (rpc_Framer_Feed_v3_l1 N (x.1, (decide ((0 : Int) < x.2.1)), x.2.1, x.2.2.1, x.2.2.2.1, x.2.2.2.2.1, x.2.2.2.2.2, ([] : List (List Int)), ([] : List Int))) fun r3 =>
  (match r3 with
  | .inl y4 =>
  (some ((0 : Int), y4.1, y4.2.1, y4.2.2.1, y4.2.2.2.1, y4.2.2.2.2.1, y4.2.2.2.2.2.1, y4.2.2.2.2.2.2.1, y4.2.2.2.2.2.2.2))
  | .inr z5 =>
  (some ((210 : Int), (0 : Int), false, (0 : Int), (0 : Int), true, z5, ([] : List Int), ([] : List Int))))))
theorem rpc_Framer_Feed_v3_f (N : Nat) (f0 : Int × Bool × Int × Int × Bool × (List Int) → Option (Bool × Int × Bool × Int × Int × Bool × (List Int))) (f1 : Int × Bool × Int × Int × Bool × (List Int) × (List Int) → Option (Bool × Int × Bool × Int × Int × Bool × (List Int) × (List Int))) (x) : rpc_Framer_Feed_v3_a N f0 f1 x = fnStep Γ (rpc_Framer_Feed_v3_CA N f0 f1) (rpc_Framer_Feed_v3_J N) 135 Try.f20.results.toList (rpc_Framer_Feed_v3_g N) rpc_Framer_Feed_v3_o rpc_Framer_Feed_v3_c x := by kernel_rfl
theorem rpc_Framer_Feed_v3_e (N : Nat) (x) : (rpc_Framer_Feed_v3_g N).F x = fnStep Γ (rpc_Framer_Feed_v3_C N) (rpc_Framer_Feed_v3_J N) 135 Try.f20.results.toList (rpc_Framer_Feed_v3_g N) rpc_Framer_Feed_v3_o rpc_Framer_Feed_v3_c x := by
  rw [← rpc_Framer_Feed_v3_CE N]
  exact Eq.trans (by kernel_rfl) (rpc_Framer_Feed_v3_f N (rpc_Framer_begins N) (rpc_Framer_begins_v1 N) x)
theorem rpc_Framer_Feed_v3_y : Try.f20.body = some rpc_Framer_Feed_v3_c := by kernel_rfl
theorem rpc_Framer_Feed_v3_n : (Try.f20.name == "runtime.NumGoroutine") = false := by kernel_rfl
theorem rpc_Framer_Feed_v3_ok (N : Nat) : FnDoes Try.prog 20 (rpc_Framer_Feed_v3_g N) := fn_ok tabOK (rpc_Framer_Feed_v3_t N) mixedOK (J := rpc_Framer_Feed_v3_J N) (body := rpc_Framer_Feed_v3_c) Try.func20 rpc_Framer_Feed_v3_y rpc_Framer_Feed_v3_n Try.ntmps20 (jok_from rpc_Framer_Feed_v3_i ⟨⟨.inr ⟨_, rfl, rpc_Framer_Feed_v3_k1 N⟩, trivial⟩, trivial⟩) rfl rfl (le_of_ble rfl) (rpc_Framer_Feed_v3_e N)
noncomputable def granaryref21_record_c : Code := codeOf Try.f55.body
noncomputable def granaryref21_record_c0 : Code := codeOf (getLoop 0 granaryref21_record_c)
def granaryref21_record_d0 : LD := { ins := ⟨[(0, (.av (.one (.rsl (.int .u8))))), (1, (.av (.one (.int .i64)))), (8, (.av (.one (.const (.slw 0 1))))), (9, (.av (.one (.int .i64))))], [(.sh (.arr (.int .u8) none), false)]⟩, mov := [0], wr := [], outs := [(.ret, ⟨[(4, (.av (.one (.const (.slw 1 1))))), (5, (.av (.one (.int .i64)))), (6, (.av (.one .bool))), (7, (.av (.one .bool)))], [(.dead, false), (.sh (.arr (.int .u8) none), false)]⟩)], its := [.lst (.int .u8), .int, .int, .lst (.int .u8)], ots := [[.int, .bool, .bool, .lst (.int .u8)]] }
noncomputable def granaryref21_record_J (N : Nat) : Nat → Hint := fun cx => hintOf cx [(0, { reg := fun k => assoc0 k [(8, ⟨⟨[(62, (.av (.one .bool)))], [(.keep, false)]⟩, [], [], [.bool]⟩)], cnd := fun k => assoc0 k [], loop := fun k => assoc0 k [(0, ⟨granaryref21_record_d0, loopF (granaryref21_record_b0 N) N⟩)], nil := fun k => assoc0 k [], unr := fun k => assocN k [], blk := fun k => assoc0 k [] })]
noncomputable def granaryref21_record_C (N : Nat) : Nat → List GS := fun k => tabOf k []
def granaryref21_record_o : List (Shp × List Nat) := [(⟨[(0, (.tup [(.one (.const (.slw 0 1))), (.one (.int .i64)), (.one .bool), (.one .bool)]))], [(.sh (.arr (.int .u8) none), false)]⟩, [])]
noncomputable def granaryref21_record_g (N : Nat) : GS := { ins := ⟨[(0, (.av (.one (.rsl (.int .u8))))), (1, (.av (.one (.int .i64))))], []⟩, lend := [.lend (.int .u8), .keep], outs := granaryref21_record_o.map fun s => ssOf s.1, its := [.lst (.int .u8), .int], ots := [[.int, .bool, .bool, .lst (.int .u8)]], F := granaryref21_record N }
theorem granaryref21_record_t (N : Nat) : TabC Try.prog (granaryref21_record_C N) := tab_ok trivial
theorem granaryref21_record_i0 : loopsOf granaryref21_record_c0 = [] := by kernel_rfl
theorem granaryref21_record_e0 (N : Nat) (next) (x) : granaryref21_record_b0 N next x = loopStep Γ (granaryref21_record_C N) (granaryref21_record_J N) 0 85 granaryref21_record_d0 granaryref21_record_c0 next x := by kernel_rfl
theorem granaryref21_record_k0 (N : Nat) : LoopOK Try.prog 85 granaryref21_record_c0 ⟨granaryref21_record_d0, loopF (granaryref21_record_b0 N) N⟩ := loop_ok tabOK (granaryref21_record_t N) mixedOK (J := granaryref21_record_J N) (cx := 0) (body := granaryref21_record_c0) (nt := 85) (l := granaryref21_record_d0) (b := granaryref21_record_b0 N) (jok_from granaryref21_record_i0 ⟨trivial, trivial⟩) (granaryref21_record_e0 N) N
theorem granaryref21_record_i : loopsOf granaryref21_record_c = [(0, granaryref21_record_c0)] := by kernel_rfl
theorem granaryref21_record_e (N : Nat) (x) : (granaryref21_record_g N).F x = fnStep Γ (granaryref21_record_C N) (granaryref21_record_J N) 85 Try.f55.results.toList (granaryref21_record_g N) granaryref21_record_o granaryref21_record_c x := by kernel_rfl
theorem granaryref21_record_y : Try.f55.body = some granaryref21_record_c := by kernel_rfl
theorem granaryref21_record_n : (Try.f55.name == "runtime.NumGoroutine") = false := by kernel_rfl
theorem granaryref21_record_ok (N : Nat) : FnDoes Try.prog 55 (granaryref21_record_g N) := fn_ok tabOK (granaryref21_record_t N) mixedOK (J := granaryref21_record_J N) (body := granaryref21_record_c) Try.func55 granaryref21_record_y granaryref21_record_n Try.ntmps55 (jok_from granaryref21_record_i ⟨⟨.inr ⟨_, rfl, granaryref21_record_k0 N⟩, trivial⟩, trivial⟩) rfl rfl (le_of_ble rfl) (granaryref21_record_e N)
noncomputable def granaryref21_Framer_Feed_c : Code := codeOf Try.f21.body
noncomputable def granaryref21_Framer_Feed_c0 : Code := codeOf (getLoop 0 granaryref21_Framer_Feed_c)
def granaryref21_Framer_Feed_d0 : LD := { ins := ⟨[(0, (.av (.one (.const (.ptr ⟨0, 0, 0, 0⟩))))), (6, (.av (.one (.const (.slw 4 1)))))], [(.sh (.one (.const (.slw 3 1))), true), (.sh (.one (.int .i64)), true), (.sh (.one .bool), false), (.sh (.arr (.int .u8) none), false), (.sh (.arr (.sl (.int .u8)) none), false)]⟩, mov := [4], wr := [0, 1, 2, 3], outs := [(.ret, ⟨[(4, (.av (.one (.const (.slw 5 1))))), (5, (.av (.one (.int .i64))))], [(.sh (.one (.const (.slw 3 1))), true), (.sh (.one (.int .i64)), true), (.sh (.one .bool), false), (.sh (.arr (.int .u8) none), false), (.dead, false), (.sh (.arr (.sl (.int .u8)) none), false)]⟩)], its := [.int, .bool, .lst (.int .u8), .lst (.sl (.int .u8))], ots := [[.int, .int, .bool, .lst (.int .u8), .lst (.sl (.int .u8))]] }
noncomputable def granaryref21_Framer_Feed_J (N : Nat) : Nat → Hint := fun cx => hintOf cx [(0, { reg := fun k => assoc0 k [], cnd := fun k => assoc0 k [], loop := fun k => assoc0 k [(0, ⟨granaryref21_Framer_Feed_d0, loopF (granaryref21_Framer_Feed_b0 N) N⟩)], nil := fun k => assoc0 k [(50, (.sl (.int .u8)))], unr := fun k => assocN k [], blk := fun k => assoc0 k [] })]
noncomputable def granaryref21_Framer_Feed_C (N : Nat) : Nat → List GS := fun k => tabOf k [(55, [granaryref21_record_g N])]
def granaryref21_Framer_Feed_o : List (Shp × List Nat) := [(⟨[(0, (.tup [(.one (.const (.slw 3 1))), (.one (.int .i64))]))], [(.sh (.one (.const (.slw 4 1))), true), (.sh (.one (.int .i64)), true), (.sh (.one .bool), false), (.sh (.arr (.sl (.int .u8)) none), false), (.sh (.arr (.int .u8) none), false)]⟩, [])]
noncomputable def granaryref21_Framer_Feed_g (N : Nat) : GS := { ins := ⟨[(0, (.av (.one (.const (.ptr ⟨0, 0, 0, 0⟩))))), (1, (.av (.one (.rsl (.int .u8)))))], [(some (.one (.const .nils)), true), (some (.one (.int .i64)), true), (some (.one .bool), false)]⟩, lend := [.keep, .keep], outs := granaryref21_Framer_Feed_o.map fun s => ssOf s.1, its := [.lst (.int .u8), .int, .bool], ots := [[.int, .int, .bool, .lst (.sl (.int .u8)), .lst (.int .u8)]], F := granaryref21_Framer_Feed N }
noncomputable def granaryref21_Framer_Feed_CA (N : Nat) (f0 : (List Int) × Int → Option (Int × Bool × Bool × (List Int))) : Nat → List GS := fun k => tabOf k [(55, [{ granaryref21_record_g N with F := f0 }])]
theorem granaryref21_Framer_Feed_CE (N : Nat) : granaryref21_Framer_Feed_CA N (granaryref21_record N) = granaryref21_Framer_Feed_C N := by kernel_rfl
theorem granaryref21_Framer_Feed_t (N : Nat) : TabC Try.prog (granaryref21_Framer_Feed_C N) := tab_ok ⟨⟨granaryref21_record_ok N, trivial⟩, trivial⟩
theorem granaryref21_Framer_Feed_i0 : loopsOf granaryref21_Framer_Feed_c0 = [] := by kernel_rfl
noncomputable def granaryref21_Framer_Feed_a0 (N : Nat) (f0 : (List Int) × Int → Option (Int × Bool × Bool × (List Int))) (next : Int × Bool × (List Int) × (List (List Int)) → Option ((Int × Int × Bool × (List Int) × (List (List Int))))) (x : Int × Bool × (List Int) × (List (List Int))) : Option ((Int × Int × Bool × (List Int) × (List (List Int)))) :=
  (Option.bind (f0 (x.2.2.1, x.1)) fun r1 =>
  (cond r1.2.2.1
  (some ((210 : Int), x.1, true, x.2.2.1, x.2.2.2))
  (cond (!r1.2.1)
  (some ((0 : Int), x.1, x.2.1, x.2.2.1, x.2.2.2))
  (cond (fits 1 (List.length r1.2.2.2))
  ((let v4 : List (List Int) := ([r1.2.2.2] : List (List Int))
  (cond (fits 24 ((List.length x.2.2.2) + (List.length v4)))
  ((next (r1.1, x.2.1, x.2.2.1, (x.2.2.2 ++ v4))))
  none)))
  none))))
theorem granaryref21_Framer_Feed_f0 (N : Nat) (f0 : (List Int) × Int → Option (Int × Bool × Bool × (List Int))) (next) (x) : granaryref21_Framer_Feed_a0 N f0 next x = loopStep Γ (granaryref21_Framer_Feed_CA N f0) (granaryref21_Framer_Feed_J N) 0 56 granaryref21_Framer_Feed_d0 granaryref21_Framer_Feed_c0 next x := by kernel_rfl
theorem granaryref21_Framer_Feed_e0 (N : Nat) (next) (x) : granaryref21_Framer_Feed_b0 N next x = loopStep Γ (granaryref21_Framer_Feed_C N) (granaryref21_Framer_Feed_J N) 0 56 granaryref21_Framer_Feed_d0 granaryref21_Framer_Feed_c0 next x := by
  rw [← granaryref21_Framer_Feed_CE N]
  exact Eq.trans (by kernel_rfl) (granaryref21_Framer_Feed_f0 N (granaryref21_record N) next x)
theorem granaryref21_Framer_Feed_k0 (N : Nat) : LoopOK Try.prog 56 granaryref21_Framer_Feed_c0 ⟨granaryref21_Framer_Feed_d0, loopF (granaryref21_Framer_Feed_b0 N) N⟩ := loop_ok tabOK (granaryref21_Framer_Feed_t N) mixedOK (J := granaryref21_Framer_Feed_J N) (cx := 0) (body := granaryref21_Framer_Feed_c0) (nt := 56) (l := granaryref21_Framer_Feed_d0) (b := granaryref21_Framer_Feed_b0 N) (jok_from granaryref21_Framer_Feed_i0 ⟨trivial, trivial⟩) (granaryref21_Framer_Feed_e0 N) N
theorem granaryref21_Framer_Feed_i : loopsOf granaryref21_Framer_Feed_c = [(0, granaryref21_Framer_Feed_c0)] := by kernel_rfl
noncomputable def granaryref21_Framer_Feed_a (N : Nat) (f0 : (List Int) × Int → Option (Int × Bool × Bool × (List Int))) (x : (List Int) × Int × Bool) : Option (Int × Int × Bool × (List (List Int)) × (List Int)) :=
  (cond x.2.2
  (some ((210 : Int), x.2.1, x.2.2, ([] : List (List Int)), ([] : List Int)))
  (cond (fits 1 (List.length x.1))
  ((Option.bind (granaryref21_Framer_Feed_l0 N (x.2.1, x.2.2, x.1, ([] : List (List Int)))) fun r1 =>
  (some (r1.1, r1.2.1, r1.2.2.1, r1.2.2.2.2, r1.2.2.2.1))))
  none))
theorem granaryref21_Framer_Feed_f (N : Nat) (f0 : (List Int) × Int → Option (Int × Bool × Bool × (List Int))) (x) : granaryref21_Framer_Feed_a N f0 x = fnStep Γ (granaryref21_Framer_Feed_CA N f0) (granaryref21_Framer_Feed_J N) 56 Try.f21.results.toList (granaryref21_Framer_Feed_g N) granaryref21_Framer_Feed_o granaryref21_Framer_Feed_c x := by kernel_rfl
theorem granaryref21_Framer_Feed_e (N : Nat) (x) : (granaryref21_Framer_Feed_g N).F x = fnStep Γ (granaryref21_Framer_Feed_C N) (granaryref21_Framer_Feed_J N) 56 Try.f21.results.toList (granaryref21_Framer_Feed_g N) granaryref21_Framer_Feed_o granaryref21_Framer_Feed_c x := by
  rw [← granaryref21_Framer_Feed_CE N]
  exact Eq.trans (by kernel_rfl) (granaryref21_Framer_Feed_f N (granaryref21_record N) x)
theorem granaryref21_Framer_Feed_y : Try.f21.body = some granaryref21_Framer_Feed_c := by kernel_rfl
theorem granaryref21_Framer_Feed_n : (Try.f21.name == "runtime.NumGoroutine") = false := by kernel_rfl
theorem granaryref21_Framer_Feed_ok (N : Nat) : FnDoes Try.prog 21 (granaryref21_Framer_Feed_g N) := fn_ok tabOK (granaryref21_Framer_Feed_t N) mixedOK (J := granaryref21_Framer_Feed_J N) (body := granaryref21_Framer_Feed_c) Try.func21 granaryref21_Framer_Feed_y granaryref21_Framer_Feed_n Try.ntmps21 (jok_from granaryref21_Framer_Feed_i ⟨⟨.inr ⟨_, rfl, granaryref21_Framer_Feed_k0 N⟩, trivial⟩, trivial⟩) rfl rfl (le_of_ble rfl) (granaryref21_Framer_Feed_e N)
noncomputable def granaryref21_Framer_Left_c : Code := codeOf Try.f25.body
noncomputable def granaryref21_Framer_Left_J (N : Nat) : Nat → Hint := fun cx => hintOf cx []
noncomputable def granaryref21_Framer_Left_C (N : Nat) : Nat → List GS := fun k => tabOf k []
def granaryref21_Framer_Left_o : List (Shp × List Nat) := [(⟨[(0, (.av (.one (.int .i64))))], [(.sh (.one (.const (.slw 3 1))), true), (.sh (.one (.int .i64)), true), (.sh (.one .bool), false), (.sh (.arr (.int .u8) none), false)]⟩, [])]
noncomputable def granaryref21_Framer_Left_g (N : Nat) : GS := { ins := ⟨[(0, (.av (.one (.const (.ptr ⟨0, 0, 0, 0⟩)))))], [(some (.one (.const (.slw 3 1))), true), (some (.one (.int .i64)), true), (some (.one .bool), false), (some (.arr (.int .u8) none), false)]⟩, lend := [.keep], outs := granaryref21_Framer_Left_o.map fun s => ssOf s.1, its := [.int, .bool, .lst (.int .u8)], ots := [[.int, .int, .bool, .lst (.int .u8)]], F := granaryref21_Framer_Left }
theorem granaryref21_Framer_Left_t (N : Nat) : TabC Try.prog (granaryref21_Framer_Left_C N) := tab_ok trivial
theorem granaryref21_Framer_Left_i : loopsOf granaryref21_Framer_Left_c = [] := by kernel_rfl
theorem granaryref21_Framer_Left_e (N : Nat) (x) : (granaryref21_Framer_Left_g N).F x = fnStep Γ (granaryref21_Framer_Left_C N) (granaryref21_Framer_Left_J N) 17 Try.f25.results.toList (granaryref21_Framer_Left_g N) granaryref21_Framer_Left_o granaryref21_Framer_Left_c x := by kernel_rfl
theorem granaryref21_Framer_Left_y : Try.f25.body = some granaryref21_Framer_Left_c := by kernel_rfl
theorem granaryref21_Framer_Left_n : (Try.f25.name == "runtime.NumGoroutine") = false := by kernel_rfl
theorem granaryref21_Framer_Left_ok (N : Nat) : FnDoes Try.prog 25 (granaryref21_Framer_Left_g N) := fn_ok tabOK (granaryref21_Framer_Left_t N) mixedOK (J := granaryref21_Framer_Left_J N) (body := granaryref21_Framer_Left_c) Try.func25 granaryref21_Framer_Left_y granaryref21_Framer_Left_n Try.ntmps25 (jok_from granaryref21_Framer_Left_i trivial) rfl rfl (le_of_ble rfl) (granaryref21_Framer_Left_e N)
noncomputable def rpc_Framer_Feed_v4_c : Code := codeOf Try.f20.body
noncomputable def rpc_Framer_Feed_v4_c1 : Code := codeOf (getLoop 1 rpc_Framer_Feed_v4_c)
def rpc_Framer_Feed_v4_d1 : LD := { ins := ⟨[(0, (.av (.one (.const (.ptr ⟨0, 0, 0, 0⟩))))), (1, (.av (.one (.rsl (.int .u8))))), (6, (.av (.one (.const (.slw 9 1))))), (7, (.av (.one .bool)))], [(.sh (.one (.const (.slw 7 1))), true), (.sh (.one (.int .i64)), true), (.sh (.one .bool), true), (.sh (.one (.const (.slw 8 1))), true), (.sh (.one (.int .i64)), true), (.sh (.one (.int .i64)), true), (.sh (.one .bool), false), (.sh (.arr (.int .u8) none), false), (.sh (.arr (.int .u8) none), false), (.sh (.deep .u8), false)]⟩, mov := [7, 8, 9], wr := [0, 1, 2, 3, 4, 5, 6], outs := [(.exit 1, ⟨[(6, (.av (.one (.const (.slw 10 1)))))], [(.sh (.one (.const (.slw 11 1))), true), (.sh (.one (.int .i64)), true), (.sh (.one .bool), true), (.sh (.one (.const (.slw 12 1))), true), (.sh (.one (.int .i64)), true), (.sh (.one (.int .i64)), true), (.sh (.one .bool), false), (.dead, false), (.dead, false), (.dead, false), (.sh (.deep .u8), false), (.sh (.arr (.int .u8) none), false), (.sh (.arr (.int .u8) none), false)]⟩), (.ret, ⟨[(4, (.av (.one (.const (.slw 10 1))))), (5, (.av (.one (.const (.int .i64 (210 : Int))))))], [(.sh (.one (.const .nils)), true), (.sh (.one (.const (.int .i64 (0 : Int)))), true), (.sh (.one (.const (.bool false))), true), (.sh (.one (.const .nils)), true), (.sh (.one (.const (.int .i64 (0 : Int)))), true), (.sh (.one (.const (.int .i64 (0 : Int)))), true), (.sh (.one (.const (.bool true))), false), (.dead, false), (.dead, false), (.dead, false), (.sh (.deep .u8), false)]⟩)], its := [.lst (.int .u8), .bool, .int, .bool, .int, .int, .bool, .lst (.int .u8), .lst (.int .u8), .lst (.sl (.int .u8))], ots := [[.int, .bool, .int, .int, .bool, .lst (.sl (.int .u8)), .lst (.int .u8), .lst (.int .u8)], [.lst (.sl (.int .u8))]] }
noncomputable def rpc_Framer_Feed_v4_J (N : Nat) : Nat → Hint := fun cx => hintOf cx [(0, { reg := fun k => assoc0 k [(23, ⟨⟨[(121, (.av (.one .bool)))], [(.keep, true), (.keep, true), (.keep, true), (.keep, true), (.keep, true), (.keep, true), (.keep, false), (.dead, false), (.dead, false), (.keep, false), (.keep, false), (.keep, false)]⟩, [], [], [.bool]⟩)], cnd := fun k => assoc0 k [(27, ⟨[7], [0, 1, 2, 3, 4, 5, 6, 8], [(.normal, ⟨[(1, (.av (.one (.rsl (.int .u8)))))], [(.sh (.one (.const (.slw 10 1))), true), (.sh (.one (.int .i64)), true), (.sh (.one .bool), true), (.sh (.one (.const (.slw 8 1))), true), (.sh (.one (.int .i64)), true), (.sh (.one (.int .i64)), true), (.sh (.one .bool), false), (.dead, false), (.sh (.arr (.int .u8) none), false), (.keep, false), (.sh (.arr (.int .u8) none), false)]⟩), (.exit 1, ⟨[], [(.sh (.one (.const (.slw 10 1))), true), (.sh (.one (.int .i64)), true), (.sh (.one .bool), true), (.sh (.one (.const (.slw 8 1))), true), (.sh (.one (.int .i64)), true), (.sh (.one (.int .i64)), true), (.sh (.one .bool), false), (.dead, false), (.sh (.arr (.int .u8) none), false), (.keep, false), (.sh (.arr (.int .u8) none), false)]⟩), (.ret, ⟨[(4, (.av (.one (.const (.slw 9 1))))), (5, (.av (.one (.const (.int .i64 (210 : Int))))))], [(.sh (.one (.const .nils)), true), (.sh (.one (.const (.int .i64 (0 : Int)))), true), (.sh (.one (.const (.bool false))), true), (.sh (.one (.const .nils)), true), (.sh (.one (.const (.int .i64 (0 : Int)))), true), (.sh (.one (.const (.int .i64 (0 : Int)))), true), (.sh (.one (.const (.bool true))), false), (.dead, false), (.sh (.arr (.int .u8) none), false), (.keep, false)]⟩)], [[.lst (.int .u8), .int, .bool, .int, .int, .bool, .lst (.int .u8), .lst (.int .u8)], [.int, .bool, .int, .int, .bool, .lst (.int .u8), .lst (.int .u8)], [.lst (.int .u8)]]⟩)], loop := fun k => assoc0 k [(1, ⟨rpc_Framer_Feed_v4_d1, loopF (rpc_Framer_Feed_v4_b1 N) N⟩)], nil := fun k => assoc0 k [(6, (.pair (.sl (.int .u8)) .unit)), (129, (.pair (.sl (.int .u8)) .unit))], unr := fun k => assocN k [], blk := fun k => assoc0 k [(2, ⟨[9], [0, 1, 2, 3, 4, 5, 6, 7, 8], [(.normal, ⟨[(1, (.av (.one (.rsl (.int .u8))))), (6, (.av (.one (.const (.slw 10 1))))), (7, (.av (.one .bool)))], [(.sh (.one (.const (.slw 11 1))), true), (.sh (.one (.int .i64)), true), (.sh (.one .bool), true), (.sh (.one (.const (.slw 12 1))), true), (.sh (.one (.int .i64)), true), (.sh (.one (.int .i64)), true), (.sh (.one .bool), false), (.dead, false), (.dead, false), (.dead, false), (.sh (.deep .u8), false), (.sh (.arr (.int .u8) none), false), (.sh (.arr (.int .u8) none), false)]⟩), (.exit 1, ⟨[(6, (.av (.one (.const (.slw 10 1)))))], [(.sh (.one (.const (.slw 11 1))), true), (.sh (.one (.int .i64)), true), (.sh (.one .bool), true), (.sh (.one (.const (.slw 8 1))), true), (.sh (.one (.int .i64)), true), (.sh (.one (.int .i64)), true), (.sh (.one .bool), false), (.dead, false), (.sh (.arr (.int .u8) none), false), (.dead, false), (.sh (.deep .u8), false), (.sh (.arr (.int .u8) none), false)]⟩), (.ret, ⟨[(4, (.av (.one (.const (.slw 10 1))))), (5, (.av (.one (.const (.int .i64 (210 : Int))))))], [(.sh (.one (.const .nils)), true), (.sh (.one (.const (.int .i64 (0 : Int)))), true), (.sh (.one (.const (.bool false))), true), (.sh (.one (.const .nils)), true), (.sh (.one (.const (.int .i64 (0 : Int)))), true), (.sh (.one (.const (.int .i64 (0 : Int)))), true), (.sh (.one (.const (.bool true))), false), (.dead, false), (.sh (.arr (.int .u8) none), false), (.dead, false), (.sh (.deep .u8), false)]⟩)], [[.lst (.int .u8), .bool, .int, .bool, .int, .int, .bool, .lst (.sl (.int .u8)), .lst (.int .u8), .lst (.int .u8)], [.int, .bool, .int, .int, .bool, .lst (.int .u8), .lst (.sl (.int .u8)), .lst (.int .u8)], [.lst (.int .u8), .lst (.sl (.int .u8))]]⟩)] })]
noncomputable def rpc_Framer_Feed_v4_C (N : Nat) : Nat → List GS := fun k => tabOf k [(54, [rpc_Framer_begins_v1_g N])]
def rpc_Framer_Feed_v4_o : List (Shp × List Nat) := [(⟨[(0, (.tup [(.one (.const (.slw 9 1))), (.one (.int .i64))]))], [(.sh (.one (.const (.slw 10 1))), true), (.sh (.one (.int .i64)), true), (.sh (.one .bool), true), (.sh (.one (.const (.slw 11 1))), true), (.sh (.one (.int .i64)), true), (.sh (.one (.int .i64)), true), (.sh (.one .bool), false), (.dead, false), (.dead, false), (.sh (.deep .u8), false), (.sh (.arr (.int .u8) none), false), (.sh (.arr (.int .u8) none), false)]⟩, [7, 8])]
noncomputable def rpc_Framer_Feed_v4_g (N : Nat) : GS := { ins := ⟨[(0, (.av (.one (.const (.ptr ⟨0, 0, 0, 0⟩))))), (1, (.av (.one (.rsl (.int .u8)))))], [(some (.one (.const (.slw 7 1))), true), (some (.one (.int .i64)), true), (some (.one .bool), true), (some (.one (.const (.slw 8 1))), true), (some (.one (.int .i64)), true), (some (.one (.int .i64)), true), (some (.one .bool), false), (some (.arr (.int .u8) none), false), (some (.arr (.int .u8) none), false)]⟩, lend := [.keep, .lend (.int .u8)], outs := rpc_Framer_Feed_v4_o.map fun s => ssOf s.1, its := [.lst (.int .u8), .int, .bool, .int, .int, .bool, .lst (.int .u8), .lst (.int .u8)], ots := [[.int, .int, .bool, .int, .int, .bool, .lst (.sl (.int .u8)), .lst (.int .u8), .lst (.int .u8)]], F := rpc_Framer_Feed_v4 N }
noncomputable def rpc_Framer_Feed_v4_CA (N : Nat) (f0 : Int × Bool × Int × Int × Bool × (List Int) × (List Int) → Option (Bool × Int × Bool × Int × Int × Bool × (List Int) × (List Int))) : Nat → List GS := fun k => tabOf k [(54, [{ rpc_Framer_begins_v1_g N with F := f0 }])]
theorem rpc_Framer_Feed_v4_CE (N : Nat) : rpc_Framer_Feed_v4_CA N (rpc_Framer_begins_v1 N) = rpc_Framer_Feed_v4_C N := by kernel_rfl
theorem rpc_Framer_Feed_v4_t (N : Nat) : TabC Try.prog (rpc_Framer_Feed_v4_C N) := tab_ok ⟨⟨rpc_Framer_begins_v1_ok N, trivial⟩, trivial⟩
theorem rpc_Framer_Feed_v4_i1 : loopsOf rpc_Framer_Feed_v4_c1 = [] := by kernel_rfl
noncomputable def rpc_Framer_Feed_v4_a1 (N : Nat) (f0 : Int × Bool × Int × Int × Bool × (List Int) × (List Int) → Option (Bool × Int × Bool × Int × Int × Bool × (List Int) × (List Int))) (next : (List Int) × Bool × Int × Bool × Int × Int × Bool × (List Int) × (List Int) × (List (List Int)) → Option ((Int × Bool × Int × Int × Bool × (List (List Int)) × (List Int) × (List Int)) ⊕ ((List (List Int))))) (x : (List Int) × Bool × Int × Bool × Int × Int × Bool × (List Int) × (List Int) × (List (List Int))) : Option ((Int × Bool × Int × Int × Bool × (List (List Int)) × (List Int) × (List Int)) ⊕ ((List (List Int)))) :=
  (cond (decide ((0 : Int) < (((List.length x.1) : Nat) : Int)))
  (Option.bind
  ((Option.bind
  ((cond (!x.2.1)
  (let v5 : Int := (wrapF .i64 ((4 : Int) - (((List.length x.2.2.2.2.2.2.2.1) : Nat) : Int)))
  (let v6 : Int := (((List.length x.1) : Nat) : Int)
  (let v7 : Int := (if v6 < v5 then v6 else v5)
  (cond ((decide ((0 : Int) ≤ v7)) && (decide (v7 ≤ (((List.length x.1) : Nat) : Int))))
  ((let v8 : List Int := (List.take (Int.toNat v7) (List.drop 0 x.1))
  (cond (fits 1 ((List.length x.2.2.2.2.2.2.2.1) + (List.length v8)))
  ((let v9 : List Int := (x.2.2.2.2.2.2.2.1 ++ v8)
  (cond (((decide ((0 : Int) ≤ v7)) && (decide (v7 ≤ (((List.length x.1) : Nat) : Int)))) && (decide ((((List.length x.1) : Nat) : Int) ≤ (((List.length x.1) : Nat) : Int))))
  ((let v11 : Int := (wrapF .i64 (x.2.2.2.2.2.1 + v7))
  (cond (decide ((((List.length v9) : Nat) : Int) < (4 : Int)))
  (some (.inr (.inl (x.2.2.1, x.2.2.2.1, x.2.2.2.2.1, v11, x.2.2.2.2.2.2.1, x.2.2.2.2.2.2.2.2.1, v9))))
  (Option.bind (f0 (x.2.2.1, x.2.2.2.1, x.2.2.2.2.1, v11, x.2.2.2.2.2.2.1, v9, x.2.2.2.2.2.2.2.2.1)) fun r14 =>
  (cond (!r14.1)
  (some (.inr (.inr (r14.2.2.2.2.2.2.2))))
  (some (.inl ((List.take ((List.length x.1) - (Int.toNat v7)) (List.drop (Int.toNat v7) x.1)), r14.2.1, r14.2.2.1, r14.2.2.2.1, r14.2.2.2.2.1, r14.2.2.2.2.2.1, r14.2.2.2.2.2.2.2, ([] : List Int)))))))))
  none)))
  none)))
  none))))
  (some (.inl (x.1, x.2.2.1, x.2.2.2.1, x.2.2.2.2.1, x.2.2.2.2.2.1, x.2.2.2.2.2.2.1, x.2.2.2.2.2.2.2.2.1, x.2.2.2.2.2.2.2.1)))) : Option (((List Int) × Int × Bool × Int × Int × Bool × (List Int) × (List Int)) ⊕ (Int × Bool × Int × Int × Bool × (List Int) × (List Int)) ⊕ ((List Int))))
  fun r16 =>
  (match r16 with
  | .inl y17 =>
  (let v19 : Int := (((List.length y17.1) : Nat) : Int)
  (let v20 : Int := (if v19 < y17.2.1 then v19 else y17.2.1)
  (cond ((decide ((0 : Int) ≤ v20)) && (decide (v20 ≤ (((List.length y17.1) : Nat) : Int))))
  ((let v21 : List Int := (List.take (Int.toNat v20) (List.drop 0 y17.1))
  (cond (fits 1 ((List.length y17.2.2.2.2.2.2.1) + (List.length v21)))
  ((let v22 : List Int := (y17.2.2.2.2.2.2.1 ++ v21)
  (cond (((decide ((0 : Int) ≤ v20)) && (decide (v20 ≤ (((List.length y17.1) : Nat) : Int)))) && (decide ((((List.length y17.1) : Nat) : Int) ≤ (((List.length y17.1) : Nat) : Int))))
  ((let v23 : List Int := (List.take ((List.length y17.1) - (Int.toNat v20)) (List.drop (Int.toNat v20) y17.1))
  (let v24 : Int := (wrapF .i64 (y17.2.1 - v20))
  (let v26 : Bool := (decide ((0 : Int) < v24))
  (Option.bind
  (cond v26
  (some true)
  (some (!y17.2.2.1)))
  fun r28 =>
  (cond r28
  (some (.inl (v23, v26, v24, y17.2.2.1, y17.2.2.2.1, (wrapF .i64 (y17.2.2.2.2.1 + v20)), y17.2.2.2.2.2.1, x.2.2.2.2.2.2.2.2.2, y17.2.2.2.2.2.2.2, v22)))
  (cond (fits 1 (List.length v22))
  ((let v30 : List (List Int) := ([v22] : List (List Int))
  (cond (fits 24 ((List.length x.2.2.2.2.2.2.2.2.2) + (List.length v30)))
  ((some (.inl (v23, v26, (0 : Int), false, (0 : Int), (0 : Int), false, (x.2.2.2.2.2.2.2.2.2 ++ v30), ([] : List Int), ([] : List Int)))))
  none)))
  none)))))))
  none)))
  none)))
  none)))
  | .inr z18 =>
  (match z18 with
  | .inl y32 =>
  (some (.inr (.inl (y32.1, y32.2.1, y32.2.2.1, y32.2.2.2.1, y32.2.2.2.2.1, y32.2.2.2.2.2.1, x.2.2.2.2.2.2.2.2.2, y32.2.2.2.2.2.2))))
  | .inr z33 =>
  (some (.inr (.inr ((z33, x.2.2.2.2.2.2.2.2.2)))))))) : Option (((List Int) × Bool × Int × Bool × Int × Int × Bool × (List (List Int)) × (List Int) × (List Int)) ⊕ (Int × Bool × Int × Int × Bool × (List Int) × (List (List Int)) × (List Int)) ⊕ ((List Int) × (List (List Int)))))
  fun r34 =>
  (match r34 with
  | .inl y35 =>
  (next (y35.1, y35.2.1, y35.2.2.1, y35.2.2.2.1, y35.2.2.2.2.1, y35.2.2.2.2.2.1, y35.2.2.2.2.2.2.1, y35.2.2.2.2.2.2.2.2.1, y35.2.2.2.2.2.2.2.2.2, y35.2.2.2.2.2.2.2.1))
  | .inr z36 =>
  (match z36 with
  | .inl y37 =>
  (some (.inl (y37.1, y37.2.1, y37.2.2.1, y37.2.2.2.1, y37.2.2.2.2.1, y37.2.2.2.2.2.2.1, y37.2.2.2.2.2.2.2, y37.2.2.2.2.2.1)))
  | .inr z38 =>
  (some (.inr (z38.2))))))
  (some (.inl (x.2.2.1, x.2.2.2.1, x.2.2.2.2.1, x.2.2.2.2.2.1, x.2.2.2.2.2.2.1, x.2.2.2.2.2.2.2.2.2, x.2.2.2.2.2.2.2.1, x.2.2.2.2.2.2.2.2.1))))
theorem rpc_Framer_Feed_v4_f1 (N : Nat) (f0 : Int × Bool × Int × Int × Bool × (List Int) × (List Int) → Option (Bool × Int × Bool × Int × Int × Bool × (List Int) × (List Int))) (next) (x) : rpc_Framer_Feed_v4_a1 N f0 next x = loopStep Γ (rpc_Framer_Feed_v4_CA N f0) (rpc_Framer_Feed_v4_J N) 0 135 rpc_Framer_Feed_v4_d1 rpc_Framer_Feed_v4_c1 next x := by kernel_rfl
theorem rpc_Framer_Feed_v4_e1 (N : Nat) (next) (x) : rpc_Framer_Feed_v4_b1 N next x = loopStep Γ (rpc_Framer_Feed_v4_C N) (rpc_Framer_Feed_v4_J N) 0 135 rpc_Framer_Feed_v4_d1 rpc_Framer_Feed_v4_c1 next x := by
  rw [← rpc_Framer_Feed_v4_CE N]
  exact Eq.trans (by kernel_rfl) (rpc_Framer_Feed_v4_f1 N (rpc_Framer_begins_v1 N) next x)
theorem rpc_Framer_Feed_v4_k1 (N : Nat) : LoopOK Try.prog 135 rpc_Framer_Feed_v4_c1 ⟨rpc_Framer_Feed_v4_d1, loopF (rpc_Framer_Feed_v4_b1 N) N⟩ := loop_ok tabOK (rpc_Framer_Feed_v4_t N) mixedOK (J := rpc_Framer_Feed_v4_J N) (cx := 0) (body := rpc_Framer_Feed_v4_c1) (nt := 135) (l := rpc_Framer_Feed_v4_d1) (b := rpc_Framer_Feed_v4_b1 N) (jok_from rpc_Framer_Feed_v4_i1 ⟨trivial, trivial⟩) (rpc_Framer_Feed_v4_e1 N) N
theorem rpc_Framer_Feed_v4_i : loopsOf rpc_Framer_Feed_v4_c = [(1, rpc_Framer_Feed_v4_c1)] := by kernel_rfl
noncomputable def rpc_Framer_Feed_v4_a (N : Nat) (f0 : Int × Bool × Int × Int × Bool × (List Int) × (List Int) → Option (Bool × Int × Bool × Int × Int × Bool × (List Int) × (List Int))) (x : (List Int) × Int × Bool × Int × Int × Bool × (List Int) × (List Int)) : Option (Int × Int × Bool × Int × Int × Bool × (List (List Int)) × (List Int) × (List Int)) :=
  (cond x.2.2.2.2.2.1
  (some ((210 : Int), x.2.1, x.2.2.1, x.2.2.2.1, x.2.2.2.2.1, x.2.2.2.2.2.1, ([] : List (List Int)), x.2.2.2.2.2.2.1, x.2.2.2.2.2.2.2))
  (Option.bind (rpc_Framer_Feed_v4_l1 N (x.1, (decide ((0 : Int) < x.2.1)), x.2.1, x.2.2.1, x.2.2.2.1, x.2.2.2.2.1, x.2.2.2.2.2.1, x.2.2.2.2.2.2.1, x.2.2.2.2.2.2.2, ([] : List (List Int)))) fun r3 =>
  (match r3 with
  | .inl y4 =>
  (some ((0 : Int), y4.1, y4.2.1, y4.2.2.1, y4.2.2.2.1, y4.2.2.2.2.1, y4.2.2.2.2.2.1, y4.2.2.2.2.2.2.1, y4.2.2.2.2.2.2.2))
  | .inr z5 =>
  (some ((210 : Int), (0 : Int), false, (0 : Int), (0 : Int), true, z5, ([] : List Int), ([] : List Int))))))
theorem rpc_Framer_Feed_v4_f (N : Nat) (f0 : Int × Bool × Int × Int × Bool × (List Int) × (List Int) → Option (Bool × Int × Bool × Int × Int × Bool × (List Int) × (List Int))) (x) : rpc_Framer_Feed_v4_a N f0 x = fnStep Γ (rpc_Framer_Feed_v4_CA N f0) (rpc_Framer_Feed_v4_J N) 135 Try.f20.results.toList (rpc_Framer_Feed_v4_g N) rpc_Framer_Feed_v4_o rpc_Framer_Feed_v4_c x := by kernel_rfl
theorem rpc_Framer_Feed_v4_e (N : Nat) (x) : (rpc_Framer_Feed_v4_g N).F x = fnStep Γ (rpc_Framer_Feed_v4_C N) (rpc_Framer_Feed_v4_J N) 135 Try.f20.results.toList (rpc_Framer_Feed_v4_g N) rpc_Framer_Feed_v4_o rpc_Framer_Feed_v4_c x := by
  rw [← rpc_Framer_Feed_v4_CE N]
  exact Eq.trans (by kernel_rfl) (rpc_Framer_Feed_v4_f N (rpc_Framer_begins_v1 N) x)
theorem rpc_Framer_Feed_v4_y : Try.f20.body = some rpc_Framer_Feed_v4_c := by kernel_rfl
theorem rpc_Framer_Feed_v4_n : (Try.f20.name == "runtime.NumGoroutine") = false := by kernel_rfl
theorem rpc_Framer_Feed_v4_ok (N : Nat) : FnDoes Try.prog 20 (rpc_Framer_Feed_v4_g N) := fn_ok tabOK (rpc_Framer_Feed_v4_t N) mixedOK (J := rpc_Framer_Feed_v4_J N) (body := rpc_Framer_Feed_v4_c) Try.func20 rpc_Framer_Feed_v4_y rpc_Framer_Feed_v4_n Try.ntmps20 (jok_from rpc_Framer_Feed_v4_i ⟨⟨.inr ⟨_, rfl, rpc_Framer_Feed_v4_k1 N⟩, trivial⟩, trivial⟩) rfl rfl (le_of_ble rfl) (rpc_Framer_Feed_v4_e N)
noncomputable def granaryref21_Framer_Feed_v1_c : Code := codeOf Try.f21.body
noncomputable def granaryref21_Framer_Feed_v1_c0 : Code := codeOf (getLoop 0 granaryref21_Framer_Feed_v1_c)
def granaryref21_Framer_Feed_v1_d0 : LD := { ins := ⟨[(0, (.av (.one (.const (.ptr ⟨0, 0, 0, 0⟩))))), (6, (.av (.one (.const (.slw 5 1)))))], [(.sh (.one (.const (.slw 4 1))), true), (.sh (.one (.int .i64)), true), (.sh (.one .bool), false), (.keep, false), (.sh (.arr (.int .u8) none), false), (.sh (.arr (.sl (.int .u8)) none), false)]⟩, mov := [5], wr := [0, 1, 2, 4], outs := [(.ret, ⟨[(4, (.av (.one (.const (.slw 6 1))))), (5, (.av (.one (.int .i64))))], [(.sh (.one (.const (.slw 4 1))), true), (.sh (.one (.int .i64)), true), (.sh (.one .bool), false), (.keep, false), (.sh (.arr (.int .u8) none), false), (.dead, false), (.sh (.arr (.sl (.int .u8)) none), false)]⟩)], its := [.int, .bool, .lst (.int .u8), .lst (.sl (.int .u8))], ots := [[.int, .int, .bool, .lst (.int .u8), .lst (.sl (.int .u8))]] }
noncomputable def granaryref21_Framer_Feed_v1_J (N : Nat) : Nat → Hint := fun cx => hintOf cx [(0, { reg := fun k => assoc0 k [], cnd := fun k => assoc0 k [], loop := fun k => assoc0 k [(0, ⟨granaryref21_Framer_Feed_v1_d0, loopF (granaryref21_Framer_Feed_v1_b0 N) N⟩)], nil := fun k => assoc0 k [(50, (.sl (.int .u8)))], unr := fun k => assocN k [], blk := fun k => assoc0 k [] })]
noncomputable def granaryref21_Framer_Feed_v1_C (N : Nat) : Nat → List GS := fun k => tabOf k [(55, [granaryref21_record_g N])]
def granaryref21_Framer_Feed_v1_o : List (Shp × List Nat) := [(⟨[(0, (.tup [(.one (.const (.slw 4 1))), (.one (.int .i64))]))], [(.sh (.one (.const (.slw 5 1))), true), (.sh (.one (.int .i64)), true), (.sh (.one .bool), false), (.dead, false), (.sh (.arr (.sl (.int .u8)) none), false), (.sh (.arr (.int .u8) none), false)]⟩, [3])]
noncomputable def granaryref21_Framer_Feed_v1_g (N : Nat) : GS := { ins := ⟨[(0, (.av (.one (.const (.ptr ⟨0, 0, 0, 0⟩))))), (1, (.av (.one (.rsl (.int .u8)))))], [(some (.one (.const (.slw 3 1))), true), (some (.one (.int .i64)), true), (some (.one .bool), false), (some (.arr (.int .u8) none), false)]⟩, lend := [.keep, .keep], outs := granaryref21_Framer_Feed_v1_o.map fun s => ssOf s.1, its := [.lst (.int .u8), .int, .bool, .lst (.int .u8)], ots := [[.int, .int, .bool, .lst (.sl (.int .u8)), .lst (.int .u8)]], F := granaryref21_Framer_Feed_v1 N }
noncomputable def granaryref21_Framer_Feed_v1_CA (N : Nat) (f0 : (List Int) × Int → Option (Int × Bool × Bool × (List Int))) : Nat → List GS := fun k => tabOf k [(55, [{ granaryref21_record_g N with F := f0 }])]
theorem granaryref21_Framer_Feed_v1_CE (N : Nat) : granaryref21_Framer_Feed_v1_CA N (granaryref21_record N) = granaryref21_Framer_Feed_v1_C N := by kernel_rfl
theorem granaryref21_Framer_Feed_v1_t (N : Nat) : TabC Try.prog (granaryref21_Framer_Feed_v1_C N) := tab_ok ⟨⟨granaryref21_record_ok N, trivial⟩, trivial⟩
theorem granaryref21_Framer_Feed_v1_i0 : loopsOf granaryref21_Framer_Feed_v1_c0 = [] := by kernel_rfl
noncomputable def granaryref21_Framer_Feed_v1_a0 (N : Nat) (f0 : (List Int) × Int → Option (Int × Bool × Bool × (List Int))) (next : Int × Bool × (List Int) × (List (List Int)) → Option ((Int × Int × Bool × (List Int) × (List (List Int))))) (x : Int × Bool × (List Int) × (List (List Int))) : Option ((Int × Int × Bool × (List Int) × (List (List Int)))) :=
  (Option.bind (f0 (x.2.2.1, x.1)) fun r1 =>
  (cond r1.2.2.1
  (some ((210 : Int), x.1, true, x.2.2.1, x.2.2.2))
  (cond (!r1.2.1)
  (some ((0 : Int), x.1, x.2.1, x.2.2.1, x.2.2.2))
  (cond (fits 1 (List.length r1.2.2.2))
  ((let v4 : List (List Int) := ([r1.2.2.2] : List (List Int))
  (cond (fits 24 ((List.length x.2.2.2) + (List.length v4)))
  ((next (r1.1, x.2.1, x.2.2.1, (x.2.2.2 ++ v4))))
  none)))
  none))))
theorem granaryref21_Framer_Feed_v1_f0 (N : Nat) (f0 : (List Int) × Int → Option (Int × Bool × Bool × (List Int))) (next) (x) : granaryref21_Framer_Feed_v1_a0 N f0 next x = loopStep Γ (granaryref21_Framer_Feed_v1_CA N f0) (granaryref21_Framer_Feed_v1_J N) 0 56 granaryref21_Framer_Feed_v1_d0 granaryref21_Framer_Feed_v1_c0 next x := by kernel_rfl
theorem granaryref21_Framer_Feed_v1_e0 (N : Nat) (next) (x) : granaryref21_Framer_Feed_v1_b0 N next x = loopStep Γ (granaryref21_Framer_Feed_v1_C N) (granaryref21_Framer_Feed_v1_J N) 0 56 granaryref21_Framer_Feed_v1_d0 granaryref21_Framer_Feed_v1_c0 next x := by
  rw [← granaryref21_Framer_Feed_v1_CE N]
  exact Eq.trans (by kernel_rfl) (granaryref21_Framer_Feed_v1_f0 N (granaryref21_record N) next x)
theorem granaryref21_Framer_Feed_v1_k0 (N : Nat) : LoopOK Try.prog 56 granaryref21_Framer_Feed_v1_c0 ⟨granaryref21_Framer_Feed_v1_d0, loopF (granaryref21_Framer_Feed_v1_b0 N) N⟩ := loop_ok tabOK (granaryref21_Framer_Feed_v1_t N) mixedOK (J := granaryref21_Framer_Feed_v1_J N) (cx := 0) (body := granaryref21_Framer_Feed_v1_c0) (nt := 56) (l := granaryref21_Framer_Feed_v1_d0) (b := granaryref21_Framer_Feed_v1_b0 N) (jok_from granaryref21_Framer_Feed_v1_i0 ⟨trivial, trivial⟩) (granaryref21_Framer_Feed_v1_e0 N) N
theorem granaryref21_Framer_Feed_v1_i : loopsOf granaryref21_Framer_Feed_v1_c = [(0, granaryref21_Framer_Feed_v1_c0)] := by kernel_rfl
noncomputable def granaryref21_Framer_Feed_v1_a (N : Nat) (f0 : (List Int) × Int → Option (Int × Bool × Bool × (List Int))) (x : (List Int) × Int × Bool × (List Int)) : Option (Int × Int × Bool × (List (List Int)) × (List Int)) :=
  (cond x.2.2.1
  (some ((210 : Int), x.2.1, x.2.2.1, ([] : List (List Int)), x.2.2.2))
  (cond (fits 1 ((List.length x.2.2.2) + (List.length x.1)))
  ((Option.bind (granaryref21_Framer_Feed_v1_l0 N (x.2.1, x.2.2.1, (x.2.2.2 ++ x.1), ([] : List (List Int)))) fun r2 =>
  (some (r2.1, r2.2.1, r2.2.2.1, r2.2.2.2.2, r2.2.2.2.1))))
  none))
theorem granaryref21_Framer_Feed_v1_f (N : Nat) (f0 : (List Int) × Int → Option (Int × Bool × Bool × (List Int))) (x) : granaryref21_Framer_Feed_v1_a N f0 x = fnStep Γ (granaryref21_Framer_Feed_v1_CA N f0) (granaryref21_Framer_Feed_v1_J N) 56 Try.f21.results.toList (granaryref21_Framer_Feed_v1_g N) granaryref21_Framer_Feed_v1_o granaryref21_Framer_Feed_v1_c x := by kernel_rfl
theorem granaryref21_Framer_Feed_v1_e (N : Nat) (x) : (granaryref21_Framer_Feed_v1_g N).F x = fnStep Γ (granaryref21_Framer_Feed_v1_C N) (granaryref21_Framer_Feed_v1_J N) 56 Try.f21.results.toList (granaryref21_Framer_Feed_v1_g N) granaryref21_Framer_Feed_v1_o granaryref21_Framer_Feed_v1_c x := by
  rw [← granaryref21_Framer_Feed_v1_CE N]
  exact Eq.trans (by kernel_rfl) (granaryref21_Framer_Feed_v1_f N (granaryref21_record N) x)
theorem granaryref21_Framer_Feed_v1_y : Try.f21.body = some granaryref21_Framer_Feed_v1_c := by kernel_rfl
theorem granaryref21_Framer_Feed_v1_n : (Try.f21.name == "runtime.NumGoroutine") = false := by kernel_rfl
theorem granaryref21_Framer_Feed_v1_ok (N : Nat) : FnDoes Try.prog 21 (granaryref21_Framer_Feed_v1_g N) := fn_ok tabOK (granaryref21_Framer_Feed_v1_t N) mixedOK (J := granaryref21_Framer_Feed_v1_J N) (body := granaryref21_Framer_Feed_v1_c) Try.func21 granaryref21_Framer_Feed_v1_y granaryref21_Framer_Feed_v1_n Try.ntmps21 (jok_from granaryref21_Framer_Feed_v1_i ⟨⟨.inr ⟨_, rfl, granaryref21_Framer_Feed_v1_k0 N⟩, trivial⟩, trivial⟩) rfl rfl (le_of_ble rfl) (granaryref21_Framer_Feed_v1_e N)
end Go.Rf.W
