/-
  The printed functions are what the program does.
-/
import Derived.Test.YtngehbaakpkoiaaRpcK0
set_option linter.unusedVariables false
set_option maxRecDepth 100000
namespace Go.Rf.W
open Go Go.Rf Go.Proofs
noncomputable def rpc_getGid_c : Code := codeOf Try.f69.body
noncomputable def rpc_getGid_J (N : Nat) : Nat → Hint := fun cx => hintOf cx []
noncomputable def rpc_getGid_C (N : Nat) : Nat → List GS := fun k => tabOf k [(46, [xdr_Reader_Uint_g N])]
def rpc_getGid_o : List (Shp × List Nat) := [(⟨[(0, (.av (.one (.int .u32))))], [(.sh (.one (.const (.slw 4 1))), true), (.sh (.one (.int .i64)), true), (.sh (.one (.int .i64)), true), (.sh (.one (.int .i64)), false), (.sh (.arr (.int .u8) none), false)]⟩, [])]
noncomputable def rpc_getGid_g (N : Nat) : GS := { ins := ⟨[(0, (.av (.one (.const (.ptr ⟨0, 0, 0, 0⟩)))))], [(some (.one (.const (.slw 4 1))), true), (some (.one (.int .i64)), true), (some (.one (.int .i64)), true), (some (.one (.int .i64)), false), (some (.arr (.int .u8) none), false)]⟩, lend := [.keep], outs := rpc_getGid_o.map fun s => ssOf s.1, its := [.int, .int, .int, .lst (.int .u8)], ots := [[.int, .int, .int, .int, .lst (.int .u8)]], F := rpc_getGid N }
noncomputable def rpc_getGid_CA (N : Nat) (f0 : Int × Int × Int × (List Int) → Option (Int × Int × Int × Int × (List Int))) : Nat → List GS := fun k => tabOf k [(46, [{ xdr_Reader_Uint_g N with F := f0 }])]
theorem rpc_getGid_CE (N : Nat) : rpc_getGid_CA N (xdr_Reader_Uint N) = rpc_getGid_C N := by kernel_rfl
theorem rpc_getGid_t (N : Nat) : TabC Try.prog (rpc_getGid_C N) := tab_ok ⟨⟨xdr_Reader_Uint_ok N, trivial⟩, trivial⟩
theorem rpc_getGid_i : loopsOf rpc_getGid_c = [] := by kernel_rfl
noncomputable def rpc_getGid_a (N : Nat) (f0 : Int × Int × Int × (List Int) → Option (Int × Int × Int × Int × (List Int))) (x : Int × Int × Int × (List Int)) : Option (Int × Int × Int × Int × (List Int)) :=
  (Option.bind (f0 (x.1, x.2.1, x.2.2.1, x.2.2.2)) fun r1 =>
  (some (r1.1, r1.2.1, r1.2.2.1, r1.2.2.2.1, r1.2.2.2.2)))
theorem rpc_getGid_f (N : Nat) (f0 : Int × Int × Int × (List Int) → Option (Int × Int × Int × Int × (List Int))) (x) : rpc_getGid_a N f0 x = fnStep Γ (rpc_getGid_CA N f0) (rpc_getGid_J N) 5 Try.f69.results.toList (rpc_getGid_g N) rpc_getGid_o rpc_getGid_c x := by kernel_rfl
theorem rpc_getGid_e (N : Nat) (x) : (rpc_getGid_g N).F x = fnStep Γ (rpc_getGid_C N) (rpc_getGid_J N) 5 Try.f69.results.toList (rpc_getGid_g N) rpc_getGid_o rpc_getGid_c x := by
  rw [← rpc_getGid_CE N]
  exact Eq.trans (by kernel_rfl) (rpc_getGid_f N (xdr_Reader_Uint N) x)
theorem rpc_getGid_y : Try.f69.body = some rpc_getGid_c := by kernel_rfl
theorem rpc_getGid_n : (Try.f69.name == "runtime.NumGoroutine") = false := by kernel_rfl
theorem rpc_getGid_ok (N : Nat) : FnDoes Try.prog 69 (rpc_getGid_g N) := fn_ok tabOK (rpc_getGid_t N) mixedOK (J := rpc_getGid_J N) (body := rpc_getGid_c) Try.func69 rpc_getGid_y rpc_getGid_n Try.ntmps69 (jok_from rpc_getGid_i trivial) rfl rfl (le_of_ble rfl) (rpc_getGid_e N)
noncomputable def xdr_List_uint32_c : Code := codeOf Try.f68.body
noncomputable def xdr_List_uint32_c0 : Code := codeOf (getLoop 0 xdr_List_uint32_c)
def xdr_List_uint32_d0 : LD := { ins := ⟨[(0, (.av (.one (.const (.ptr ⟨0, 0, 0, 0⟩))))), (2, (.av (.one (.const (.fn 69 []))))), (7, (.av (.one (.const (.slw 5 1))))), (12, (.av (.one (.int .i64)))), (13, (.av (.one (.int .i64))))], [(.sh (.one (.const (.slw 4 1))), true), (.sh (.one (.int .i64)), true), (.sh (.one (.int .i64)), true), (.sh (.one (.int .i64)), false), (.sh (.arr (.int .u8) none), false), (.sh (.arr (.int .u32) none), false)]⟩, mov := [5], wr := [0, 1, 2, 3, 4], outs := [(.exit 0, ⟨[(7, (.av (.one (.const (.slw 6 1)))))], [(.sh (.one (.const (.slw 4 1))), true), (.sh (.one (.int .i64)), true), (.sh (.one (.int .i64)), true), (.sh (.one (.int .i64)), false), (.sh (.arr (.int .u8) none), false), (.dead, false), (.sh (.arr (.int .u32) none), false)]⟩)], its := [.int, .int, .int, .int, .int, .lst (.int .u8), .lst (.int .u32)], ots := [[.int, .int, .int, .lst (.int .u8), .lst (.int .u32)]] }
noncomputable def xdr_List_uint32_J (N : Nat) : Nat → Hint := fun cx => hintOf cx [(0, { reg := fun k => assoc0 k [], cnd := fun k => assoc0 k [], loop := fun k => assoc0 k [(0, ⟨xdr_List_uint32_d0, loopF (xdr_List_uint32_b0 N) N⟩)], nil := fun k => assoc0 k [], unr := fun k => assocN k [], blk := fun k => assoc0 k [] })]
noncomputable def xdr_List_uint32_C (N : Nat) : Nat → List GS := fun k => tabOf k [(88, [xdr_Reader_length_g N]), (89, [xdr_Reader_bad_g N]), (69, [rpc_getGid_g N])]
def xdr_List_uint32_o : List (Shp × List Nat) := [(⟨[(0, (.av (.one (.const (.slw 5 1)))))], [(.sh (.one (.const (.slw 4 1))), true), (.sh (.one (.int .i64)), true), (.sh (.one (.int .i64)), true), (.sh (.one (.int .i64)), false), (.sh (.arr (.int .u8) none), false), (.sh (.arr (.int .u32) none), false)]⟩, [])]
noncomputable def xdr_List_uint32_g (N : Nat) : GS := { ins := ⟨[(0, (.av (.one (.const (.ptr ⟨0, 0, 0, 0⟩))))), (1, (.av (.one (.int .i64)))), (2, (.av (.one (.const (.fn 69 [])))))], [(some (.one (.const (.slw 4 1))), true), (some (.one (.int .i64)), true), (some (.one (.int .i64)), true), (some (.one (.int .i64)), false), (some (.arr (.int .u8) none), false)]⟩, lend := [.keep, .keep, .keep], outs := xdr_List_uint32_o.map fun s => ssOf s.1, its := [.int, .int, .int, .int, .lst (.int .u8)], ots := [[.int, .int, .int, .lst (.int .u8), .lst (.int .u32)]], F := xdr_List_uint32 N }
noncomputable def xdr_List_uint32_CA (N : Nat) (f0 : Int × Int × Int × Int × (List Int) → Option (Int × Int × Int × Int × (List Int))) (f1 : Int × Int × Int × (List Int) → Option (Bool × Int × Int × Int × (List Int))) (f2 : Int × Int × Int × (List Int) → Option (Int × Int × Int × Int × (List Int))) : Nat → List GS := fun k => tabOf k [(88, [{ xdr_Reader_length_g N with F := f0 }]), (89, [{ xdr_Reader_bad_g N with F := f1 }]), (69, [{ rpc_getGid_g N with F := f2 }])]
theorem xdr_List_uint32_CE (N : Nat) : xdr_List_uint32_CA N (xdr_Reader_length N) (xdr_Reader_bad) (rpc_getGid N) = xdr_List_uint32_C N := by kernel_rfl
theorem xdr_List_uint32_t (N : Nat) : TabC Try.prog (xdr_List_uint32_C N) := tab_ok ⟨⟨xdr_Reader_length_ok N, trivial⟩, ⟨xdr_Reader_bad_ok N, trivial⟩, ⟨rpc_getGid_ok N, trivial⟩, trivial⟩
theorem xdr_List_uint32_i0 : loopsOf xdr_List_uint32_c0 = [] := by kernel_rfl
noncomputable def xdr_List_uint32_a0 (N : Nat) (f0 : Int × Int × Int × Int × (List Int) → Option (Int × Int × Int × Int × (List Int))) (f1 : Int × Int × Int × (List Int) → Option (Bool × Int × Int × Int × (List Int))) (f2 : Int × Int × Int × (List Int) → Option (Int × Int × Int × Int × (List Int))) (next : Int × Int × Int × Int × Int × (List Int) × (List Int) → Option ((Int × Int × Int × (List Int) × (List Int)))) (x : Int × Int × Int × Int × Int × (List Int) × (List Int)) : Option ((Int × Int × Int × (List Int) × (List Int))) :=
  (cond (decide (x.2.1 < x.1))
  (Option.bind (f1 (x.2.2.1, x.2.2.2.1, x.2.2.2.2.1, x.2.2.2.2.2.1)) fun r2 =>
  (cond r2.1
  (some (r2.2.1, r2.2.2.1, r2.2.2.2.1, r2.2.2.2.2, x.2.2.2.2.2.2))
  (Option.bind (f2 (r2.2.1, r2.2.2.1, r2.2.2.2.1, r2.2.2.2.2)) fun r3 =>
  (let v4 : List Int := ([r3.1] : List Int)
  (cond ((decide (1 ≤ (List.length v4))) && (fits 4 ((List.length x.2.2.2.2.2.2) + (List.length (List.take 1 (List.drop 0 v4))))))
  ((next (x.1, (wrapF .i64 (x.2.1 + (1 : Int))), r3.2.1, r3.2.2.1, r3.2.2.2.1, r3.2.2.2.2, (x.2.2.2.2.2.2 ++ (List.take 1 (List.drop 0 v4))))))
  none)))))
  (some (x.2.2.1, x.2.2.2.1, x.2.2.2.2.1, x.2.2.2.2.2.1, x.2.2.2.2.2.2)))
theorem xdr_List_uint32_f0 (N : Nat) (f0 : Int × Int × Int × Int × (List Int) → Option (Int × Int × Int × Int × (List Int))) (f1 : Int × Int × Int × (List Int) → Option (Bool × Int × Int × Int × (List Int))) (f2 : Int × Int × Int × (List Int) → Option (Int × Int × Int × Int × (List Int))) (next) (x) : xdr_List_uint32_a0 N f0 f1 f2 next x = loopStep Γ (xdr_List_uint32_CA N f0 f1 f2) (xdr_List_uint32_J N) 0 27 xdr_List_uint32_d0 xdr_List_uint32_c0 next x := by kernel_rfl
theorem xdr_List_uint32_e0 (N : Nat) (next) (x) : xdr_List_uint32_b0 N next x = loopStep Γ (xdr_List_uint32_C N) (xdr_List_uint32_J N) 0 27 xdr_List_uint32_d0 xdr_List_uint32_c0 next x := by
  rw [← xdr_List_uint32_CE N]
  exact Eq.trans (by kernel_rfl) (xdr_List_uint32_f0 N (xdr_Reader_length N) (xdr_Reader_bad) (rpc_getGid N) next x)
theorem xdr_List_uint32_k0 (N : Nat) : LoopOK Try.prog 27 xdr_List_uint32_c0 ⟨xdr_List_uint32_d0, loopF (xdr_List_uint32_b0 N) N⟩ := loop_ok tabOK (xdr_List_uint32_t N) mixedOK (J := xdr_List_uint32_J N) (cx := 0) (body := xdr_List_uint32_c0) (nt := 27) (l := xdr_List_uint32_d0) (b := xdr_List_uint32_b0 N) (jok_from xdr_List_uint32_i0 ⟨trivial, trivial⟩) (xdr_List_uint32_e0 N) N
theorem xdr_List_uint32_i : loopsOf xdr_List_uint32_c = [(0, xdr_List_uint32_c0)] := by kernel_rfl
noncomputable def xdr_List_uint32_a (N : Nat) (f0 : Int × Int × Int × Int × (List Int) → Option (Int × Int × Int × Int × (List Int))) (f1 : Int × Int × Int × (List Int) → Option (Bool × Int × Int × Int × (List Int))) (f2 : Int × Int × Int × (List Int) → Option (Int × Int × Int × Int × (List Int))) (x : Int × Int × Int × Int × (List Int)) : Option (Int × Int × Int × (List Int) × (List Int)) :=
  (Option.bind (f0 (x.1, x.2.1, x.2.2.1, x.2.2.2.1, x.2.2.2.2)) fun r1 =>
  (Option.bind (xdr_List_uint32_l0 N (r1.1, (0 : Int), r1.2.1, r1.2.2.1, r1.2.2.2.1, r1.2.2.2.2, ([] : List Int))) fun r2 =>
  (Option.bind (f1 (r2.1, r2.2.1, r2.2.2.1, r2.2.2.2.1)) fun r3 =>
  (cond r3.1
  (some (r3.2.1, r3.2.2.1, r3.2.2.2.1, r3.2.2.2.2, ([] : List Int)))
  (some (r3.2.1, r3.2.2.1, r3.2.2.2.1, r3.2.2.2.2, r2.2.2.2.2))))))
theorem xdr_List_uint32_f (N : Nat) (f0 : Int × Int × Int × Int × (List Int) → Option (Int × Int × Int × Int × (List Int))) (f1 : Int × Int × Int × (List Int) → Option (Bool × Int × Int × Int × (List Int))) (f2 : Int × Int × Int × (List Int) → Option (Int × Int × Int × Int × (List Int))) (x) : xdr_List_uint32_a N f0 f1 f2 x = fnStep Γ (xdr_List_uint32_CA N f0 f1 f2) (xdr_List_uint32_J N) 27 Try.f68.results.toList (xdr_List_uint32_g N) xdr_List_uint32_o xdr_List_uint32_c x := by kernel_rfl
theorem xdr_List_uint32_e (N : Nat) (x) : (xdr_List_uint32_g N).F x = fnStep Γ (xdr_List_uint32_C N) (xdr_List_uint32_J N) 27 Try.f68.results.toList (xdr_List_uint32_g N) xdr_List_uint32_o xdr_List_uint32_c x := by
  rw [← xdr_List_uint32_CE N]
  exact Eq.trans (by kernel_rfl) (xdr_List_uint32_f N (xdr_Reader_length N) (xdr_Reader_bad) (rpc_getGid N) x)
theorem xdr_List_uint32_y : Try.f68.body = some xdr_List_uint32_c := by kernel_rfl
theorem xdr_List_uint32_n : (Try.f68.name == "runtime.NumGoroutine") = false := by kernel_rfl
theorem xdr_List_uint32_ok (N : Nat) : FnDoes Try.prog 68 (xdr_List_uint32_g N) := fn_ok tabOK (xdr_List_uint32_t N) mixedOK (J := xdr_List_uint32_J N) (body := xdr_List_uint32_c) Try.func68 xdr_List_uint32_y xdr_List_uint32_n Try.ntmps68 (jok_from xdr_List_uint32_i ⟨⟨.inr ⟨_, rfl, xdr_List_uint32_k0 N⟩, trivial⟩, trivial⟩) rfl rfl (le_of_ble rfl) (xdr_List_uint32_e N)
noncomputable def xdr_Reader_Done_c : Code := codeOf Try.f70.body
noncomputable def xdr_Reader_Done_J (N : Nat) : Nat → Hint := fun cx => hintOf cx [(0, { reg := fun k => assoc0 k [(3, ⟨⟨[(6, (.av (.one .bool)))], [(.keep, true), (.keep, true), (.keep, true), (.keep, false), (.keep, false)]⟩, [], [], [.bool]⟩)], cnd := fun k => assoc0 k [], loop := fun k => assoc0 k [], nil := fun k => assoc0 k [], unr := fun k => assocN k [], blk := fun k => assoc0 k [] })]
noncomputable def xdr_Reader_Done_C (N : Nat) : Nat → List GS := fun k => tabOf k []
def xdr_Reader_Done_o : List (Shp × List Nat) := [(⟨[(0, (.av (.one (.int .i64))))], [(.sh (.one (.const (.slw 4 1))), true), (.sh (.one (.int .i64)), true), (.sh (.one (.int .i64)), true), (.sh (.one (.int .i64)), false), (.sh (.arr (.int .u8) none), false)]⟩, [])]
noncomputable def xdr_Reader_Done_g (N : Nat) : GS := { ins := ⟨[(0, (.av (.one (.const (.ptr ⟨0, 0, 0, 0⟩)))))], [(some (.one (.const (.slw 4 1))), true), (some (.one (.int .i64)), true), (some (.one (.int .i64)), true), (some (.one (.int .i64)), false), (some (.arr (.int .u8) none), false)]⟩, lend := [.keep], outs := xdr_Reader_Done_o.map fun s => ssOf s.1, its := [.int, .int, .int, .lst (.int .u8)], ots := [[.int, .int, .int, .int, .lst (.int .u8)]], F := xdr_Reader_Done }
theorem xdr_Reader_Done_t (N : Nat) : TabC Try.prog (xdr_Reader_Done_C N) := tab_ok trivial
theorem xdr_Reader_Done_i : loopsOf xdr_Reader_Done_c = [] := by kernel_rfl
theorem xdr_Reader_Done_e (N : Nat) (x) : (xdr_Reader_Done_g N).F x = fnStep Γ (xdr_Reader_Done_C N) (xdr_Reader_Done_J N) 28 Try.f70.results.toList (xdr_Reader_Done_g N) xdr_Reader_Done_o xdr_Reader_Done_c x := by kernel_rfl
theorem xdr_Reader_Done_y : Try.f70.body = some xdr_Reader_Done_c := by kernel_rfl
theorem xdr_Reader_Done_n : (Try.f70.name == "runtime.NumGoroutine") = false := by kernel_rfl
theorem xdr_Reader_Done_ok (N : Nat) : FnDoes Try.prog 70 (xdr_Reader_Done_g N) := fn_ok tabOK (xdr_Reader_Done_t N) mixedOK (J := xdr_Reader_Done_J N) (body := xdr_Reader_Done_c) Try.func70 xdr_Reader_Done_y xdr_Reader_Done_n Try.ntmps70 (jok_from xdr_Reader_Done_i ⟨trivial, trivial⟩) rfl rfl (le_of_ble rfl) (xdr_Reader_Done_e N)
noncomputable def rpc_GetCred_c : Code := codeOf Try.f34.body
noncomputable def rpc_GetCred_J (N : Nat) : Nat → Hint := fun cx => hintOf cx []
noncomputable def rpc_GetCred_C (N : Nat) : Nat → List GS := fun k => tabOf k [(45, [xdr_NewReader_g N]), (46, [xdr_Reader_Uint_g N]), (67, [xdr_Reader_Text_g N]), (68, [xdr_List_uint32_g N]), (70, [xdr_Reader_Done_g N])]
def rpc_GetCred_o : List (Shp × List Nat) := [(⟨[(0, (.tup [(.agg [(.one (.int .u32)), (.one (.int .u32)), (.one .str), (.one (.int .u32)), (.one (.int .u32)), (.one (.const (.slw 0 1)))]), (.one (.int .u32))]))], [(.sh (.arr (.int .u32) none), false)]⟩, [])]
noncomputable def rpc_GetCred_g (N : Nat) : GS := { ins := ⟨[(0, (.av (.agg [(.one (.int .u32)), (.one (.rsl (.int .u8)))])))], []⟩, lend := [.agg [none, some (.int .u8)]], outs := rpc_GetCred_o.map fun s => ssOf s.1, its := [.int, .lst (.int .u8)], ots := [[.int, .int, .str, .int, .int, .int, .lst (.int .u32)]], F := rpc_GetCred N }
noncomputable def rpc_GetCred_CA (N : Nat) (f0 : (List Int) → Option ((List Int))) (f1 : Int × Int × Int × (List Int) → Option (Int × Int × Int × Int × (List Int))) (f2 : Int × Int × Int × Int × (List Int) → Option ((List UInt8) × Int × Int × Int × (List Int))) (f3 : Int × Int × Int × Int × (List Int) → Option (Int × Int × Int × (List Int) × (List Int))) (f4 : Int × Int × Int × (List Int) → Option (Int × Int × Int × Int × (List Int))) : Nat → List GS := fun k => tabOf k [(45, [{ xdr_NewReader_g N with F := f0 }]), (46, [{ xdr_Reader_Uint_g N with F := f1 }]), (67, [{ xdr_Reader_Text_g N with F := f2 }]), (68, [{ xdr_List_uint32_g N with F := f3 }]), (70, [{ xdr_Reader_Done_g N with F := f4 }])]
theorem rpc_GetCred_CE (N : Nat) : rpc_GetCred_CA N (xdr_NewReader) (xdr_Reader_Uint N) (xdr_Reader_Text N) (xdr_List_uint32 N) (xdr_Reader_Done) = rpc_GetCred_C N := by kernel_rfl
theorem rpc_GetCred_t (N : Nat) : TabC Try.prog (rpc_GetCred_C N) := tab_ok ⟨⟨xdr_NewReader_ok N, trivial⟩, ⟨xdr_Reader_Uint_ok N, trivial⟩, ⟨xdr_Reader_Text_ok N, trivial⟩, ⟨xdr_List_uint32_ok N, trivial⟩, ⟨xdr_Reader_Done_ok N, trivial⟩, trivial⟩
theorem rpc_GetCred_i : loopsOf rpc_GetCred_c = [] := by kernel_rfl
noncomputable def rpc_GetCred_a (N : Nat) (f0 : (List Int) → Option ((List Int))) (f1 : Int × Int × Int × (List Int) → Option (Int × Int × Int × Int × (List Int))) (f2 : Int × Int × Int × Int × (List Int) → Option ((List UInt8) × Int × Int × Int × (List Int))) (f3 : Int × Int × Int × Int × (List Int) → Option (Int × Int × Int × (List Int) × (List Int))) (f4 : Int × Int × Int × (List Int) → Option (Int × Int × Int × Int × (List Int))) (x : Int × (List Int)) : Option (Int × Int × (List UInt8) × Int × Int × Int × (List Int)) :=
  (cond (decide (x.1 = (0 : Int)))
  (cond (decide ((0 : Int) < (((List.length x.2) : Nat) : Int)))
  (some ((0 : Int), (0 : Int), ([] : List UInt8), (0 : Int), (0 : Int), (1 : Int), ([] : List Int)))
  (some ((0 : Int), (0 : Int), ([] : List UInt8), (0 : Int), (0 : Int), (0 : Int), ([] : List Int))))
  (cond (decide (x.1 = (1 : Int)))
  (Option.bind (f0 x.2) fun r8 =>
  (Option.bind (f1 ((0 : Int), (0 : Int), (0 : Int), r8)) fun r9 =>
  (Option.bind (f2 ((64 : Int), r9.2.1, r9.2.2.1, r9.2.2.2.1, r9.2.2.2.2)) fun r10 =>
  (Option.bind (f1 (r10.2.1, r10.2.2.1, r10.2.2.2.1, r10.2.2.2.2)) fun r11 =>
  (Option.bind (f1 (r11.2.1, r11.2.2.1, r11.2.2.2.1, r11.2.2.2.2)) fun r12 =>
  (Option.bind (f3 ((16 : Int), r12.2.1, r12.2.2.1, r12.2.2.2.1, r12.2.2.2.2)) fun r13 =>
  (Option.bind (f4 (r13.1, r13.2.1, r13.2.2.1, r13.2.2.2.1)) fun r15 =>
  (cond (!(decide (r15.1 = (0 : Int))))
  (some ((0 : Int), (0 : Int), ([] : List UInt8), (0 : Int), (0 : Int), (1 : Int), ([] : List Int)))
  (some ((1 : Int), r9.1, r10.1, r11.1, r12.1, (0 : Int), r13.2.2.2.2))))))))))
  (some ((0 : Int), (0 : Int), ([] : List UInt8), (0 : Int), (0 : Int), (2 : Int), ([] : List Int)))))
theorem rpc_GetCred_f (N : Nat) (f0 : (List Int) → Option ((List Int))) (f1 : Int × Int × Int × (List Int) → Option (Int × Int × Int × Int × (List Int))) (f2 : Int × Int × Int × Int × (List Int) → Option ((List UInt8) × Int × Int × Int × (List Int))) (f3 : Int × Int × Int × Int × (List Int) → Option (Int × Int × Int × (List Int) × (List Int))) (f4 : Int × Int × Int × (List Int) → Option (Int × Int × Int × Int × (List Int))) (x) : rpc_GetCred_a N f0 f1 f2 f3 f4 x = fnStep Γ (rpc_GetCred_CA N f0 f1 f2 f3 f4) (rpc_GetCred_J N) 38 Try.f34.results.toList (rpc_GetCred_g N) rpc_GetCred_o rpc_GetCred_c x := by kernel_rfl
theorem rpc_GetCred_e (N : Nat) (x) : (rpc_GetCred_g N).F x = fnStep Γ (rpc_GetCred_C N) (rpc_GetCred_J N) 38 Try.f34.results.toList (rpc_GetCred_g N) rpc_GetCred_o rpc_GetCred_c x := by
  rw [← rpc_GetCred_CE N]
  exact Eq.trans (by kernel_rfl) (rpc_GetCred_f N (xdr_NewReader) (xdr_Reader_Uint N) (xdr_Reader_Text N) (xdr_List_uint32 N) (xdr_Reader_Done) x)
theorem rpc_GetCred_y : Try.f34.body = some rpc_GetCred_c := by kernel_rfl
theorem rpc_GetCred_n : (Try.f34.name == "runtime.NumGoroutine") = false := by kernel_rfl
theorem rpc_GetCred_ok (N : Nat) : FnDoes Try.prog 34 (rpc_GetCred_g N) := fn_ok tabOK (rpc_GetCred_t N) mixedOK (J := rpc_GetCred_J N) (body := rpc_GetCred_c) Try.func34 rpc_GetCred_y rpc_GetCred_n Try.ntmps34 (jok_from rpc_GetCred_i trivial) rfl rfl (le_of_ble rfl) (rpc_GetCred_e N)
noncomputable def xdr_Reader_Left_c : Code := codeOf Try.f81.body
noncomputable def xdr_Reader_Left_J (N : Nat) : Nat → Hint := fun cx => hintOf cx []
noncomputable def xdr_Reader_Left_C (N : Nat) : Nat → List GS := fun k => tabOf k []
def xdr_Reader_Left_o : List (Shp × List Nat) := [(⟨[(0, (.av (.one (.int .i64))))], [(.sh (.one (.const (.slw 4 1))), true), (.sh (.one (.int .i64)), true), (.sh (.one (.int .i64)), true), (.sh (.one (.int .i64)), false), (.sh (.arr (.int .u8) none), false)]⟩, [])]
noncomputable def xdr_Reader_Left_g (N : Nat) : GS := { ins := ⟨[(0, (.av (.one (.const (.ptr ⟨0, 0, 0, 0⟩)))))], [(some (.one (.const (.slw 4 1))), true), (some (.one (.int .i64)), true), (some (.one (.int .i64)), true), (some (.one (.int .i64)), false), (some (.arr (.int .u8) none), false)]⟩, lend := [.keep], outs := xdr_Reader_Left_o.map fun s => ssOf s.1, its := [.int, .int, .int, .lst (.int .u8)], ots := [[.int, .int, .int, .int, .lst (.int .u8)]], F := xdr_Reader_Left }
theorem xdr_Reader_Left_t (N : Nat) : TabC Try.prog (xdr_Reader_Left_C N) := tab_ok trivial
theorem xdr_Reader_Left_i : loopsOf xdr_Reader_Left_c = [] := by kernel_rfl
theorem xdr_Reader_Left_e (N : Nat) (x) : (xdr_Reader_Left_g N).F x = fnStep Γ (xdr_Reader_Left_C N) (xdr_Reader_Left_J N) 15 Try.f81.results.toList (xdr_Reader_Left_g N) xdr_Reader_Left_o xdr_Reader_Left_c x := by kernel_rfl
theorem xdr_Reader_Left_y : Try.f81.body = some xdr_Reader_Left_c := by kernel_rfl
theorem xdr_Reader_Left_n : (Try.f81.name == "runtime.NumGoroutine") = false := by kernel_rfl
theorem xdr_Reader_Left_ok (N : Nat) : FnDoes Try.prog 81 (xdr_Reader_Left_g N) := fn_ok tabOK (xdr_Reader_Left_t N) mixedOK (J := xdr_Reader_Left_J N) (body := xdr_Reader_Left_c) Try.func81 xdr_Reader_Left_y xdr_Reader_Left_n Try.ntmps81 (jok_from xdr_Reader_Left_i trivial) rfl rfl (le_of_ble rfl) (xdr_Reader_Left_e N)
noncomputable def rpc_rest_c : Code := codeOf Try.f49.body
noncomputable def rpc_rest_J (N : Nat) : Nat → Hint := fun cx => hintOf cx []
noncomputable def rpc_rest_C (N : Nat) : Nat → List GS := fun k => tabOf k [(81, [xdr_Reader_Left_g N]), (78, [xdr_Reader_At_g N]), (76, [slices_Clone_byte_byte_v1_g N])]
def rpc_rest_o : List (Shp × List Nat) := [(⟨[(0, (.av (.one (.const (.slw 5 1)))))], [(.sh (.one (.const (.slw 4 1))), true), (.sh (.one (.int .i64)), true), (.sh (.one (.int .i64)), true), (.sh (.one (.int .i64)), false), (.sh (.arr (.int .u8) none), false), (.sh (.arr (.int .u8) none), false)]⟩, [])]
noncomputable def rpc_rest_g (N : Nat) : GS := { ins := ⟨[(0, (.av (.one (.const (.ptr ⟨0, 0, 0, 0⟩))))), (1, (.av (.one (.rsl (.int .u8)))))], [(some (.one (.const (.slw 4 1))), true), (some (.one (.int .i64)), true), (some (.one (.int .i64)), true), (some (.one (.int .i64)), false), (some (.arr (.int .u8) none), false)]⟩, lend := [.keep, .keep], outs := rpc_rest_o.map fun s => ssOf s.1, its := [.lst (.int .u8), .int, .int, .int, .lst (.int .u8)], ots := [[.int, .int, .int, .lst (.int .u8), .lst (.int .u8)]], F := rpc_rest }
noncomputable def rpc_rest_CA (N : Nat) (f0 : Int × Int × Int × (List Int) → Option (Int × Int × Int × Int × (List Int))) (f1 : Int × Int × Int × (List Int) → Option (Int × Int × Int × Int × (List Int))) (f2 : (List Int) → Option ((List Int))) : Nat → List GS := fun k => tabOf k [(81, [{ xdr_Reader_Left_g N with F := f0 }]), (78, [{ xdr_Reader_At_g N with F := f1 }]), (76, [{ slices_Clone_byte_byte_v1_g N with F := f2 }])]
theorem rpc_rest_CE (N : Nat) : rpc_rest_CA N (xdr_Reader_Left) (xdr_Reader_At) (slices_Clone_byte_byte_v1) = rpc_rest_C N := by kernel_rfl
theorem rpc_rest_t (N : Nat) : TabC Try.prog (rpc_rest_C N) := tab_ok ⟨⟨xdr_Reader_Left_ok N, trivial⟩, ⟨xdr_Reader_At_ok N, trivial⟩, ⟨slices_Clone_byte_byte_v1_ok N, trivial⟩, trivial⟩
theorem rpc_rest_i : loopsOf rpc_rest_c = [] := by kernel_rfl
noncomputable def rpc_rest_a (N : Nat) (f0 : Int × Int × Int × (List Int) → Option (Int × Int × Int × Int × (List Int))) (f1 : Int × Int × Int × (List Int) → Option (Int × Int × Int × Int × (List Int))) (f2 : (List Int) → Option ((List Int))) (x : (List Int) × Int × Int × Int × (List Int)) : Option (Int × Int × Int × (List Int) × (List Int)) :=
  (Option.bind (f0 (x.2.1, x.2.2.1, x.2.2.2.1, x.2.2.2.2)) fun r1 =>
  (cond (decide (r1.1 = (0 : Int)))
  (some (r1.2.1, r1.2.2.1, r1.2.2.2.1, r1.2.2.2.2, ([] : List Int)))
  (Option.bind (f1 (r1.2.1, r1.2.2.1, r1.2.2.2.1, r1.2.2.2.2)) fun r3 =>
  (cond (((decide ((0 : Int) ≤ r3.1)) && (decide (r3.1 ≤ (((List.length x.1) : Nat) : Int)))) && (decide ((((List.length x.1) : Nat) : Int) ≤ (((List.length x.1) : Nat) : Int))))
  ((Option.bind (f2 (List.take ((List.length x.1) - (Int.toNat r3.1)) (List.drop (Int.toNat r3.1) x.1))) fun r5 =>
  (some (r3.2.1, r3.2.2.1, r3.2.2.2.1, r3.2.2.2.2, r5))))
  none))))
theorem rpc_rest_f (N : Nat) (f0 : Int × Int × Int × (List Int) → Option (Int × Int × Int × Int × (List Int))) (f1 : Int × Int × Int × (List Int) → Option (Int × Int × Int × Int × (List Int))) (f2 : (List Int) → Option ((List Int))) (x) : rpc_rest_a N f0 f1 f2 x = fnStep Γ (rpc_rest_CA N f0 f1 f2) (rpc_rest_J N) 13 Try.f49.results.toList (rpc_rest_g N) rpc_rest_o rpc_rest_c x := by kernel_rfl
theorem rpc_rest_e (N : Nat) (x) : (rpc_rest_g N).F x = fnStep Γ (rpc_rest_C N) (rpc_rest_J N) 13 Try.f49.results.toList (rpc_rest_g N) rpc_rest_o rpc_rest_c x := by
  rw [← rpc_rest_CE N]
  exact Eq.trans (by kernel_rfl) (rpc_rest_f N (xdr_Reader_Left) (xdr_Reader_At) (slices_Clone_byte_byte_v1) x)
theorem rpc_rest_y : Try.f49.body = some rpc_rest_c := by kernel_rfl
theorem rpc_rest_n : (Try.f49.name == "runtime.NumGoroutine") = false := by kernel_rfl
theorem rpc_rest_ok (N : Nat) : FnDoes Try.prog 49 (rpc_rest_g N) := fn_ok tabOK (rpc_rest_t N) mixedOK (J := rpc_rest_J N) (body := rpc_rest_c) Try.func49 rpc_rest_y rpc_rest_n Try.ntmps49 (jok_from rpc_rest_i trivial) rfl rfl (le_of_ble rfl) (rpc_rest_e N)
noncomputable def rpc_Classify_c : Code := codeOf Try.f15.body
noncomputable def rpc_Classify_J (N : Nat) : Nat → Hint := fun cx => hintOf cx [(0, { reg := fun k => assoc0 k [(5, ⟨⟨[(44, (.av (.one .bool)))], [(.keep, true), (.keep, true), (.keep, true), (.keep, true), (.keep, true), (.keep, true), (.keep, true), (.keep, true), (.keep, true), (.keep, true), (.keep, true), (.keep, true), (.keep, true), (.keep, true), (.keep, true), (.keep, true), (.keep, true), (.keep, true), (.keep, true), (.keep, true), (.keep, true), (.keep, true), (.keep, false), (.keep, true), (.keep, true), (.keep, true), (.keep, false), (.keep, false), (.keep, true), (.keep, true), (.keep, true), (.keep, true), (.keep, true), (.keep, false)]⟩, [], [], [.bool]⟩), (21, ⟨⟨[(107, (.av (.one .bool)))], [(.keep, true), (.keep, true), (.keep, true), (.keep, true), (.keep, true), (.keep, true), (.keep, true), (.keep, true), (.keep, true), (.keep, true), (.keep, true), (.keep, true), (.keep, true), (.keep, true), (.keep, true), (.keep, true), (.keep, true), (.keep, true), (.keep, true), (.keep, true), (.keep, true), (.keep, true), (.keep, false), (.keep, true), (.keep, true), (.keep, true), (.keep, false), (.keep, false), (.keep, true), (.keep, true), (.keep, true), (.keep, true), (.keep, true), (.keep, false), (.keep, true), (.keep, true), (.keep, true), (.keep, true), (.keep, true), (.keep, true), (.keep, true), (.keep, true), (.keep, true), (.keep, false), (.keep, false), (.keep, false), (.keep, true), (.keep, true), (.keep, true), (.keep, true), (.keep, true), (.keep, false), (.keep, false)]⟩, [], [], [.bool]⟩)], cnd := fun k => assoc0 k [(107, ⟨[], [], [(.normal, ⟨[(12, (.av (.one (.int .u32))))], [(.keep, true), (.keep, true), (.keep, true), (.keep, true), (.keep, true), (.keep, true), (.keep, true), (.keep, true), (.keep, true), (.keep, true), (.keep, true), (.keep, true), (.keep, true), (.keep, true), (.keep, true), (.keep, true), (.keep, true), (.keep, true), (.keep, true), (.keep, true), (.keep, true), (.keep, true), (.keep, false), (.keep, true), (.keep, true), (.keep, true), (.keep, false), (.keep, false), (.keep, true), (.keep, true), (.keep, true), (.keep, true), (.keep, true), (.keep, false), (.keep, true), (.keep, true), (.keep, true), (.keep, true), (.keep, true), (.keep, true), (.keep, true), (.keep, true), (.keep, true), (.keep, false), (.keep, false), (.keep, false), (.keep, true), (.keep, true), (.keep, true), (.keep, true), (.keep, true), (.keep, false), (.keep, false)]⟩)], [[.int]]⟩), (84, ⟨[], [23, 24, 25, 26, 27, 41, 42], [(.normal, ⟨[(12, (.av (.one (.int .u32))))], [(.keep, true), (.keep, true), (.keep, true), (.keep, true), (.keep, true), (.keep, true), (.keep, true), (.keep, true), (.keep, true), (.keep, true), (.keep, true), (.keep, true), (.keep, true), (.keep, true), (.keep, true), (.keep, true), (.keep, true), (.keep, true), (.keep, true), (.keep, true), (.keep, true), (.keep, true), (.keep, false), (.sh (.one (.const (.slw 27 1))), true), (.sh (.one (.int .i64)), true), (.sh (.one (.int .i64)), true), (.sh (.one (.int .i64)), false), (.sh (.arr (.int .u8) none), false), (.keep, true), (.keep, true), (.keep, true), (.keep, true), (.keep, true), (.keep, false), (.keep, true), (.keep, true), (.keep, true), (.keep, true), (.keep, true), (.keep, true), (.keep, true), (.sh (.one (.int .u32)), true), (.sh (.one (.const (.slw 52 1))), true), (.keep, false), (.keep, false), (.keep, false), (.keep, true), (.keep, true), (.keep, true), (.keep, true), (.keep, true), (.keep, false), (.sh (.arr (.int .u8) none), false)]⟩)], [[.int, .int, .int, .int, .lst (.int .u8), .int, .lst (.int .u8)]]⟩), (118, ⟨[], [], [(.normal, ⟨[(15, (.av (.one (.int .u32))))], [(.keep, true), (.keep, true), (.keep, true), (.keep, true), (.keep, true), (.keep, true), (.keep, true), (.keep, true), (.keep, true), (.keep, true), (.keep, true), (.keep, true), (.keep, true), (.keep, true), (.keep, true), (.keep, true), (.keep, true), (.keep, true), (.keep, true), (.keep, true), (.keep, true), (.keep, true), (.keep, false), (.keep, true), (.keep, true), (.keep, true), (.keep, false), (.keep, false), (.keep, true), (.keep, true), (.keep, true), (.keep, true), (.keep, true), (.keep, false), (.keep, true), (.keep, true), (.keep, true), (.keep, true), (.keep, true), (.keep, true), (.keep, true), (.keep, true), (.keep, true), (.keep, false), (.keep, false), (.keep, false), (.keep, true), (.keep, true), (.keep, true), (.keep, true), (.keep, true), (.keep, false), (.keep, false)]⟩)], [[.int]]⟩), (116, ⟨[], [], [(.normal, ⟨[(15, (.av (.one (.int .u32))))], [(.keep, true), (.keep, true), (.keep, true), (.keep, true), (.keep, true), (.keep, true), (.keep, true), (.keep, true), (.keep, true), (.keep, true), (.keep, true), (.keep, true), (.keep, true), (.keep, true), (.keep, true), (.keep, true), (.keep, true), (.keep, true), (.keep, true), (.keep, true), (.keep, true), (.keep, true), (.keep, false), (.keep, true), (.keep, true), (.keep, true), (.keep, false), (.keep, false), (.keep, true), (.keep, true), (.keep, true), (.keep, true), (.keep, true), (.keep, false), (.keep, true), (.keep, true), (.keep, true), (.keep, true), (.keep, true), (.keep, true), (.keep, true), (.keep, true), (.keep, true), (.keep, false), (.keep, false), (.keep, false), (.keep, true), (.keep, true), (.keep, true), (.keep, true), (.keep, true), (.keep, false), (.keep, false)]⟩)], [[.int]]⟩), (132, ⟨[], [29], [(.normal, ⟨[], [(.keep, true), (.keep, true), (.keep, true), (.keep, true), (.keep, true), (.keep, true), (.keep, true), (.keep, true), (.keep, true), (.keep, true), (.keep, true), (.keep, true), (.keep, true), (.keep, true), (.keep, true), (.keep, true), (.keep, true), (.keep, true), (.keep, true), (.keep, true), (.keep, true), (.keep, true), (.keep, false), (.keep, true), (.keep, true), (.keep, true), (.keep, false), (.keep, false), (.keep, true), (.sh (.one (.int .i64)), true), (.keep, true), (.keep, true), (.keep, true), (.keep, false), (.keep, true), (.keep, true), (.keep, true), (.keep, true), (.keep, true), (.keep, true), (.keep, true), (.keep, true), (.keep, true), (.keep, false), (.keep, false), (.keep, false), (.keep, true), (.keep, true), (.keep, true), (.keep, true), (.keep, true), (.keep, false), (.keep, false)]⟩)], [[.int]]⟩), (125, ⟨[], [29, 30, 31], [(.normal, ⟨[], [(.keep, true), (.keep, true), (.keep, true), (.keep, true), (.keep, true), (.keep, true), (.keep, true), (.keep, true), (.keep, true), (.keep, true), (.keep, true), (.keep, true), (.keep, true), (.keep, true), (.keep, true), (.keep, true), (.keep, true), (.keep, true), (.keep, true), (.keep, true), (.keep, true), (.keep, true), (.keep, false), (.keep, true), (.keep, true), (.keep, true), (.keep, false), (.keep, false), (.keep, true), (.sh (.one (.int .i64)), true), (.sh (.one (.int .u32)), true), (.sh (.one (.int .u32)), true), (.keep, true), (.keep, false), (.keep, true), (.keep, true), (.keep, true), (.keep, true), (.keep, true), (.keep, true), (.keep, true), (.keep, true), (.keep, true), (.keep, false), (.keep, false), (.keep, false), (.keep, true), (.keep, true), (.keep, true), (.keep, true), (.keep, true), (.keep, false), (.keep, false)]⟩)], [[.int, .int, .int]]⟩), (121, ⟨[], [29, 30, 31], [(.normal, ⟨[], [(.keep, true), (.keep, true), (.keep, true), (.keep, true), (.keep, true), (.keep, true), (.keep, true), (.keep, true), (.keep, true), (.keep, true), (.keep, true), (.keep, true), (.keep, true), (.keep, true), (.keep, true), (.keep, true), (.keep, true), (.keep, true), (.keep, true), (.keep, true), (.keep, true), (.keep, true), (.keep, false), (.keep, true), (.keep, true), (.keep, true), (.keep, false), (.keep, false), (.keep, true), (.sh (.one (.int .i64)), true), (.sh (.one (.int .u32)), true), (.sh (.one (.int .u32)), true), (.keep, true), (.keep, false), (.keep, true), (.keep, true), (.keep, true), (.keep, true), (.keep, true), (.keep, true), (.keep, true), (.keep, true), (.keep, true), (.keep, false), (.keep, false), (.keep, false), (.keep, true), (.keep, true), (.keep, true), (.keep, true), (.keep, true), (.keep, false), (.keep, false)]⟩)], [[.int, .int, .int]]⟩)], loop := fun k => assoc0 k [], nil := fun k => assoc0 k [], unr := fun k => assocN k [], blk := fun k => assoc0 k [] })]
noncomputable def rpc_Classify_C (N : Nat) : Nat → List GS := fun k => tabOf k [(45, [xdr_NewReader_g N]), (46, [xdr_Reader_Uint_g N]), (47, [rpc_getAuth_g N]), (48, [xdr_Reader_Why_g N]), (34, [rpc_GetCred_g N]), (49, [rpc_rest_g N])]
def rpc_Classify_o : List (Shp × List Nat) := [(⟨[(0, (.av (.agg [(.one (.int .i64)), (.one (.int .u32)), (.one (.int .i64)), (.one (.int .u32)), (.one (.int .u32)), (.one (.int .u32)), (.one (.const .nils)), (.one (.int .u32)), (.one (.int .u32)), (.one (.int .u32)), (.one (.int .u32)), (.one (.int .u32)), (.one (.int .u32)), (.one (.const (.slw 0 1))), (.one (.int .u32)), (.one (.const (.slw 1 1))), (.one (.const (.slw 2 1))), (.one (.int .u32)), (.one (.int .u32)), (.one .str), (.one (.int .u32)), (.one (.int .u32)), (.one (.const (.slw 3 1)))])))], [(.sh (.arr (.int .u8) none), false), (.sh (.arr (.int .u8) none), false), (.sh (.arr (.int .u8) none), false), (.sh (.arr (.int .u32) none), false)]⟩, [])]
noncomputable def rpc_Classify_g (N : Nat) : GS := { ins := ⟨[(0, (.av (.one (.rsl (.int .u8)))))], []⟩, lend := [.lend (.int .u8)], outs := rpc_Classify_o.map fun s => ssOf s.1, its := [.lst (.int .u8)], ots := [((.int : LK) :: (.int : LK) :: (.int : LK) :: (.int : LK) :: (.int : LK) :: (.int : LK) :: (.int : LK) :: (.int : LK) :: (.int : LK) :: (.int : LK) :: (.int : LK) :: (.int : LK) :: (.int : LK) :: (.int : LK) :: (.int : LK) :: (.str : LK) :: (.int : LK) :: (.int : LK) :: (.lst (.int .u8) : LK) :: (.lst (.int .u8) : LK) :: (.lst (.int .u8) : LK) :: (.lst (.int .u32) : LK) :: [])], F := rpc_Classify N }
noncomputable def rpc_Classify_CA (N : Nat) (f0 : (List Int) → Option ((List Int))) (f1 : Int × Int × Int × (List Int) → Option (Int × Int × Int × Int × (List Int))) (f2 : Int × Int × Int × (List Int) → Option (Int × Int × Int × Int × (List Int) × (List Int))) (f3 : Int × Int × Int × (List Int) → Option (Int × Int × Int × Int × Int × (List Int))) (f4 : Int × (List Int) → Option (Int × Int × (List UInt8) × Int × Int × Int × (List Int))) (f5 : (List Int) × Int × Int × Int × (List Int) → Option (Int × Int × Int × (List Int) × (List Int))) : Nat → List GS := fun k => tabOf k [(45, [{ xdr_NewReader_g N with F := f0 }]), (46, [{ xdr_Reader_Uint_g N with F := f1 }]), (47, [{ rpc_getAuth_g N with F := f2 }]), (48, [{ xdr_Reader_Why_g N with F := f3 }]), (34, [{ rpc_GetCred_g N with F := f4 }]), (49, [{ rpc_rest_g N with F := f5 }])]
theorem rpc_Classify_CE (N : Nat) : rpc_Classify_CA N (xdr_NewReader) (xdr_Reader_Uint N) (rpc_getAuth N) (xdr_Reader_Why) (rpc_GetCred N) (rpc_rest) = rpc_Classify_C N := by kernel_rfl
theorem rpc_Classify_t (N : Nat) : TabC Try.prog (rpc_Classify_C N) := tab_ok ⟨⟨xdr_NewReader_ok N, trivial⟩, ⟨xdr_Reader_Uint_ok N, trivial⟩, ⟨rpc_getAuth_ok N, trivial⟩, ⟨xdr_Reader_Why_ok N, trivial⟩, ⟨rpc_GetCred_ok N, trivial⟩, ⟨rpc_rest_ok N, trivial⟩, trivial⟩
theorem rpc_Classify_i : loopsOf rpc_Classify_c = [] := by kernel_rfl
noncomputable def rpc_Classify_a (N : Nat) (f0 : (List Int) → Option ((List Int))) (f1 : Int × Int × Int × (List Int) → Option (Int × Int × Int × Int × (List Int))) (f2 : Int × Int × Int × (List Int) → Option (Int × Int × Int × Int × (List Int) × (List Int))) (f3 : Int × Int × Int × (List Int) → Option (Int × Int × Int × Int × Int × (List Int))) (f4 : Int × (List Int) → Option (Int × Int × (List UInt8) × Int × Int × Int × (List Int))) (f5 : (List Int) × Int × Int × Int × (List Int) → Option (Int × Int × Int × (List Int) × (List Int))) (x : (List Int)) : Option (Int × Int × Int × Int × Int × Int × Int × Int × Int × Int × Int × Int × Int × Int × Int × (List UInt8) × Int × Int × (List Int) × (List Int) × (List Int) × (List Int)) :=
  (Option.bind (f0 x) fun r2 =>
  (Option.bind (f1 ((0 : Int), (0 : Int), (0 : Int), r2)) fun r3 =>
  (Option.bind (f1 (r3.2.1, r3.2.2.1, r3.2.2.2.1, r3.2.2.2.2)) fun r4 =>
  (Option.bind (f1 (r4.2.1, r4.2.2.1, r4.2.2.2.1, r4.2.2.2.2)) fun r5 =>
  (let v6 : Int := (((List.length x) : Nat) : Int)
  (Option.bind
  (cond (decide (v6 < (8 : Int)))
  (some true)
  (cond (!(decide (r4.1 = (0 : Int))))
  (some true)
  (cond (decide (v6 < (24 : Int)))
  (cond (decide (r5.1 = (2 : Int)))
  (some true)
  (some (decide (v6 < (12 : Int)))))
  (some false))))
  fun r12 =>
  (cond r12
  (some ((0 : Int), (0 : Int), (0 : Int), (0 : Int), (0 : Int), (0 : Int), (0 : Int), (0 : Int), (0 : Int), (0 : Int), (0 : Int), (0 : Int), (0 : Int), (0 : Int), (0 : Int), ([] : List UInt8), (0 : Int), (0 : Int), ([] : List Int), ([] : List Int), ([] : List Int), ([] : List Int)))
  (cond (!(decide (r5.1 = (2 : Int))))
  (some ((1 : Int), r3.1, (6 : Int), (2 : Int), (2 : Int), (0 : Int), (0 : Int), (0 : Int), (0 : Int), (0 : Int), (0 : Int), (0 : Int), (0 : Int), (0 : Int), (0 : Int), ([] : List UInt8), (0 : Int), (0 : Int), ([] : List Int), ([] : List Int), ([] : List Int), ([] : List Int)))
  (Option.bind (f1 (r5.2.1, r5.2.2.1, r5.2.2.2.1, r5.2.2.2.2)) fun r16 =>
  (Option.bind (f1 (r16.2.1, r16.2.2.1, r16.2.2.2.1, r16.2.2.2.2)) fun r17 =>
  (Option.bind (f1 (r17.2.1, r17.2.2.1, r17.2.2.2.1, r17.2.2.2.2)) fun r18 =>
  (Option.bind (f2 (r18.2.1, r18.2.2.1, r18.2.2.2.1, r18.2.2.2.2)) fun r19 =>
  (Option.bind (f3 (r19.2.1, r19.2.2.1, r19.2.2.2.1, r19.2.2.2.2.1)) fun r20 =>
  (cond (!(decide (r20.1 = (0 : Int))))
  (some ((1 : Int), r3.1, (7 : Int), (0 : Int), (0 : Int), (1 : Int), (0 : Int), (0 : Int), (0 : Int), (0 : Int), (0 : Int), (0 : Int), (0 : Int), (0 : Int), (0 : Int), ([] : List UInt8), (0 : Int), (0 : Int), ([] : List Int), ([] : List Int), ([] : List Int), ([] : List Int)))
  (Option.bind (f4 (r19.1, r19.2.2.2.2.2)) fun r23 =>
  (Option.bind
  (cond (decide (r23.2.2.2.2.2.1 = (0 : Int)))
  (Option.bind (f2 (r20.2.2.1, r20.2.2.2.1, r20.2.2.2.2.1, r20.2.2.2.2.2)) fun r26 =>
  (Option.bind (f3 (r26.2.1, r26.2.2.1, r26.2.2.2.1, r26.2.2.2.2.1)) fun r27 =>
  (Option.bind
  (cond (!(decide (r27.1 = (0 : Int))))
  (some true)
  (cond (!(decide (r26.1 = (0 : Int))))
  (some true)
  (some (decide ((0 : Int) < (((List.length r26.2.2.2.2.2) : Nat) : Int))))))
  fun r32 =>
  (Option.bind
  (cond r32
  (some (3 : Int))
  (some r23.2.2.2.2.2.1))
  fun r33 =>
  (some (r33, r27.2.2.1, r27.2.2.2.1, r27.2.2.2.2.1, r27.2.2.2.2.2, r26.1, r26.2.2.2.2.2))))))
  (some (r23.2.2.2.2.2.1, r20.2.2.1, r20.2.2.2.1, r20.2.2.2.2.1, r20.2.2.2.2.2, (0 : Int), ([] : List Int))))
  fun r34 =>
  (cond (!(decide (r34.1 = (0 : Int))))
  (some ((1 : Int), r3.1, (7 : Int), (0 : Int), (0 : Int), r34.1, (0 : Int), (0 : Int), (0 : Int), (0 : Int), (0 : Int), (0 : Int), (0 : Int), (0 : Int), (0 : Int), ([] : List UInt8), (0 : Int), (0 : Int), ([] : List Int), ([] : List Int), ([] : List Int), ([] : List Int)))
  (Option.bind
  (cond (decide (r16.1 = (100003 : Int)))
  (some (22 : Int))
  (Option.bind
  (cond (decide (r16.1 = (100005 : Int)))
  (some (4 : Int))
  (some (0 : Int)))
  fun r39 =>
  (some r39)))
  fun r40 =>
  (Option.bind
  (cond (decide (r40 = (0 : Int)))
  (some ((1 : Int), (0 : Int), (0 : Int)))
  (Option.bind
  (cond (!(decide (r17.1 = (3 : Int))))
  (some ((2 : Int), (3 : Int), (3 : Int)))
  (Option.bind
  (cond (decide (r40 ≤ r18.1))
  (some (3 : Int))
  (some (0 : Int)))
  fun r44 =>
  (some (r44, (0 : Int), (0 : Int)))))
  fun r45 =>
  (some (r45.1, r45.2.1, r45.2.2))))
  fun r46 =>
  (cond (!(decide (r46.1 = (0 : Int))))
  (some ((1 : Int), r3.1, r46.1, r46.2.1, r46.2.2, (0 : Int), (0 : Int), (0 : Int), (0 : Int), (0 : Int), (0 : Int), (0 : Int), (0 : Int), (0 : Int), (0 : Int), ([] : List UInt8), (0 : Int), (0 : Int), ([] : List Int), ([] : List Int), ([] : List Int), ([] : List Int)))
  (Option.bind (f5 (x, r34.2.1, r34.2.2.1, r34.2.2.2.1, r34.2.2.2.2.1)) fun r49 =>
  (some ((2 : Int), (0 : Int), (0 : Int), (0 : Int), (0 : Int), (0 : Int), r3.1, r5.1, r16.1, r17.1, r18.1, r19.1, r34.2.2.2.2.2.1, r23.1, r23.2.1, r23.2.2.1, r23.2.2.2.1, r23.2.2.2.2.1, r19.2.2.2.2.2, r34.2.2.2.2.2.2, r49.2.2.2.2, r23.2.2.2.2.2.2)))))))))))))))))))))))
theorem rpc_Classify_f (N : Nat) (f0 : (List Int) → Option ((List Int))) (f1 : Int × Int × Int × (List Int) → Option (Int × Int × Int × Int × (List Int))) (f2 : Int × Int × Int × (List Int) → Option (Int × Int × Int × Int × (List Int) × (List Int))) (f3 : Int × Int × Int × (List Int) → Option (Int × Int × Int × Int × Int × (List Int))) (f4 : Int × (List Int) → Option (Int × Int × (List UInt8) × Int × Int × Int × (List Int))) (f5 : (List Int) × Int × Int × Int × (List Int) → Option (Int × Int × Int × (List Int) × (List Int))) (x) : rpc_Classify_a N f0 f1 f2 f3 f4 f5 x = fnStep Γ (rpc_Classify_CA N f0 f1 f2 f3 f4 f5) (rpc_Classify_J N) 150 Try.f15.results.toList (rpc_Classify_g N) rpc_Classify_o rpc_Classify_c x := by kernel_rfl
theorem rpc_Classify_e (N : Nat) (x) : (rpc_Classify_g N).F x = fnStep Γ (rpc_Classify_C N) (rpc_Classify_J N) 150 Try.f15.results.toList (rpc_Classify_g N) rpc_Classify_o rpc_Classify_c x := by
  rw [← rpc_Classify_CE N]
  exact Eq.trans (by kernel_rfl) (rpc_Classify_f N (xdr_NewReader) (xdr_Reader_Uint N) (rpc_getAuth N) (xdr_Reader_Why) (rpc_GetCred N) (rpc_rest) x)
theorem rpc_Classify_y : Try.f15.body = some rpc_Classify_c := by kernel_rfl
theorem rpc_Classify_n : (Try.f15.name == "runtime.NumGoroutine") = false := by kernel_rfl
theorem rpc_Classify_ok (N : Nat) : FnDoes Try.prog 15 (rpc_Classify_g N) := fn_ok tabOK (rpc_Classify_t N) mixedOK (J := rpc_Classify_J N) (body := rpc_Classify_c) Try.func15 rpc_Classify_y rpc_Classify_n Try.ntmps15 (jok_from rpc_Classify_i ⟨trivial, trivial⟩) rfl rfl (le_of_ble rfl) (rpc_Classify_e N)
noncomputable def granarylaw21_num_c : Code := codeOf Try.f23.body
noncomputable def granarylaw21_num_J (N : Nat) : Nat → Hint := fun cx => hintOf cx []
noncomputable def granarylaw21_num_C (N : Nat) : Nat → List GS := fun k => tabOf k []
def granarylaw21_num_o : List (Shp × List Nat) := [(⟨[(0, (.av (.one (.int .i64))))], []⟩, [])]
noncomputable def granarylaw21_num_g (N : Nat) : GS := { ins := ⟨[(0, (.av (.one (.int .i64))))], []⟩, lend := [.keep], outs := granarylaw21_num_o.map fun s => ssOf s.1, its := [.int], ots := [[.int]], F := granarylaw21_num }
theorem granarylaw21_num_t (N : Nat) : TabC Try.prog (granarylaw21_num_C N) := tab_ok trivial
theorem granarylaw21_num_i : loopsOf granarylaw21_num_c = [] := by kernel_rfl
theorem granarylaw21_num_e (N : Nat) (x) : (granarylaw21_num_g N).F x = fnStep Γ (granarylaw21_num_C N) (granarylaw21_num_J N) 4 Try.f23.results.toList (granarylaw21_num_g N) granarylaw21_num_o granarylaw21_num_c x := by kernel_rfl
theorem granarylaw21_num_y : Try.f23.body = some granarylaw21_num_c := by kernel_rfl
theorem granarylaw21_num_n : (Try.f23.name == "runtime.NumGoroutine") = false := by kernel_rfl
theorem granarylaw21_num_ok (N : Nat) : FnDoes Try.prog 23 (granarylaw21_num_g N) := fn_ok tabOK (granarylaw21_num_t N) mixedOK (J := granarylaw21_num_J N) (body := granarylaw21_num_c) Try.func23 granarylaw21_num_y granarylaw21_num_n Try.ntmps23 (jok_from granarylaw21_num_i trivial) rfl rfl (le_of_ble rfl) (granarylaw21_num_e N)
noncomputable def rpc_Classify_v1_c : Code := codeOf Try.f15.body
noncomputable def rpc_Classify_v1_J (N : Nat) : Nat → Hint := fun cx => hintOf cx [(0, { reg := fun k => assoc0 k [(5, ⟨⟨[(44, (.av (.one .bool)))], [(.keep, true), (.keep, true), (.keep, true), (.keep, true), (.keep, true), (.keep, true), (.keep, true), (.keep, true), (.keep, true), (.keep, true), (.keep, true), (.keep, true), (.keep, true), (.keep, true), (.keep, true), (.keep, true), (.keep, true), (.keep, true), (.keep, true), (.keep, true), (.keep, true), (.keep, true), (.keep, false), (.keep, true), (.keep, true), (.keep, true), (.keep, false), (.keep, false), (.keep, true), (.keep, true), (.keep, true), (.keep, true), (.keep, true), (.keep, false)]⟩, [], [], [.bool]⟩), (21, ⟨⟨[(107, (.av (.one .bool)))], [(.keep, true), (.keep, true), (.keep, true), (.keep, true), (.keep, true), (.keep, true), (.keep, true), (.keep, true), (.keep, true), (.keep, true), (.keep, true), (.keep, true), (.keep, true), (.keep, true), (.keep, true), (.keep, true), (.keep, true), (.keep, true), (.keep, true), (.keep, true), (.keep, true), (.keep, true), (.keep, false), (.keep, true), (.keep, true), (.keep, true), (.keep, false), (.keep, false), (.keep, true), (.keep, true), (.keep, true), (.keep, true), (.keep, true), (.keep, false), (.keep, true), (.keep, true), (.keep, true), (.keep, true), (.keep, true), (.keep, true), (.keep, true), (.keep, true), (.keep, true), (.keep, false), (.keep, false), (.keep, false), (.keep, true), (.keep, true), (.keep, true), (.keep, true), (.keep, true), (.keep, false), (.keep, false)]⟩, [], [], [.bool]⟩)], cnd := fun k => assoc0 k [(107, ⟨[], [], [(.normal, ⟨[(12, (.av (.one (.int .u32))))], [(.keep, true), (.keep, true), (.keep, true), (.keep, true), (.keep, true), (.keep, true), (.keep, true), (.keep, true), (.keep, true), (.keep, true), (.keep, true), (.keep, true), (.keep, true), (.keep, true), (.keep, true), (.keep, true), (.keep, true), (.keep, true), (.keep, true), (.keep, true), (.keep, true), (.keep, true), (.keep, false), (.keep, true), (.keep, true), (.keep, true), (.keep, false), (.keep, false), (.keep, true), (.keep, true), (.keep, true), (.keep, true), (.keep, true), (.keep, false), (.keep, true), (.keep, true), (.keep, true), (.keep, true), (.keep, true), (.keep, true), (.keep, true), (.keep, true), (.keep, true), (.keep, false), (.keep, false), (.keep, false), (.keep, true), (.keep, true), (.keep, true), (.keep, true), (.keep, true), (.keep, false), (.keep, false)]⟩)], [[.int]]⟩), (84, ⟨[], [23, 24, 25, 26, 27, 41, 42], [(.normal, ⟨[(12, (.av (.one (.int .u32))))], [(.keep, true), (.keep, true), (.keep, true), (.keep, true), (.keep, true), (.keep, true), (.keep, true), (.keep, true), (.keep, true), (.keep, true), (.keep, true), (.keep, true), (.keep, true), (.keep, true), (.keep, true), (.keep, true), (.keep, true), (.keep, true), (.keep, true), (.keep, true), (.keep, true), (.keep, true), (.keep, false), (.sh (.one (.const (.slw 27 1))), true), (.sh (.one (.int .i64)), true), (.sh (.one (.int .i64)), true), (.sh (.one (.int .i64)), false), (.sh (.arr (.int .u8) none), false), (.keep, true), (.keep, true), (.keep, true), (.keep, true), (.keep, true), (.keep, false), (.keep, true), (.keep, true), (.keep, true), (.keep, true), (.keep, true), (.keep, true), (.keep, true), (.sh (.one (.int .u32)), true), (.sh (.one (.const (.slw 52 1))), true), (.keep, false), (.keep, false), (.keep, false), (.keep, true), (.keep, true), (.keep, true), (.keep, true), (.keep, true), (.keep, false), (.sh (.arr (.int .u8) none), false)]⟩)], [[.int, .int, .int, .int, .lst (.int .u8), .int, .lst (.int .u8)]]⟩), (118, ⟨[], [], [(.normal, ⟨[(15, (.av (.one (.int .u32))))], [(.keep, true), (.keep, true), (.keep, true), (.keep, true), (.keep, true), (.keep, true), (.keep, true), (.keep, true), (.keep, true), (.keep, true), (.keep, true), (.keep, true), (.keep, true), (.keep, true), (.keep, true), (.keep, true), (.keep, true), (.keep, true), (.keep, true), (.keep, true), (.keep, true), (.keep, true), (.keep, false), (.keep, true), (.keep, true), (.keep, true), (.keep, false), (.keep, false), (.keep, true), (.keep, true), (.keep, true), (.keep, true), (.keep, true), (.keep, false), (.keep, true), (.keep, true), (.keep, true), (.keep, true), (.keep, true), (.keep, true), (.keep, true), (.keep, true), (.keep, true), (.keep, false), (.keep, false), (.keep, false), (.keep, true), (.keep, true), (.keep, true), (.keep, true), (.keep, true), (.keep, false), (.keep, false)]⟩)], [[.int]]⟩), (116, ⟨[], [], [(.normal, ⟨[(15, (.av (.one (.int .u32))))], [(.keep, true), (.keep, true), (.keep, true), (.keep, true), (.keep, true), (.keep, true), (.keep, true), (.keep, true), (.keep, true), (.keep, true), (.keep, true), (.keep, true), (.keep, true), (.keep, true), (.keep, true), (.keep, true), (.keep, true), (.keep, true), (.keep, true), (.keep, true), (.keep, true), (.keep, true), (.keep, false), (.keep, true), (.keep, true), (.keep, true), (.keep, false), (.keep, false), (.keep, true), (.keep, true), (.keep, true), (.keep, true), (.keep, true), (.keep, false), (.keep, true), (.keep, true), (.keep, true), (.keep, true), (.keep, true), (.keep, true), (.keep, true), (.keep, true), (.keep, true), (.keep, false), (.keep, false), (.keep, false), (.keep, true), (.keep, true), (.keep, true), (.keep, true), (.keep, true), (.keep, false), (.keep, false)]⟩)], [[.int]]⟩), (132, ⟨[], [29], [(.normal, ⟨[], [(.keep, true), (.keep, true), (.keep, true), (.keep, true), (.keep, true), (.keep, true), (.keep, true), (.keep, true), (.keep, true), (.keep, true), (.keep, true), (.keep, true), (.keep, true), (.keep, true), (.keep, true), (.keep, true), (.keep, true), (.keep, true), (.keep, true), (.keep, true), (.keep, true), (.keep, true), (.keep, false), (.keep, true), (.keep, true), (.keep, true), (.keep, false), (.keep, false), (.keep, true), (.sh (.one (.int .i64)), true), (.keep, true), (.keep, true), (.keep, true), (.keep, false), (.keep, true), (.keep, true), (.keep, true), (.keep, true), (.keep, true), (.keep, true), (.keep, true), (.keep, true), (.keep, true), (.keep, false), (.keep, false), (.keep, false), (.keep, true), (.keep, true), (.keep, true), (.keep, true), (.keep, true), (.keep, false), (.keep, false)]⟩)], [[.int]]⟩), (125, ⟨[], [29, 30, 31], [(.normal, ⟨[], [(.keep, true), (.keep, true), (.keep, true), (.keep, true), (.keep, true), (.keep, true), (.keep, true), (.keep, true), (.keep, true), (.keep, true), (.keep, true), (.keep, true), (.keep, true), (.keep, true), (.keep, true), (.keep, true), (.keep, true), (.keep, true), (.keep, true), (.keep, true), (.keep, true), (.keep, true), (.keep, false), (.keep, true), (.keep, true), (.keep, true), (.keep, false), (.keep, false), (.keep, true), (.sh (.one (.int .i64)), true), (.sh (.one (.int .u32)), true), (.sh (.one (.int .u32)), true), (.keep, true), (.keep, false), (.keep, true), (.keep, true), (.keep, true), (.keep, true), (.keep, true), (.keep, true), (.keep, true), (.keep, true), (.keep, true), (.keep, false), (.keep, false), (.keep, false), (.keep, true), (.keep, true), (.keep, true), (.keep, true), (.keep, true), (.keep, false), (.keep, false)]⟩)], [[.int, .int, .int]]⟩), (121, ⟨[], [29, 30, 31], [(.normal, ⟨[], [(.keep, true), (.keep, true), (.keep, true), (.keep, true), (.keep, true), (.keep, true), (.keep, true), (.keep, true), (.keep, true), (.keep, true), (.keep, true), (.keep, true), (.keep, true), (.keep, true), (.keep, true), (.keep, true), (.keep, true), (.keep, true), (.keep, true), (.keep, true), (.keep, true), (.keep, true), (.keep, false), (.keep, true), (.keep, true), (.keep, true), (.keep, false), (.keep, false), (.keep, true), (.sh (.one (.int .i64)), true), (.sh (.one (.int .u32)), true), (.sh (.one (.int .u32)), true), (.keep, true), (.keep, false), (.keep, true), (.keep, true), (.keep, true), (.keep, true), (.keep, true), (.keep, true), (.keep, true), (.keep, true), (.keep, true), (.keep, false), (.keep, false), (.keep, false), (.keep, true), (.keep, true), (.keep, true), (.keep, true), (.keep, true), (.keep, false), (.keep, false)]⟩)], [[.int, .int, .int]]⟩)], loop := fun k => assoc0 k [], nil := fun k => assoc0 k [], unr := fun k => assocN k [], blk := fun k => assoc0 k [] })]
noncomputable def rpc_Classify_v1_C (N : Nat) : Nat → List GS := fun k => tabOf k [(45, [xdr_NewReader_g N]), (46, [xdr_Reader_Uint_g N]), (47, [rpc_getAuth_g N]), (48, [xdr_Reader_Why_g N]), (34, [rpc_GetCred_g N]), (49, [rpc_rest_g N])]
def rpc_Classify_v1_o : List (Shp × List Nat) := [(⟨[(0, (.av (.agg [(.one (.int .i64)), (.one (.int .u32)), (.one (.int .i64)), (.one (.int .u32)), (.one (.int .u32)), (.one (.int .u32)), (.one (.const .nils)), (.one (.int .u32)), (.one (.int .u32)), (.one (.int .u32)), (.one (.int .u32)), (.one (.int .u32)), (.one (.int .u32)), (.one (.const (.slw 0 1))), (.one (.int .u32)), (.one (.const (.slw 1 1))), (.one (.const (.slw 2 1))), (.one (.int .u32)), (.one (.int .u32)), (.one .str), (.one (.int .u32)), (.one (.int .u32)), (.one (.const (.slw 3 1)))])))], [(.sh (.arr (.int .u8) none), false), (.sh (.arr (.int .u8) none), false), (.sh (.arr (.int .u8) none), false), (.sh (.arr (.int .u32) none), false)]⟩, [])]
noncomputable def rpc_Classify_v1_g (N : Nat) : GS := { ins := ⟨[(0, (.av (.one (.rsl (.int .u8)))))], []⟩, lend := [.keep], outs := rpc_Classify_v1_o.map fun s => ssOf s.1, its := [.lst (.int .u8)], ots := [((.int : LK) :: (.int : LK) :: (.int : LK) :: (.int : LK) :: (.int : LK) :: (.int : LK) :: (.int : LK) :: (.int : LK) :: (.int : LK) :: (.int : LK) :: (.int : LK) :: (.int : LK) :: (.int : LK) :: (.int : LK) :: (.int : LK) :: (.str : LK) :: (.int : LK) :: (.int : LK) :: (.lst (.int .u8) : LK) :: (.lst (.int .u8) : LK) :: (.lst (.int .u8) : LK) :: (.lst (.int .u32) : LK) :: [])], F := rpc_Classify_v1 N }
noncomputable def rpc_Classify_v1_CA (N : Nat) (f0 : (List Int) → Option ((List Int))) (f1 : Int × Int × Int × (List Int) → Option (Int × Int × Int × Int × (List Int))) (f2 : Int × Int × Int × (List Int) → Option (Int × Int × Int × Int × (List Int) × (List Int))) (f3 : Int × Int × Int × (List Int) → Option (Int × Int × Int × Int × Int × (List Int))) (f4 : Int × (List Int) → Option (Int × Int × (List UInt8) × Int × Int × Int × (List Int))) (f5 : (List Int) × Int × Int × Int × (List Int) → Option (Int × Int × Int × (List Int) × (List Int))) : Nat → List GS := fun k => tabOf k [(45, [{ xdr_NewReader_g N with F := f0 }]), (46, [{ xdr_Reader_Uint_g N with F := f1 }]), (47, [{ rpc_getAuth_g N with F := f2 }]), (48, [{ xdr_Reader_Why_g N with F := f3 }]), (34, [{ rpc_GetCred_g N with F := f4 }]), (49, [{ rpc_rest_g N with F := f5 }])]
theorem rpc_Classify_v1_CE (N : Nat) : rpc_Classify_v1_CA N (xdr_NewReader) (xdr_Reader_Uint N) (rpc_getAuth N) (xdr_Reader_Why) (rpc_GetCred N) (rpc_rest) = rpc_Classify_v1_C N := by kernel_rfl
theorem rpc_Classify_v1_t (N : Nat) : TabC Try.prog (rpc_Classify_v1_C N) := tab_ok ⟨⟨xdr_NewReader_ok N, trivial⟩, ⟨xdr_Reader_Uint_ok N, trivial⟩, ⟨rpc_getAuth_ok N, trivial⟩, ⟨xdr_Reader_Why_ok N, trivial⟩, ⟨rpc_GetCred_ok N, trivial⟩, ⟨rpc_rest_ok N, trivial⟩, trivial⟩
theorem rpc_Classify_v1_i : loopsOf rpc_Classify_v1_c = [] := by kernel_rfl
noncomputable def rpc_Classify_v1_a (N : Nat) (f0 : (List Int) → Option ((List Int))) (f1 : Int × Int × Int × (List Int) → Option (Int × Int × Int × Int × (List Int))) (f2 : Int × Int × Int × (List Int) → Option (Int × Int × Int × Int × (List Int) × (List Int))) (f3 : Int × Int × Int × (List Int) → Option (Int × Int × Int × Int × Int × (List Int))) (f4 : Int × (List Int) → Option (Int × Int × (List UInt8) × Int × Int × Int × (List Int))) (f5 : (List Int) × Int × Int × Int × (List Int) → Option (Int × Int × Int × (List Int) × (List Int))) (x : (List Int)) : Option (Int × Int × Int × Int × Int × Int × Int × Int × Int × Int × Int × Int × Int × Int × Int × (List UInt8) × Int × Int × (List Int) × (List Int) × (List Int) × (List Int)) :=
  (Option.bind (f0 x) fun r2 =>
  (Option.bind (f1 ((0 : Int), (0 : Int), (0 : Int), r2)) fun r3 =>
  (Option.bind (f1 (r3.2.1, r3.2.2.1, r3.2.2.2.1, r3.2.2.2.2)) fun r4 =>
  (Option.bind (f1 (r4.2.1, r4.2.2.1, r4.2.2.2.1, r4.2.2.2.2)) fun r5 =>
  (let v6 : Int := (((List.length x) : Nat) : Int)
  (Option.bind
  (cond (decide (v6 < (8 : Int)))
  (some true)
  (cond (!(decide (r4.1 = (0 : Int))))
  (some true)
  (cond (decide (v6 < (24 : Int)))
  (cond (decide (r5.1 = (2 : Int)))
  (some true)
  (some (decide (v6 < (12 : Int)))))
  (some false))))
  fun r12 =>
  (cond r12
  (some ((0 : Int), (0 : Int), (0 : Int), (0 : Int), (0 : Int), (0 : Int), (0 : Int), (0 : Int), (0 : Int), (0 : Int), (0 : Int), (0 : Int), (0 : Int), (0 : Int), (0 : Int), ([] : List UInt8), (0 : Int), (0 : Int), ([] : List Int), ([] : List Int), ([] : List Int), ([] : List Int)))
  (cond (!(decide (r5.1 = (2 : Int))))
  (some ((1 : Int), r3.1, (6 : Int), (2 : Int), (2 : Int), (0 : Int), (0 : Int), (0 : Int), (0 : Int), (0 : Int), (0 : Int), (0 : Int), (0 : Int), (0 : Int), (0 : Int), ([] : List UInt8), (0 : Int), (0 : Int), ([] : List Int), ([] : List Int), ([] : List Int), ([] : List Int)))
  (Option.bind (f1 (r5.2.1, r5.2.2.1, r5.2.2.2.1, r5.2.2.2.2)) fun r16 =>
  (Option.bind (f1 (r16.2.1, r16.2.2.1, r16.2.2.2.1, r16.2.2.2.2)) fun r17 =>
  (Option.bind (f1 (r17.2.1, r17.2.2.1, r17.2.2.2.1, r17.2.2.2.2)) fun r18 =>
  (Option.bind (f2 (r18.2.1, r18.2.2.1, r18.2.2.2.1, r18.2.2.2.2)) fun r19 =>
  (Option.bind (f3 (r19.2.1, r19.2.2.1, r19.2.2.2.1, r19.2.2.2.2.1)) fun r20 =>
  (cond (!(decide (r20.1 = (0 : Int))))
  (some ((1 : Int), r3.1, (7 : Int), (0 : Int), (0 : Int), (1 : Int), (0 : Int), (0 : Int), (0 : Int), (0 : Int), (0 : Int), (0 : Int), (0 : Int), (0 : Int), (0 : Int), ([] : List UInt8), (0 : Int), (0 : Int), ([] : List Int), ([] : List Int), ([] : List Int), ([] : List Int)))
  (Option.bind (f4 (r19.1, r19.2.2.2.2.2)) fun r23 =>
  (Option.bind
  (cond (decide (r23.2.2.2.2.2.1 = (0 : Int)))
  (Option.bind (f2 (r20.2.2.1, r20.2.2.2.1, r20.2.2.2.2.1, r20.2.2.2.2.2)) fun r26 =>
  (Option.bind (f3 (r26.2.1, r26.2.2.1, r26.2.2.2.1, r26.2.2.2.2.1)) fun r27 =>
  (Option.bind
  (cond (!(decide (r27.1 = (0 : Int))))
  (some true)
  (cond (!(decide (r26.1 = (0 : Int))))
  (some true)
  (some (decide ((0 : Int) < (((List.length r26.2.2.2.2.2) : Nat) : Int))))))
  fun r32 =>
  (Option.bind
  (cond r32
  (some (3 : Int))
  (some r23.2.2.2.2.2.1))
  fun r33 =>
  (some (r33, r27.2.2.1, r27.2.2.2.1, r27.2.2.2.2.1, r27.2.2.2.2.2, r26.1, r26.2.2.2.2.2))))))
  (some (r23.2.2.2.2.2.1, r20.2.2.1, r20.2.2.2.1, r20.2.2.2.2.1, r20.2.2.2.2.2, (0 : Int), ([] : List Int))))
  fun r34 =>
  (cond (!(decide (r34.1 = (0 : Int))))
  (some ((1 : Int), r3.1, (7 : Int), (0 : Int), (0 : Int), r34.1, (0 : Int), (0 : Int), (0 : Int), (0 : Int), (0 : Int), (0 : Int), (0 : Int), (0 : Int), (0 : Int), ([] : List UInt8), (0 : Int), (0 : Int), ([] : List Int), ([] : List Int), ([] : List Int), ([] : List Int)))
  (Option.bind
  (cond (decide (r16.1 = (100003 : Int)))
  (some (22 : Int))
  (Option.bind
  (cond (decide (r16.1 = (100005 : Int)))
  (some (4 : Int))
  (some (0 : Int)))
  fun r39 =>
  (some r39)))
  fun r40 =>
  (Option.bind
  (cond (decide (r40 = (0 : Int)))
  (some ((1 : Int), (0 : Int), (0 : Int)))
  (Option.bind
  (cond (!(decide (r17.1 = (3 : Int))))
  (some ((2 : Int), (3 : Int), (3 : Int)))
  (Option.bind
  (cond (decide (r40 ≤ r18.1))
  (some (3 : Int))
  (some (0 : Int)))
  fun r44 =>
  (some (r44, (0 : Int), (0 : Int)))))
  fun r45 =>
  (some (r45.1, r45.2.1, r45.2.2))))
  fun r46 =>
  (cond (!(decide (r46.1 = (0 : Int))))
  (some ((1 : Int), r3.1, r46.1, r46.2.1, r46.2.2, (0 : Int), (0 : Int), (0 : Int), (0 : Int), (0 : Int), (0 : Int), (0 : Int), (0 : Int), (0 : Int), (0 : Int), ([] : List UInt8), (0 : Int), (0 : Int), ([] : List Int), ([] : List Int), ([] : List Int), ([] : List Int)))
  (Option.bind (f5 (x, r34.2.1, r34.2.2.1, r34.2.2.2.1, r34.2.2.2.2.1)) fun r49 =>
  (some ((2 : Int), (0 : Int), (0 : Int), (0 : Int), (0 : Int), (0 : Int), r3.1, r5.1, r16.1, r17.1, r18.1, r19.1, r34.2.2.2.2.2.1, r23.1, r23.2.1, r23.2.2.1, r23.2.2.2.1, r23.2.2.2.2.1, r19.2.2.2.2.2, r34.2.2.2.2.2.2, r49.2.2.2.2, r23.2.2.2.2.2.2)))))))))))))))))))))))
theorem rpc_Classify_v1_f (N : Nat) (f0 : (List Int) → Option ((List Int))) (f1 : Int × Int × Int × (List Int) → Option (Int × Int × Int × Int × (List Int))) (f2 : Int × Int × Int × (List Int) → Option (Int × Int × Int × Int × (List Int) × (List Int))) (f3 : Int × Int × Int × (List Int) → Option (Int × Int × Int × Int × Int × (List Int))) (f4 : Int × (List Int) → Option (Int × Int × (List UInt8) × Int × Int × Int × (List Int))) (f5 : (List Int) × Int × Int × Int × (List Int) → Option (Int × Int × Int × (List Int) × (List Int))) (x) : rpc_Classify_v1_a N f0 f1 f2 f3 f4 f5 x = fnStep Γ (rpc_Classify_v1_CA N f0 f1 f2 f3 f4 f5) (rpc_Classify_v1_J N) 150 Try.f15.results.toList (rpc_Classify_v1_g N) rpc_Classify_v1_o rpc_Classify_v1_c x := by kernel_rfl
theorem rpc_Classify_v1_e (N : Nat) (x) : (rpc_Classify_v1_g N).F x = fnStep Γ (rpc_Classify_v1_C N) (rpc_Classify_v1_J N) 150 Try.f15.results.toList (rpc_Classify_v1_g N) rpc_Classify_v1_o rpc_Classify_v1_c x := by
  rw [← rpc_Classify_v1_CE N]
  exact Eq.trans (by kernel_rfl) (rpc_Classify_v1_f N (xdr_NewReader) (xdr_Reader_Uint N) (rpc_getAuth N) (xdr_Reader_Why) (rpc_GetCred N) (rpc_rest) x)
theorem rpc_Classify_v1_y : Try.f15.body = some rpc_Classify_v1_c := by kernel_rfl
theorem rpc_Classify_v1_n : (Try.f15.name == "runtime.NumGoroutine") = false := by kernel_rfl
theorem rpc_Classify_v1_ok (N : Nat) : FnDoes Try.prog 15 (rpc_Classify_v1_g N) := fn_ok tabOK (rpc_Classify_v1_t N) mixedOK (J := rpc_Classify_v1_J N) (body := rpc_Classify_v1_c) Try.func15 rpc_Classify_v1_y rpc_Classify_v1_n Try.ntmps15 (jok_from rpc_Classify_v1_i ⟨trivial, trivial⟩) rfl rfl (le_of_ble rfl) (rpc_Classify_v1_e N)
noncomputable def rpc_Frame_c : Code := codeOf Try.f13.body
noncomputable def rpc_Frame_c0 : Code := codeOf (getLoop 0 rpc_Frame_c)
def rpc_Frame_d0 : LD := { ins := ⟨[(0, (.av (.one (.rsl (.int .u8))))), (5, (.av (.one (.const (.slw 0 1))))), (6, (.av (.one (.int .i64)))), (9, (.av (.one (.rsl (.int .i64))))), (10, (.av (.one (.int .i64)))), (11, (.av (.one (.int .i64))))], [(.sh (.arr (.int .u8) none), false)]⟩, mov := [0], wr := [], outs := [(.exit 0, ⟨[(0, (.av (.one (.rsl (.int .u8))))), (5, (.av (.one (.const (.slw 1 1)))))], [(.dead, false), (.sh (.arr (.int .u8) none), false)]⟩)], its := [.lst (.int .u8), .int, .lst (.int .i64), .int, .int, .lst (.int .u8)], ots := [[.lst (.int .u8), .lst (.int .u8)]] }
noncomputable def rpc_Frame_J (N : Nat) : Nat → Hint := fun cx => hintOf cx [(0, { reg := fun k => assoc0 k [(6, ⟨⟨[(26, (.av (.one .bool)))], [(.keep, false)]⟩, [], [], [.bool]⟩)], cnd := fun k => assoc0 k [], loop := fun k => assoc0 k [(0, ⟨rpc_Frame_d0, loopF (rpc_Frame_b0 N) N⟩)], nil := fun k => assoc0 k [], unr := fun k => assocN k [], blk := fun k => assoc0 k [(1, ⟨[0], [], [(.normal, ⟨[(0, (.av (.one (.rsl (.int .u8))))), (5, (.av (.one (.const (.slw 1 1))))), (6, (.av (.one (.int .i64))))], [(.dead, false), (.sh (.arr (.int .u8) none), false)]⟩)], [[.lst (.int .u8), .int, .lst (.int .u8)]]⟩)] })]
noncomputable def rpc_Frame_C (N : Nat) : Nat → List GS := fun k => tabOf k [(43, [octet_Put_g N, octet_Put_v1_g N])]
def rpc_Frame_o : List (Shp × List Nat) := [(⟨[(0, (.av (.one (.const (.slw 0 1)))))], [(.sh (.arr (.int .u8) none), false)]⟩, [])]
noncomputable def rpc_Frame_g (N : Nat) : GS := { ins := ⟨[(0, (.av (.one (.rsl (.int .u8))))), (1, (.av (.one (.rsl (.int .i64)))))], []⟩, lend := [.lend (.int .u8), .lend (.int .i64)], outs := rpc_Frame_o.map fun s => ssOf s.1, its := [.lst (.int .u8), .lst (.int .i64)], ots := [[.lst (.int .u8)]], F := rpc_Frame N }
noncomputable def rpc_Frame_CA (N : Nat) (f0 : Int × Int → Option ((List Int))) (f1 : Int × Int × (List Int) → Option ((List Int))) : Nat → List GS := fun k => tabOf k [(43, [{ octet_Put_g N with F := f0 }, { octet_Put_v1_g N with F := f1 }])]
theorem rpc_Frame_CE (N : Nat) : rpc_Frame_CA N (octet_Put N) (octet_Put_v1 N) = rpc_Frame_C N := by kernel_rfl
theorem rpc_Frame_t (N : Nat) : TabC Try.prog (rpc_Frame_C N) := tab_ok ⟨⟨octet_Put_ok N, octet_Put_v1_ok N, trivial⟩, trivial⟩
theorem rpc_Frame_i0 : loopsOf rpc_Frame_c0 = [] := by kernel_rfl
noncomputable def rpc_Frame_a0 (N : Nat) (f0 : Int × Int → Option ((List Int))) (f1 : Int × Int × (List Int) → Option ((List Int))) (next : (List Int) × Int × (List Int) × Int × Int × (List Int) → Option (((List Int) × (List Int)))) (x : (List Int) × Int × (List Int) × Int × Int × (List Int)) : Option (((List Int) × (List Int))) :=
  (cond (decide (x.2.2.2.2.1 < x.2.2.2.1))
  (Option.bind
  (cond ((decide ((0 : Int) ≤ x.2.2.2.2.1)) && (decide (x.2.2.2.2.1 < (((List.length x.2.2.1) : Nat) : Int))))
  ((let v2 : Int := (List.getD x.2.2.1 (Int.toNat x.2.2.2.2.1) (EK.dflt (.int .i64)))
  (Option.bind
  (cond (decide (v2 ≤ (0 : Int)))
  (some true)
  (cond (decide ((((List.length x.1) : Nat) : Int) ≤ v2))
  (some true)
  (some (decide ((32 : Int) ≤ x.2.1)))))
  fun r7 =>
  (cond r7
  (some (x.1, x.2.1, x.2.2.2.2.2))
  (Option.bind (f1 ((wrapF .u64 v2), (4 : Int), x.2.2.2.2.2)) fun r9 =>
  (cond ((decide ((0 : Int) ≤ v2)) && (decide (v2 ≤ (((List.length x.1) : Nat) : Int))))
  ((let v10 : List Int := (List.take (Int.toNat v2) (List.drop 0 x.1))
  (cond (fits 1 ((List.length r9) + (List.length v10)))
  ((cond (((decide ((0 : Int) ≤ v2)) && (decide (v2 ≤ (((List.length x.1) : Nat) : Int)))) && (decide ((((List.length x.1) : Nat) : Int) ≤ (((List.length x.1) : Nat) : Int))))
  ((some ((List.take ((List.length x.1) - (Int.toNat v2)) (List.drop (Int.toNat v2) x.1)), (wrapF .i64 (x.2.1 + (1 : Int))), (r9 ++ v10))))
  none))
  none)))
  none))))))
  none)
  fun r14 =>
  (next (r14.1, r14.2.1, x.2.2.1, x.2.2.2.1, (wrapF .i64 (x.2.2.2.2.1 + (1 : Int))), r14.2.2)))
  (some (x.1, x.2.2.2.2.2)))
theorem rpc_Frame_f0 (N : Nat) (f0 : Int × Int → Option ((List Int))) (f1 : Int × Int × (List Int) → Option ((List Int))) (next) (x) : rpc_Frame_a0 N f0 f1 next x = loopStep Γ (rpc_Frame_CA N f0 f1) (rpc_Frame_J N) 0 50 rpc_Frame_d0 rpc_Frame_c0 next x := by kernel_rfl
theorem rpc_Frame_e0 (N : Nat) (next) (x) : rpc_Frame_b0 N next x = loopStep Γ (rpc_Frame_C N) (rpc_Frame_J N) 0 50 rpc_Frame_d0 rpc_Frame_c0 next x := by
  rw [← rpc_Frame_CE N]
  exact Eq.trans (by kernel_rfl) (rpc_Frame_f0 N (octet_Put N) (octet_Put_v1 N) next x)
theorem rpc_Frame_k0 (N : Nat) : LoopOK Try.prog 50 rpc_Frame_c0 ⟨rpc_Frame_d0, loopF (rpc_Frame_b0 N) N⟩ := loop_ok tabOK (rpc_Frame_t N) mixedOK (J := rpc_Frame_J N) (cx := 0) (body := rpc_Frame_c0) (nt := 50) (l := rpc_Frame_d0) (b := rpc_Frame_b0 N) (jok_from rpc_Frame_i0 ⟨trivial, trivial⟩) (rpc_Frame_e0 N) N
theorem rpc_Frame_i : loopsOf rpc_Frame_c = [(0, rpc_Frame_c0)] := by kernel_rfl
noncomputable def rpc_Frame_a (N : Nat) (f0 : Int × Int → Option ((List Int))) (f1 : Int × Int × (List Int) → Option ((List Int))) (x : (List Int) × (List Int)) : Option ((List Int)) :=
  (Option.bind (rpc_Frame_l0 N (x.1, (1 : Int), x.2, (((List.length x.2) : Nat) : Int), (0 : Int), ([] : List Int))) fun r2 =>
  (Option.bind (f1 ((wrapF .u64 (orF .u32 (2147483648 : Int) (wrapF .u32 (((List.length r2.1) : Nat) : Int)))), (4 : Int), r2.2)) fun r7 =>
  (cond (fits 1 ((List.length r7) + (List.length r2.1)))
  ((some (r7 ++ r2.1)))
  none)))
theorem rpc_Frame_f (N : Nat) (f0 : Int × Int → Option ((List Int))) (f1 : Int × Int × (List Int) → Option ((List Int))) (x) : rpc_Frame_a N f0 f1 x = fnStep Γ (rpc_Frame_CA N f0 f1) (rpc_Frame_J N) 50 Try.f13.results.toList (rpc_Frame_g N) rpc_Frame_o rpc_Frame_c x := by kernel_rfl
theorem rpc_Frame_e (N : Nat) (x) : (rpc_Frame_g N).F x = fnStep Γ (rpc_Frame_C N) (rpc_Frame_J N) 50 Try.f13.results.toList (rpc_Frame_g N) rpc_Frame_o rpc_Frame_c x := by
  rw [← rpc_Frame_CE N]
  exact Eq.trans (by kernel_rfl) (rpc_Frame_f N (octet_Put N) (octet_Put_v1 N) x)
theorem rpc_Frame_y : Try.f13.body = some rpc_Frame_c := by kernel_rfl
theorem rpc_Frame_n : (Try.f13.name == "runtime.NumGoroutine") = false := by kernel_rfl
theorem rpc_Frame_ok (N : Nat) : FnDoes Try.prog 13 (rpc_Frame_g N) := fn_ok tabOK (rpc_Frame_t N) mixedOK (J := rpc_Frame_J N) (body := rpc_Frame_c) Try.func13 rpc_Frame_y rpc_Frame_n Try.ntmps13 (jok_from rpc_Frame_i ⟨⟨.inr ⟨_, rfl, rpc_Frame_k0 N⟩, trivial⟩, trivial⟩) rfl rfl (le_of_ble rfl) (rpc_Frame_e N)
noncomputable def granarylaw21_live_c : Code := codeOf Try.f12.body
noncomputable def granarylaw21_live_J (N : Nat) : Nat → Hint := fun cx => hintOf cx [(0, { reg := fun k => assoc0 k [(8, ⟨⟨[(0, (.av (.one .bool)))], [(.keep, true), (.keep, true), (.keep, true), (.keep, true), (.keep, true), (.keep, true), (.keep, false), (.dead, false), (.keep, false), (.dead, false), (.dead, false), (.dead, false), (.keep, false), (.keep, false), (.keep, false), (.keep, false), (.keep, false), (.keep, false), (.keep, false), (.keep, false), (.keep, true), (.keep, true), (.keep, true), (.keep, true), (.keep, true), (.keep, true), (.keep, true), (.keep, true), (.keep, true), (.keep, true), (.keep, true), (.keep, true), (.keep, true), (.keep, true), (.keep, true), (.keep, true), (.keep, true), (.keep, true), (.keep, true), (.keep, true), (.keep, true), (.keep, true), (.keep, false)]⟩, [], [], [.bool]⟩)], cnd := fun k => assoc0 k [], loop := fun k => assoc0 k [], nil := fun k => assoc0 k [(15, (.arr 2 .unit)), (21, (.arr 2 .unit))], unr := fun k => assocN k [], blk := fun k => assoc0 k [] })]
noncomputable def granarylaw21_live_C (N : Nat) : Nat → List GS := fun k => tabOf k [(19, [rpc_NewFramer_g N]), (20, [rpc_Framer_Feed_g N, rpc_Framer_Feed_v1_g N]), (27, [rpc_PutCall_g N]), (15, [rpc_Classify_v1_g N, rpc_Classify_g N]), (23, [granarylaw21_num_g N]), (13, [rpc_Frame_g N])]
def granarylaw21_live_o : List (Shp × List Nat) := [(⟨[(0, (.av (.one .bool)))], []⟩, [])]
noncomputable def granarylaw21_live_g (N : Nat) : GS := { ins := ⟨[], []⟩, lend := [], outs := granarylaw21_live_o.map fun s => ssOf s.1, its := [], ots := [[.bool]], F := granarylaw21_live N }
noncomputable def granarylaw21_live_CA (N : Nat) (f0 : Unit → Option (Unit)) (f1 : (List Int) × Int × Bool × Int × Int × Bool → Option (Int × Int × Bool × Int × Int × Bool × (List (List Int)) × (List Int) × (List Int))) (f2 : (List Int) × Int × Bool × Int × Int × Bool × (List Int) × (List Int) → Option (Int × Int × Bool × Int × Int × Bool × (List (List Int)) × (List Int) × (List Int))) (f3 : Int × Int × Int × Int × Int × Int × (List Int) × Int × (List Int) × (List Int) → Option (Int × (List Int))) (f4 : (List Int) → Option (Int × Int × Int × Int × Int × Int × Int × Int × Int × Int × Int × Int × Int × Int × Int × (List UInt8) × Int × Int × (List Int) × (List Int) × (List Int) × (List Int))) (f5 : (List Int) → Option (Int × Int × Int × Int × Int × Int × Int × Int × Int × Int × Int × Int × Int × Int × Int × (List UInt8) × Int × Int × (List Int) × (List Int) × (List Int) × (List Int))) (f6 : Int → Option (Int)) (f7 : (List Int) × (List Int) → Option ((List Int))) : Nat → List GS := fun k => tabOf k [(19, [{ rpc_NewFramer_g N with F := f0 }]), (20, [{ rpc_Framer_Feed_g N with F := f1 }, { rpc_Framer_Feed_v1_g N with F := f2 }]), (27, [{ rpc_PutCall_g N with F := f3 }]), (15, [{ rpc_Classify_v1_g N with F := f4 }, { rpc_Classify_g N with F := f5 }]), (23, [{ granarylaw21_num_g N with F := f6 }]), (13, [{ rpc_Frame_g N with F := f7 }])]
theorem granarylaw21_live_CE (N : Nat) : granarylaw21_live_CA N (rpc_NewFramer) (rpc_Framer_Feed N) (rpc_Framer_Feed_v1 N) (rpc_PutCall N) (rpc_Classify_v1 N) (rpc_Classify N) (granarylaw21_num) (rpc_Frame N) = granarylaw21_live_C N := by kernel_rfl
theorem granarylaw21_live_t (N : Nat) : TabC Try.prog (granarylaw21_live_C N) := tab_ok ⟨⟨rpc_NewFramer_ok N, trivial⟩, ⟨rpc_Framer_Feed_ok N, rpc_Framer_Feed_v1_ok N, trivial⟩, ⟨rpc_PutCall_ok N, trivial⟩, ⟨rpc_Classify_v1_ok N, rpc_Classify_ok N, trivial⟩, ⟨granarylaw21_num_ok N, trivial⟩, ⟨rpc_Frame_ok N, trivial⟩, trivial⟩
theorem granarylaw21_live_i : loopsOf granarylaw21_live_c = [] := by kernel_rfl
noncomputable def granarylaw21_live_a (N : Nat) (f0 : Unit → Option (Unit)) (f1 : (List Int) × Int × Bool × Int × Int × Bool → Option (Int × Int × Bool × Int × Int × Bool × (List (List Int)) × (List Int) × (List Int))) (f2 : (List Int) × Int × Bool × Int × Int × Bool × (List Int) × (List Int) → Option (Int × Int × Bool × Int × Int × Bool × (List (List Int)) × (List Int) × (List Int))) (f3 : Int × Int × Int × Int × Int × Int × (List Int) × Int × (List Int) × (List Int) → Option (Int × (List Int))) (f4 : (List Int) → Option (Int × Int × Int × Int × Int × Int × Int × Int × Int × Int × Int × Int × Int × Int × Int × (List UInt8) × Int × Int × (List Int) × (List Int) × (List Int) × (List Int))) (f5 : (List Int) → Option (Int × Int × Int × Int × Int × Int × Int × Int × Int × Int × Int × Int × Int × Int × Int × (List UInt8) × Int × Int × (List Int) × (List Int) × (List Int) × (List Int))) (f6 : Int → Option (Int)) (f7 : (List Int) × (List Int) → Option ((List Int))) (x : Unit) : Option (Bool) :=
  (Option.bind (f0 ()) fun r1 =>
  (let v2 : List Int := ([(0 : Int), (0 : Int), (0 : Int), (1 : Int), (97 : Int)] : List Int)
  (cond (((decide (5 ≤ (List.length v2))) && true) && true)
  (Option.bind (f1 ((List.take 5 (List.drop 0 v2)), (0 : Int), false, (0 : Int), (0 : Int), false)) fun r3 =>
  (let v4 : List Int := ([(128 : Int), (0 : Int), (0 : Int), (1 : Int), (98 : Int)] : List Int)
  (cond (((decide (5 ≤ (List.length v4))) && true) && true)
  (Option.bind (f2 ((List.take 5 (List.drop 0 v4)), r3.2.1, r3.2.2.1, r3.2.2.2.1, r3.2.2.2.2.1, r3.2.2.2.2.2.1, r3.2.2.2.2.2.2.2.1, r3.2.2.2.2.2.2.2.2)) fun r5 =>
  (Option.bind (f3 ((9 : Int), (2 : Int), (100003 : Int), (3 : Int), (1 : Int), (0 : Int), ([] : List Int), (0 : Int), ([] : List Int), ([] : List Int))) fun r6 =>
  (Option.bind (f5 r6.2) fun r7 =>
  (Option.bind
  (Option.bind (f6 r3.1) fun r9 =>
  (cond (decide (r9 = (0 : Int)))
  (cond (decide ((((List.length r3.2.2.2.2.2.2.1) : Nat) : Int) = (0 : Int)))
  (Option.bind (f6 r5.1) fun r13 =>
  (cond (decide (r13 = (0 : Int)))
  (cond (decide ((((List.length r5.2.2.2.2.2.2.1) : Nat) : Int) = (1 : Int)))
  (cond (decide ((0 : Int) < (((List.length r5.2.2.2.2.2.2.1) : Nat) : Int)))
  ((cond (decide (0 < (List.length r5.2.2.2.2.2.2.1)))
  ((cond (decide ((List.map (fun (n : Int) => UInt8.ofNat n.toNat) (List.getD r5.2.2.2.2.2.2.1 0 (EK.dflt (.sl (.int .u8))))) = ([97, 98] : List UInt8)))
  (Option.bind (f6 r6.1) fun r20 =>
  (cond (decide (r20 = (0 : Int)))
  (cond (decide (r7.1 = (2 : Int)))
  (cond (decide (r7.2.2.2.2.2.2.1 = (9 : Int)))
  (Option.bind (f4 ([] : List Int)) fun r24 =>
  (cond (decide (r24.1 = (0 : Int)))
  (let v26 : List Int := ([(97 : Int), (98 : Int), (99 : Int)] : List Int)
  (let v27 : List Int := ([(1 : Int)] : List Int)
  (cond (cond (decide (3 ≤ (List.length v26))) (cond (decide (1 ≤ (List.length v27))) true false) false)
  (Option.bind (f7 ((List.take 3 (List.drop 0 v26)), (List.take 1 (List.drop 0 v27)))) fun r28 =>
  (some (decide ((List.map (fun (n : Int) => UInt8.ofNat n.toNat) r28) = ([0, 0, 0, 1, 97, 128, 0, 0, 2, 98, 99] : List UInt8)))))
  none)))
  (some false)))
  (some false))
  (some false))
  (some false)))
  (some false)))
  none))
  none)
  (some false))
  (some false)))
  (some false))
  (some false)))
  fun r31 =>
  (some r31)))))
  none)))
  none)))
theorem granarylaw21_live_f (N : Nat) (f0 : Unit → Option (Unit)) (f1 : (List Int) × Int × Bool × Int × Int × Bool → Option (Int × Int × Bool × Int × Int × Bool × (List (List Int)) × (List Int) × (List Int))) (f2 : (List Int) × Int × Bool × Int × Int × Bool × (List Int) × (List Int) → Option (Int × Int × Bool × Int × Int × Bool × (List (List Int)) × (List Int) × (List Int))) (f3 : Int × Int × Int × Int × Int × Int × (List Int) × Int × (List Int) × (List Int) → Option (Int × (List Int))) (f4 : (List Int) → Option (Int × Int × Int × Int × Int × Int × Int × Int × Int × Int × Int × Int × Int × Int × Int × (List UInt8) × Int × Int × (List Int) × (List Int) × (List Int) × (List Int))) (f5 : (List Int) → Option (Int × Int × Int × Int × Int × Int × Int × Int × Int × Int × Int × Int × Int × Int × Int × (List UInt8) × Int × Int × (List Int) × (List Int) × (List Int) × (List Int))) (f6 : Int → Option (Int)) (f7 : (List Int) × (List Int) → Option ((List Int))) (x) : granarylaw21_live_a N f0 f1 f2 f3 f4 f5 f6 f7 x = fnStep Γ (granarylaw21_live_CA N f0 f1 f2 f3 f4 f5 f6 f7) (granarylaw21_live_J N) 85 Try.f12.results.toList (granarylaw21_live_g N) granarylaw21_live_o granarylaw21_live_c x := by kernel_rfl
theorem granarylaw21_live_e (N : Nat) (x) : (granarylaw21_live_g N).F x = fnStep Γ (granarylaw21_live_C N) (granarylaw21_live_J N) 85 Try.f12.results.toList (granarylaw21_live_g N) granarylaw21_live_o granarylaw21_live_c x := by
  rw [← granarylaw21_live_CE N]
  exact Eq.trans (by kernel_rfl) (granarylaw21_live_f N (rpc_NewFramer) (rpc_Framer_Feed N) (rpc_Framer_Feed_v1 N) (rpc_PutCall N) (rpc_Classify_v1 N) (rpc_Classify N) (granarylaw21_num) (rpc_Frame N) x)
theorem granarylaw21_live_y : Try.f12.body = some granarylaw21_live_c := by kernel_rfl
theorem granarylaw21_live_n : (Try.f12.name == "runtime.NumGoroutine") = false := by kernel_rfl
theorem granarylaw21_live_ok (N : Nat) : FnDoes Try.prog 12 (granarylaw21_live_g N) := fn_ok tabOK (granarylaw21_live_t N) mixedOK (J := granarylaw21_live_J N) (body := granarylaw21_live_c) Try.func12 granarylaw21_live_y granarylaw21_live_n Try.ntmps12 (jok_from granarylaw21_live_i ⟨trivial, trivial⟩) rfl rfl (le_of_ble rfl) (granarylaw21_live_e N)
noncomputable def granaryref21_Same_c : Code := codeOf Try.f22.body
noncomputable def granaryref21_Same_c0 : Code := codeOf (getLoop 0 granaryref21_Same_c)
def granaryref21_Same_d0 : LD := { ins := ⟨[(0, (.av (.one (.rsl (.sl (.int .u8)))))), (1, (.av (.one (.rsl (.sl (.int .u8)))))), (5, (.av (.one (.int .i64))))], []⟩, mov := [], wr := [], outs := [(.ret, ⟨[(4, (.av (.one (.const (.bool false)))))], []⟩), (.exit 0, ⟨[], []⟩)], its := [.lst (.sl (.int .u8)), .lst (.sl (.int .u8)), .int], ots := [[], []] }
noncomputable def granaryref21_Same_J (N : Nat) : Nat → Hint := fun cx => hintOf cx [(0, { reg := fun k => assoc0 k [], cnd := fun k => assoc0 k [], loop := fun k => assoc0 k [(0, ⟨granaryref21_Same_d0, loopF (granaryref21_Same_b0 N) N⟩)], nil := fun k => assoc0 k [], unr := fun k => assocN k [], blk := fun k => assoc0 k [] })]
noncomputable def granaryref21_Same_C (N : Nat) : Nat → List GS := fun k => tabOf k []
def granaryref21_Same_o : List (Shp × List Nat) := [(⟨[(0, (.av (.one .bool)))], []⟩, [])]
noncomputable def granaryref21_Same_g (N : Nat) : GS := { ins := ⟨[(0, (.av (.one (.rsl (.sl (.int .u8)))))), (1, (.av (.one (.rsl (.sl (.int .u8))))))], []⟩, lend := [.lend (.sl (.int .u8)), .lend (.sl (.int .u8))], outs := granaryref21_Same_o.map fun s => ssOf s.1, its := [.lst (.sl (.int .u8)), .lst (.sl (.int .u8))], ots := [[.bool]], F := granaryref21_Same N }
theorem granaryref21_Same_t (N : Nat) : TabC Try.prog (granaryref21_Same_C N) := tab_ok trivial
theorem granaryref21_Same_i0 : loopsOf granaryref21_Same_c0 = [] := by kernel_rfl
theorem granaryref21_Same_e0 (N : Nat) (next) (x) : granaryref21_Same_b0 N next x = loopStep Γ (granaryref21_Same_C N) (granaryref21_Same_J N) 0 28 granaryref21_Same_d0 granaryref21_Same_c0 next x := by kernel_rfl
theorem granaryref21_Same_k0 (N : Nat) : LoopOK Try.prog 28 granaryref21_Same_c0 ⟨granaryref21_Same_d0, loopF (granaryref21_Same_b0 N) N⟩ := loop_ok tabOK (granaryref21_Same_t N) mixedOK (J := granaryref21_Same_J N) (cx := 0) (body := granaryref21_Same_c0) (nt := 28) (l := granaryref21_Same_d0) (b := granaryref21_Same_b0 N) (jok_from granaryref21_Same_i0 ⟨trivial, trivial⟩) (granaryref21_Same_e0 N) N
theorem granaryref21_Same_i : loopsOf granaryref21_Same_c = [(0, granaryref21_Same_c0)] := by kernel_rfl
theorem granaryref21_Same_e (N : Nat) (x) : (granaryref21_Same_g N).F x = fnStep Γ (granaryref21_Same_C N) (granaryref21_Same_J N) 28 Try.f22.results.toList (granaryref21_Same_g N) granaryref21_Same_o granaryref21_Same_c x := by kernel_rfl
theorem granaryref21_Same_y : Try.f22.body = some granaryref21_Same_c := by kernel_rfl
theorem granaryref21_Same_n : (Try.f22.name == "runtime.NumGoroutine") = false := by kernel_rfl
theorem granaryref21_Same_ok (N : Nat) : FnDoes Try.prog 22 (granaryref21_Same_g N) := fn_ok tabOK (granaryref21_Same_t N) mixedOK (J := granaryref21_Same_J N) (body := granaryref21_Same_c) Try.func22 granaryref21_Same_y granaryref21_Same_n Try.ntmps22 (jok_from granaryref21_Same_i ⟨⟨.inr ⟨_, rfl, granaryref21_Same_k0 N⟩, trivial⟩, trivial⟩) rfl rfl (le_of_ble rfl) (granaryref21_Same_e N)
noncomputable def rpc_Framer_Closed_v1_c : Code := codeOf Try.f26.body
noncomputable def rpc_Framer_Closed_v1_J (N : Nat) : Nat → Hint := fun cx => hintOf cx [(0, { reg := fun k => assoc0 k [], cnd := fun k => assoc0 k [], loop := fun k => assoc0 k [], nil := fun k => assoc0 k [], unr := fun k => assocN k [], blk := fun k => assoc0 k [] })]
noncomputable def rpc_Framer_Closed_v1_C (N : Nat) : Nat → List GS := fun k => tabOf k []
def rpc_Framer_Closed_v1_o : List (Shp × List Nat) := [(⟨[(0, (.av (.one .bool)))], [(.sh (.one (.const (.slw 7 1))), true), (.sh (.one (.int .i64)), true), (.sh (.one .bool), true), (.sh (.one (.const (.slw 8 1))), true), (.sh (.one (.int .i64)), true), (.sh (.one (.int .i64)), true), (.sh (.one .bool), false), (.sh (.arr (.int .u8) none), false), (.sh (.arr (.int .u8) none), false)]⟩, [])]
noncomputable def rpc_Framer_Closed_v1_g (N : Nat) : GS := { ins := ⟨[(0, (.av (.one (.const (.ptr ⟨0, 0, 0, 0⟩)))))], [(some (.one (.const (.slw 7 1))), true), (some (.one (.int .i64)), true), (some (.one .bool), true), (some (.one (.const (.slw 8 1))), true), (some (.one (.int .i64)), true), (some (.one (.int .i64)), true), (some (.one .bool), false), (some (.arr (.int .u8) none), false), (some (.arr (.int .u8) none), false)]⟩, lend := [.keep], outs := rpc_Framer_Closed_v1_o.map fun s => ssOf s.1, its := [.int, .bool, .int, .int, .bool, .lst (.int .u8), .lst (.int .u8)], ots := [[.bool, .int, .bool, .int, .int, .bool, .lst (.int .u8), .lst (.int .u8)]], F := rpc_Framer_Closed_v1 }
theorem rpc_Framer_Closed_v1_t (N : Nat) : TabC Try.prog (rpc_Framer_Closed_v1_C N) := tab_ok trivial
theorem rpc_Framer_Closed_v1_i : loopsOf rpc_Framer_Closed_v1_c = [] := by kernel_rfl
theorem rpc_Framer_Closed_v1_e (N : Nat) (x) : (rpc_Framer_Closed_v1_g N).F x = fnStep Γ (rpc_Framer_Closed_v1_C N) (rpc_Framer_Closed_v1_J N) 11 Try.f26.results.toList (rpc_Framer_Closed_v1_g N) rpc_Framer_Closed_v1_o rpc_Framer_Closed_v1_c x := by kernel_rfl
theorem rpc_Framer_Closed_v1_y : Try.f26.body = some rpc_Framer_Closed_v1_c := by kernel_rfl
theorem rpc_Framer_Closed_v1_n : (Try.f26.name == "runtime.NumGoroutine") = false := by kernel_rfl
theorem rpc_Framer_Closed_v1_ok (N : Nat) : FnDoes Try.prog 26 (rpc_Framer_Closed_v1_g N) := fn_ok tabOK (rpc_Framer_Closed_v1_t N) mixedOK (J := rpc_Framer_Closed_v1_J N) (body := rpc_Framer_Closed_v1_c) Try.func26 rpc_Framer_Closed_v1_y rpc_Framer_Closed_v1_n Try.ntmps26 (jok_from rpc_Framer_Closed_v1_i ⟨trivial, trivial⟩) rfl rfl (le_of_ble rfl) (rpc_Framer_Closed_v1_e N)
noncomputable def rpc_Framer_Left_v1_c : Code := codeOf Try.f24.body
noncomputable def rpc_Framer_Left_v1_J (N : Nat) : Nat → Hint := fun cx => hintOf cx []
noncomputable def rpc_Framer_Left_v1_C (N : Nat) : Nat → List GS := fun k => tabOf k []
def rpc_Framer_Left_v1_o : List (Shp × List Nat) := [(⟨[(0, (.av (.one (.int .i64))))], [(.sh (.one (.const (.slw 7 1))), true), (.sh (.one (.int .i64)), true), (.sh (.one .bool), true), (.sh (.one (.const (.slw 8 1))), true), (.sh (.one (.int .i64)), true), (.sh (.one (.int .i64)), true), (.sh (.one .bool), false), (.sh (.arr (.int .u8) none), false), (.sh (.arr (.int .u8) none), false)]⟩, [])]
noncomputable def rpc_Framer_Left_v1_g (N : Nat) : GS := { ins := ⟨[(0, (.av (.one (.const (.ptr ⟨0, 0, 0, 0⟩)))))], [(some (.one (.const (.slw 7 1))), true), (some (.one (.int .i64)), true), (some (.one .bool), true), (some (.one (.const (.slw 8 1))), true), (some (.one (.int .i64)), true), (some (.one (.int .i64)), true), (some (.one .bool), false), (some (.arr (.int .u8) none), false), (some (.arr (.int .u8) none), false)]⟩, lend := [.keep], outs := rpc_Framer_Left_v1_o.map fun s => ssOf s.1, its := [.int, .bool, .int, .int, .bool, .lst (.int .u8), .lst (.int .u8)], ots := [[.int, .int, .bool, .int, .int, .bool, .lst (.int .u8), .lst (.int .u8)]], F := rpc_Framer_Left_v1 }
theorem rpc_Framer_Left_v1_t (N : Nat) : TabC Try.prog (rpc_Framer_Left_v1_C N) := tab_ok trivial
theorem rpc_Framer_Left_v1_i : loopsOf rpc_Framer_Left_v1_c = [] := by kernel_rfl
theorem rpc_Framer_Left_v1_e (N : Nat) (x) : (rpc_Framer_Left_v1_g N).F x = fnStep Γ (rpc_Framer_Left_v1_C N) (rpc_Framer_Left_v1_J N) 9 Try.f24.results.toList (rpc_Framer_Left_v1_g N) rpc_Framer_Left_v1_o rpc_Framer_Left_v1_c x := by kernel_rfl
theorem rpc_Framer_Left_v1_y : Try.f24.body = some rpc_Framer_Left_v1_c := by kernel_rfl
theorem rpc_Framer_Left_v1_n : (Try.f24.name == "runtime.NumGoroutine") = false := by kernel_rfl
theorem rpc_Framer_Left_v1_ok (N : Nat) : FnDoes Try.prog 24 (rpc_Framer_Left_v1_g N) := fn_ok tabOK (rpc_Framer_Left_v1_t N) mixedOK (J := rpc_Framer_Left_v1_J N) (body := rpc_Framer_Left_v1_c) Try.func24 rpc_Framer_Left_v1_y rpc_Framer_Left_v1_n Try.ntmps24 (jok_from rpc_Framer_Left_v1_i trivial) rfl rfl (le_of_ble rfl) (rpc_Framer_Left_v1_e N)
end Go.Rf.W
