/-
  The law's printed function is what the program does.
-/
import Derived.Test.YtabkbpilajgcnaaXdrK2
import Derived.Test.YtabkbpilajgcnaaXdrFXdrNil
set_option linter.unusedVariables false
set_option maxRecDepth 100000
namespace Go.Rf.W
open Go Go.Rf Go.Proofs
noncomputable def granarylaw01_XdrNil_c : Code := codeOf Try.f6.body
noncomputable def granarylaw01_XdrNil_J (N : Nat) : Nat → Hint := fun cx => hintOf cx [(0, { reg := fun k => assoc0 k [(16, ⟨⟨[(4, (.av (.one .bool)))], [(.keep, false), (.keep, false)]⟩, [], [], [.bool]⟩)], cnd := fun k => assoc0 k [], loop := fun k => assoc0 k [], nil := fun k => assoc0 k [], unr := fun k => assocN k [], blk := fun k => assoc0 k [] })]
noncomputable def granarylaw01_XdrNil_C (N : Nat) : Nat → List GS := fun k => tabOf k [(8, [granarylaw01_live_g N]), (27, [xdr_Writer_Uint_v2_g N]), (28, [xdr_Writer_Int_g N]), (29, [xdr_Writer_Hyper_g N]), (15, [xdr_Writer_Bool_g N]), (30, [xdr_Writer_Fixed_v1_g N]), (44, [xdr_Writer_Opaque_v1_g N]), (18, [xdr_Writer_Text_v1_g N]), (31, [xdr_PutList_uint32_g N]), (23, [xdr_PutChain_string_g N]), (33, [xdr_PutOption_uint32_g N]), (25, [xdr_Reader_Why_v1_g N]), (13, [xdr_Writer_Why_g N]), (12, [granarylaw01_num_g N]), (11, [xdr_Writer_Bytes_v1_g N]), (34, [xdr_Reader_Uint_v1_g N]), (35, [xdr_Reader_Int_g N]), (36, [xdr_Reader_Hyper_g N]), (16, [xdr_Reader_Bool_v1_g N]), (45, [xdr_Reader_Enum_g N]), (37, [xdr_Reader_Fixed_g N]), (46, [xdr_Reader_Opaque_v1_g N]), (17, [xdr_Reader_Text_v1_g N]), (26, [xdr_Reader_At_v1_g N]), (47, [xdr_Reader_Left_g N]), (43, [xdr_Reader_Done_v1_g N]), (39, [xdr_List_uint32_g N]), (24, [xdr_Chain_string_g N]), (42, [xdr_Option_uint32_g N])]
def granarylaw01_XdrNil_o : List (Shp × List Nat) := [(⟨[(0, (.av (.one .bool)))], []⟩, [])]
noncomputable def granarylaw01_XdrNil_g (N : Nat) : GS := { ins := ⟨[(0, (.av (.one (.rsl (.int .u8))))), (1, (.av (.one (.int .i64))))], []⟩, lend := [.keep, .keep], outs := granarylaw01_XdrNil_o.map fun s => ssOf s.1, its := [.lst (.int .u8), .int], ots := [[.bool]], F := granarylaw01_XdrNil N }
noncomputable def granarylaw01_XdrNil_CA (N : Nat) (f0 : Unit → Option (Bool)) (f1 : Int → Option (Unit)) (f2 : Int → Option (Unit)) (f3 : Int → Option (Unit)) (f4 : Bool → Option (Unit)) (f5 : (List Int) → Option (Unit)) (f6 : (List Int) × Int → Option (Unit)) (f7 : (List UInt8) × Int → Option (Unit)) (f8 : (List Int) × Int → Option (Unit)) (f9 : (List (List UInt8)) → Option (Unit)) (f10 : Unit → Option (Unit)) (f11 : Unit → Option (Unit)) (f12 : Unit → Option (Unit)) (f13 : Int → Option (Int)) (f14 : Unit → Option (Unit)) (f15 : Unit → Option (Unit)) (f16 : Unit → Option (Unit)) (f17 : Unit → Option (Unit)) (f18 : Unit → Option (Unit)) (f19 : Int → Option (Unit)) (f20 : Int → Option (Unit)) (f21 : Int → Option (Unit)) (f22 : Int → Option ((List UInt8))) (f23 : Unit → Option (Unit)) (f24 : Unit → Option (Unit)) (f25 : Unit → Option (Unit)) (f26 : Int → Option (Unit)) (f27 : Int → Option (Unit)) (f28 : Unit → Option (Unit)) : Nat → List GS := fun k => tabOf k [(8, [{ granarylaw01_live_g N with F := f0 }]), (27, [{ xdr_Writer_Uint_v2_g N with F := f1 }]), (28, [{ xdr_Writer_Int_g N with F := f2 }]), (29, [{ xdr_Writer_Hyper_g N with F := f3 }]), (15, [{ xdr_Writer_Bool_g N with F := f4 }]), (30, [{ xdr_Writer_Fixed_v1_g N with F := f5 }]), (44, [{ xdr_Writer_Opaque_v1_g N with F := f6 }]), (18, [{ xdr_Writer_Text_v1_g N with F := f7 }]), (31, [{ xdr_PutList_uint32_g N with F := f8 }]), (23, [{ xdr_PutChain_string_g N with F := f9 }]), (33, [{ xdr_PutOption_uint32_g N with F := f10 }]), (25, [{ xdr_Reader_Why_v1_g N with F := f11 }]), (13, [{ xdr_Writer_Why_g N with F := f12 }]), (12, [{ granarylaw01_num_g N with F := f13 }]), (11, [{ xdr_Writer_Bytes_v1_g N with F := f14 }]), (34, [{ xdr_Reader_Uint_v1_g N with F := f15 }]), (35, [{ xdr_Reader_Int_g N with F := f16 }]), (36, [{ xdr_Reader_Hyper_g N with F := f17 }]), (16, [{ xdr_Reader_Bool_v1_g N with F := f18 }]), (45, [{ xdr_Reader_Enum_g N with F := f19 }]), (37, [{ xdr_Reader_Fixed_g N with F := f20 }]), (46, [{ xdr_Reader_Opaque_v1_g N with F := f21 }]), (17, [{ xdr_Reader_Text_v1_g N with F := f22 }]), (26, [{ xdr_Reader_At_v1_g N with F := f23 }]), (47, [{ xdr_Reader_Left_g N with F := f24 }]), (43, [{ xdr_Reader_Done_v1_g N with F := f25 }]), (39, [{ xdr_List_uint32_g N with F := f26 }]), (24, [{ xdr_Chain_string_g N with F := f27 }]), (42, [{ xdr_Option_uint32_g N with F := f28 }])]
theorem granarylaw01_XdrNil_CE (N : Nat) : granarylaw01_XdrNil_CA N (granarylaw01_live N) (xdr_Writer_Uint_v2) (xdr_Writer_Int) (xdr_Writer_Hyper) (xdr_Writer_Bool) (xdr_Writer_Fixed_v1) (xdr_Writer_Opaque_v1) (xdr_Writer_Text_v1) (xdr_PutList_uint32) (xdr_PutChain_string) (xdr_PutOption_uint32) (xdr_Reader_Why_v1) (xdr_Writer_Why) (granarylaw01_num) (xdr_Writer_Bytes_v1) (xdr_Reader_Uint_v1) (xdr_Reader_Int) (xdr_Reader_Hyper) (xdr_Reader_Bool_v1) (xdr_Reader_Enum) (xdr_Reader_Fixed) (xdr_Reader_Opaque_v1) (xdr_Reader_Text_v1) (xdr_Reader_At_v1) (xdr_Reader_Left) (xdr_Reader_Done_v1) (xdr_List_uint32 N) (xdr_Chain_string N) (xdr_Option_uint32) = granarylaw01_XdrNil_C N := by kernel_rfl
theorem granarylaw01_XdrNil_t (N : Nat) : TabC Try.prog (granarylaw01_XdrNil_C N) := tab_ok ⟨⟨granarylaw01_live_ok N, trivial⟩, ⟨xdr_Writer_Uint_v2_ok N, trivial⟩, ⟨xdr_Writer_Int_ok N, trivial⟩, ⟨xdr_Writer_Hyper_ok N, trivial⟩, ⟨xdr_Writer_Bool_ok N, trivial⟩, ⟨xdr_Writer_Fixed_v1_ok N, trivial⟩, ⟨xdr_Writer_Opaque_v1_ok N, trivial⟩, ⟨xdr_Writer_Text_v1_ok N, trivial⟩, ⟨xdr_PutList_uint32_ok N, trivial⟩, ⟨xdr_PutChain_string_ok N, trivial⟩, ⟨xdr_PutOption_uint32_ok N, trivial⟩, ⟨xdr_Reader_Why_v1_ok N, trivial⟩, ⟨xdr_Writer_Why_ok N, trivial⟩, ⟨granarylaw01_num_ok N, trivial⟩, ⟨xdr_Writer_Bytes_v1_ok N, trivial⟩, ⟨xdr_Reader_Uint_v1_ok N, trivial⟩, ⟨xdr_Reader_Int_ok N, trivial⟩, ⟨xdr_Reader_Hyper_ok N, trivial⟩, ⟨xdr_Reader_Bool_v1_ok N, trivial⟩, ⟨xdr_Reader_Enum_ok N, trivial⟩, ⟨xdr_Reader_Fixed_ok N, trivial⟩, ⟨xdr_Reader_Opaque_v1_ok N, trivial⟩, ⟨xdr_Reader_Text_v1_ok N, trivial⟩, ⟨xdr_Reader_At_v1_ok N, trivial⟩, ⟨xdr_Reader_Left_ok N, trivial⟩, ⟨xdr_Reader_Done_v1_ok N, trivial⟩, ⟨xdr_List_uint32_ok N, trivial⟩, ⟨xdr_Chain_string_ok N, trivial⟩, ⟨xdr_Option_uint32_ok N, trivial⟩, trivial⟩
theorem granarylaw01_XdrNil_i : loopsOf granarylaw01_XdrNil_c = [] := by kernel_rfl
def granarylaw01_XdrNil_a (N : Nat) (f0 : Unit → Option (Bool)) (f1 : Int → Option (Unit)) (f2 : Int → Option (Unit)) (f3 : Int → Option (Unit)) (f4 : Bool → Option (Unit)) (f5 : (List Int) → Option (Unit)) (f6 : (List Int) × Int → Option (Unit)) (f7 : (List UInt8) × Int → Option (Unit)) (f8 : (List Int) × Int → Option (Unit)) (f9 : (List (List UInt8)) → Option (Unit)) (f10 : Unit → Option (Unit)) (f11 : Unit → Option (Unit)) (f12 : Unit → Option (Unit)) (f13 : Int → Option (Int)) (f14 : Unit → Option (Unit)) (f15 : Unit → Option (Unit)) (f16 : Unit → Option (Unit)) (f17 : Unit → Option (Unit)) (f18 : Unit → Option (Unit)) (f19 : Int → Option (Unit)) (f20 : Int → Option (Unit)) (f21 : Int → Option (Unit)) (f22 : Int → Option ((List UInt8))) (f23 : Unit → Option (Unit)) (f24 : Unit → Option (Unit)) (f25 : Unit → Option (Unit)) (f26 : Int → Option (Unit)) (f27 : Int → Option (Unit)) (f28 : Unit → Option (Unit)) (x : (List Int) × Int) : Option (Bool) :=
  (cond (decide ((60000 : Int) < (((List.length x.1) : Nat) : Int)))
  (Option.bind (f0 ()) fun r3 =>
  (some r3))
  (Option.bind (f1 (1 : Int)) fun r4 =>
  (Option.bind (f2 (1 : Int)) fun r5 =>
  (Option.bind (f3 (1 : Int)) fun r6 =>
  (Option.bind (f4 true) fun r7 =>
  (Option.bind (f5 x.1) fun r8 =>
  (Option.bind (f6 (x.1, x.2)) fun r9 =>
  (Option.bind (f7 ((List.map (fun (n : Int) => UInt8.ofNat n.toNat) x.1), x.2)) fun r11 =>
  (let v12 : List Int := ([(1 : Int)] : List Int)
  (cond (cond (decide (1 ≤ (List.length v12))) true false)
  (Option.bind (f8 ((List.take 1 (List.drop 0 v12)), x.2)) fun r13 =>
  (let v14 : List (List UInt8) := ([([97] : List UInt8)] : List (List UInt8))
  (cond (cond (decide (1 ≤ (List.length v14))) true false)
  (Option.bind (f9 (List.take 1 (List.drop 0 v14))) fun r15 =>
  (Option.bind (f10 ()) fun r16 =>
  (Option.bind (f11 ()) fun r17 =>
  (Option.bind
  (Option.bind (f12 ()) fun r18 =>
  (Option.bind (f13 (0 : Int)) fun r19 =>
  (cond (decide (r19 = (0 : Int)))
  (Option.bind (f14 ()) fun r21 =>
  (Option.bind (f15 ()) fun r22 =>
  (Option.bind (f16 ()) fun r23 =>
  (Option.bind (f17 ()) fun r24 =>
  (Option.bind (f18 ()) fun r25 =>
  (Option.bind (f19 (1 : Int)) fun r26 =>
  (Option.bind (f20 x.2) fun r27 =>
  (Option.bind (f21 x.2) fun r28 =>
  (Option.bind (f22 x.2) fun r29 =>
  (cond (decide (r29 = ([] : List UInt8)))
  (Option.bind (f23 ()) fun r31 =>
  (Option.bind (f24 ()) fun r32 =>
  (Option.bind (f13 (0 : Int)) fun r33 =>
  (cond (decide (r33 = (0 : Int)))
  (Option.bind (f25 ()) fun r35 =>
  (Option.bind (f13 (0 : Int)) fun r36 =>
  (cond (decide (r36 = (0 : Int)))
  (Option.bind (f26 x.2) fun r38 =>
  (Option.bind (f27 x.2) fun r39 =>
  (Option.bind (f28 ()) fun r40 =>
  (Option.bind (f0 ()) fun r41 =>
  (some r41)))))
  (some false))))
  (some false)))))
  (some false)))))))))))
  (some false))))
  fun r42 =>
  (some r42)))))
  none)))
  none))))))))))
theorem granarylaw01_XdrNil_f (N : Nat) (f0 : Unit → Option (Bool)) (f1 : Int → Option (Unit)) (f2 : Int → Option (Unit)) (f3 : Int → Option (Unit)) (f4 : Bool → Option (Unit)) (f5 : (List Int) → Option (Unit)) (f6 : (List Int) × Int → Option (Unit)) (f7 : (List UInt8) × Int → Option (Unit)) (f8 : (List Int) × Int → Option (Unit)) (f9 : (List (List UInt8)) → Option (Unit)) (f10 : Unit → Option (Unit)) (f11 : Unit → Option (Unit)) (f12 : Unit → Option (Unit)) (f13 : Int → Option (Int)) (f14 : Unit → Option (Unit)) (f15 : Unit → Option (Unit)) (f16 : Unit → Option (Unit)) (f17 : Unit → Option (Unit)) (f18 : Unit → Option (Unit)) (f19 : Int → Option (Unit)) (f20 : Int → Option (Unit)) (f21 : Int → Option (Unit)) (f22 : Int → Option ((List UInt8))) (f23 : Unit → Option (Unit)) (f24 : Unit → Option (Unit)) (f25 : Unit → Option (Unit)) (f26 : Int → Option (Unit)) (f27 : Int → Option (Unit)) (f28 : Unit → Option (Unit)) (x) : granarylaw01_XdrNil_a N f0 f1 f2 f3 f4 f5 f6 f7 f8 f9 f10 f11 f12 f13 f14 f15 f16 f17 f18 f19 f20 f21 f22 f23 f24 f25 f26 f27 f28 x = fnStep Γ (granarylaw01_XdrNil_CA N f0 f1 f2 f3 f4 f5 f6 f7 f8 f9 f10 f11 f12 f13 f14 f15 f16 f17 f18 f19 f20 f21 f22 f23 f24 f25 f26 f27 f28) (granarylaw01_XdrNil_J N) 149 Try.f6.results.toList (granarylaw01_XdrNil_g N) granarylaw01_XdrNil_o granarylaw01_XdrNil_c x := by kernel_rfl
theorem granarylaw01_XdrNil_e (N : Nat) (x) : (granarylaw01_XdrNil_g N).F x = fnStep Γ (granarylaw01_XdrNil_C N) (granarylaw01_XdrNil_J N) 149 Try.f6.results.toList (granarylaw01_XdrNil_g N) granarylaw01_XdrNil_o granarylaw01_XdrNil_c x := by
  rw [← granarylaw01_XdrNil_CE N]
  exact Eq.trans (by kernel_rfl) (granarylaw01_XdrNil_f N (granarylaw01_live N) (xdr_Writer_Uint_v2) (xdr_Writer_Int) (xdr_Writer_Hyper) (xdr_Writer_Bool) (xdr_Writer_Fixed_v1) (xdr_Writer_Opaque_v1) (xdr_Writer_Text_v1) (xdr_PutList_uint32) (xdr_PutChain_string) (xdr_PutOption_uint32) (xdr_Reader_Why_v1) (xdr_Writer_Why) (granarylaw01_num) (xdr_Writer_Bytes_v1) (xdr_Reader_Uint_v1) (xdr_Reader_Int) (xdr_Reader_Hyper) (xdr_Reader_Bool_v1) (xdr_Reader_Enum) (xdr_Reader_Fixed) (xdr_Reader_Opaque_v1) (xdr_Reader_Text_v1) (xdr_Reader_At_v1) (xdr_Reader_Left) (xdr_Reader_Done_v1) (xdr_List_uint32 N) (xdr_Chain_string N) (xdr_Option_uint32) x)
theorem granarylaw01_XdrNil_y : Try.f6.body = some granarylaw01_XdrNil_c := by kernel_rfl
theorem granarylaw01_XdrNil_n : (Try.f6.name == "runtime.NumGoroutine") = false := by kernel_rfl
theorem granarylaw01_XdrNil_ok (N : Nat) : FnDoes Try.prog 6 (granarylaw01_XdrNil_g N) := fn_ok tabOK (granarylaw01_XdrNil_t N) mixedOK (J := granarylaw01_XdrNil_J N) (body := granarylaw01_XdrNil_c) Try.func6 granarylaw01_XdrNil_y granarylaw01_XdrNil_n Try.ntmps6 (jok_from granarylaw01_XdrNil_i ⟨trivial, trivial⟩) rfl rfl (le_of_ble rfl) (granarylaw01_XdrNil_e N)
end Go.Rf.W
