/-
  The law's printed function is what the program does.
-/
import Derived.Test.YtabkbpilajgcnaaXdrK2
import Derived.Test.YtabkbpilajgcnaaXdrFXdrOne
set_option linter.unusedVariables false
set_option maxRecDepth 100000
namespace Go.Rf.W
open Go Go.Rf Go.Proofs
noncomputable def granarylaw01_XdrOne_c : Code := codeOf Try.f4.body
noncomputable def granarylaw01_XdrOne_c0 : Code := codeOf (getLoop 0 granarylaw01_XdrOne_c)
def granarylaw01_XdrOne_d0 : LD := { ins := ⟨[(0, (.av (.one (.rsl (.int .u8))))), (1, (.av (.one (.int .i64)))), (5, (.av (.one (.int .i64))))], []⟩, mov := [], wr := [], outs := [(.ret, ⟨[(4, (.av (.one (.const (.bool false)))))], []⟩), (.exit 0, ⟨[], []⟩)], its := [.lst (.int .u8), .int, .int], ots := [[], []] }
noncomputable def granarylaw01_XdrOne_J (N : Nat) : Nat → Hint := fun cx => hintOf cx [(0, { reg := fun k => assoc0 k [(22, ⟨⟨[(94, (.av (.one .bool)))], [(.sh (.one (.const (.slw 4 1))), true), (.sh (.one (.int .i64)), true), (.sh (.one (.int .i64)), true), (.sh (.one (.int .i64)), false), (.sh (.arr (.int .u8) none), false), (.sh (.one (.const (.slw 7 1))), true), (.sh (.one (.int .i64)), false), (.sh (.arr (.int .u8) none), false)]⟩, [], [0, 1, 2, 3, 4, 5, 6, 7], [.bool, .int, .int, .int, .lst (.int .u8), .int, .lst (.int .u8)]⟩)], cnd := fun k => assoc0 k [(56, ⟨[], [0, 1, 2, 3, 4, 5, 6], [(.normal, ⟨[], [(.sh (.one (.const (.slw 4 1))), true), (.sh (.one (.int .i64)), true), (.sh (.one (.int .i64)), true), (.sh (.one (.int .i64)), false), (.sh (.arr (.int .u8) none), false), (.sh (.one (.const (.slw 7 1))), true), (.sh (.one (.int .i64)), false), (.sh (.arr (.int .u8) none), false)]⟩)], [[.int, .int, .int, .lst (.int .u8), .int, .lst (.int .u8)]]⟩), (46, ⟨[], [0, 1, 2, 3, 4, 5, 6], [(.normal, ⟨[], [(.sh (.one (.const (.slw 4 1))), true), (.sh (.one (.int .i64)), true), (.sh (.one (.int .i64)), true), (.sh (.one (.int .i64)), false), (.sh (.arr (.int .u8) none), false), (.sh (.one (.const (.slw 7 1))), true), (.sh (.one (.int .i64)), false), (.sh (.arr (.int .u8) none), false)]⟩)], [[.int, .int, .int, .lst (.int .u8), .int, .lst (.int .u8)]]⟩), (36, ⟨[], [0, 1, 2, 3, 4, 5, 6], [(.normal, ⟨[], [(.sh (.one (.const (.slw 4 1))), true), (.sh (.one (.int .i64)), true), (.sh (.one (.int .i64)), true), (.sh (.one (.int .i64)), false), (.sh (.arr (.int .u8) none), false), (.sh (.one (.const (.slw 7 1))), true), (.sh (.one (.int .i64)), false), (.sh (.arr (.int .u8) none), false)]⟩)], [[.int, .int, .int, .lst (.int .u8), .int, .lst (.int .u8)]]⟩), (30, ⟨[], [0, 1, 2, 3, 4, 5, 6], [(.normal, ⟨[], [(.sh (.one (.const (.slw 4 1))), true), (.sh (.one (.int .i64)), true), (.sh (.one (.int .i64)), true), (.sh (.one (.int .i64)), false), (.sh (.arr (.int .u8) none), false), (.sh (.one (.const (.slw 7 1))), true), (.sh (.one (.int .i64)), false), (.sh (.arr (.int .u8) none), false)]⟩)], [[.int, .int, .int, .lst (.int .u8), .int, .lst (.int .u8)]]⟩)], loop := fun k => assoc0 k [(0, ⟨granarylaw01_XdrOne_d0, loopF (granarylaw01_XdrOne_b0 N) N⟩)], nil := fun k => assoc0 k [], unr := fun k => assocN k [], blk := fun k => assoc0 k [] })]
noncomputable def granarylaw01_XdrOne_C (N : Nat) : Nat → List GS := fun k => tabOf k [(8, [granarylaw01_live_g N]), (14, [xdr_NewReader_v1_g N]), (9, [xdr_NewWriter_g N]), (16, [xdr_Reader_Bool_g N]), (15, [xdr_Writer_Bool_v1_g N]), (25, [xdr_Reader_Why_g N]), (12, [granarylaw01_num_g N]), (13, [xdr_Writer_Why_v1_g N]), (26, [xdr_Reader_At_g N]), (11, [xdr_Writer_Bytes_g N]), (17, [xdr_Reader_Text_g N]), (18, [xdr_Writer_Text_v2_g N]), (19, [xdr_List_string_g N]), (21, [xdr_PutList_string_g N]), (24, [xdr_Chain_string_v1_g N]), (23, [xdr_PutChain_string_v1_g N])]
def granarylaw01_XdrOne_o : List (Shp × List Nat) := [(⟨[(0, (.av (.one .bool)))], []⟩, [])]
noncomputable def granarylaw01_XdrOne_g (N : Nat) : GS := { ins := ⟨[(0, (.av (.one (.rsl (.int .u8))))), (1, (.av (.one (.int .i64))))], []⟩, lend := [.keep, .keep], outs := granarylaw01_XdrOne_o.map fun s => ssOf s.1, its := [.lst (.int .u8), .int], ots := [[.bool]], F := granarylaw01_XdrOne N }
noncomputable def granarylaw01_XdrOne_CA (N : Nat) (f0 : Unit → Option (Bool)) (f1 : (List Int) → Option ((List Int))) (f2 : Unit → Option (Unit)) (f3 : Int × Int × Int × (List Int) → Option (Bool × Int × Int × Int × (List Int))) (f4 : Bool × Int → Option (Int × (List Int))) (f5 : Int × Int × Int × (List Int) → Option (Int × Int × Int × Int × Int × (List Int))) (f6 : Int → Option (Int)) (f7 : Int × (List Int) → Option (Int × Int × (List Int))) (f8 : Int × Int × Int × (List Int) → Option (Int × Int × Int × Int × (List Int))) (f9 : Int × (List Int) → Option (Int × (List Int) × (List Int))) (f10 : Int × Int × Int × Int × (List Int) → Option ((List UInt8) × Int × Int × Int × (List Int))) (f11 : (List UInt8) × Int × Int → Option (Int × (List Int))) (f12 : Int × Int × Int × Int × (List Int) → Option (Int × Int × Int × (List Int) × (List (List UInt8)))) (f13 : (List (List UInt8)) × Int × Int → Option (Int × (List Int))) (f14 : Int × Int × Int × Int × (List Int) → Option (Int × Int × Int × (List Int) × (List (List UInt8)))) (f15 : (List (List UInt8)) × Int → Option (Int × (List Int))) : Nat → List GS := fun k => tabOf k [(8, [{ granarylaw01_live_g N with F := f0 }]), (14, [{ xdr_NewReader_v1_g N with F := f1 }]), (9, [{ xdr_NewWriter_g N with F := f2 }]), (16, [{ xdr_Reader_Bool_g N with F := f3 }]), (15, [{ xdr_Writer_Bool_v1_g N with F := f4 }]), (25, [{ xdr_Reader_Why_g N with F := f5 }]), (12, [{ granarylaw01_num_g N with F := f6 }]), (13, [{ xdr_Writer_Why_v1_g N with F := f7 }]), (26, [{ xdr_Reader_At_g N with F := f8 }]), (11, [{ xdr_Writer_Bytes_g N with F := f9 }]), (17, [{ xdr_Reader_Text_g N with F := f10 }]), (18, [{ xdr_Writer_Text_v2_g N with F := f11 }]), (19, [{ xdr_List_string_g N with F := f12 }]), (21, [{ xdr_PutList_string_g N with F := f13 }]), (24, [{ xdr_Chain_string_v1_g N with F := f14 }]), (23, [{ xdr_PutChain_string_v1_g N with F := f15 }])]
theorem granarylaw01_XdrOne_CE (N : Nat) : granarylaw01_XdrOne_CA N (granarylaw01_live N) (xdr_NewReader_v1) (xdr_NewWriter) (xdr_Reader_Bool N) (xdr_Writer_Bool_v1 N) (xdr_Reader_Why) (granarylaw01_num) (xdr_Writer_Why_v1) (xdr_Reader_At) (xdr_Writer_Bytes) (xdr_Reader_Text N) (xdr_Writer_Text_v2 N) (xdr_List_string N) (xdr_PutList_string N) (xdr_Chain_string_v1 N) (xdr_PutChain_string_v1 N) = granarylaw01_XdrOne_C N := by kernel_rfl
theorem granarylaw01_XdrOne_t (N : Nat) : TabC Try.prog (granarylaw01_XdrOne_C N) := tab_ok ⟨⟨granarylaw01_live_ok N, trivial⟩, ⟨xdr_NewReader_v1_ok N, trivial⟩, ⟨xdr_NewWriter_ok N, trivial⟩, ⟨xdr_Reader_Bool_ok N, trivial⟩, ⟨xdr_Writer_Bool_v1_ok N, trivial⟩, ⟨xdr_Reader_Why_ok N, trivial⟩, ⟨granarylaw01_num_ok N, trivial⟩, ⟨xdr_Writer_Why_v1_ok N, trivial⟩, ⟨xdr_Reader_At_ok N, trivial⟩, ⟨xdr_Writer_Bytes_ok N, trivial⟩, ⟨xdr_Reader_Text_ok N, trivial⟩, ⟨xdr_Writer_Text_v2_ok N, trivial⟩, ⟨xdr_List_string_ok N, trivial⟩, ⟨xdr_PutList_string_ok N, trivial⟩, ⟨xdr_Chain_string_v1_ok N, trivial⟩, ⟨xdr_PutChain_string_v1_ok N, trivial⟩, trivial⟩
theorem granarylaw01_XdrOne_i0 : loopsOf granarylaw01_XdrOne_c0 = [] := by kernel_rfl
noncomputable def granarylaw01_XdrOne_a0 (N : Nat) (f0 : Unit → Option (Bool)) (f1 : (List Int) → Option ((List Int))) (f2 : Unit → Option (Unit)) (f3 : Int × Int × Int × (List Int) → Option (Bool × Int × Int × Int × (List Int))) (f4 : Bool × Int → Option (Int × (List Int))) (f5 : Int × Int × Int × (List Int) → Option (Int × Int × Int × Int × Int × (List Int))) (f6 : Int → Option (Int)) (f7 : Int × (List Int) → Option (Int × Int × (List Int))) (f8 : Int × Int × Int × (List Int) → Option (Int × Int × Int × Int × (List Int))) (f9 : Int × (List Int) → Option (Int × (List Int) × (List Int))) (f10 : Int × Int × Int × Int × (List Int) → Option ((List UInt8) × Int × Int × Int × (List Int))) (f11 : (List UInt8) × Int × Int → Option (Int × (List Int))) (f12 : Int × Int × Int × Int × (List Int) → Option (Int × Int × Int × (List Int) × (List (List UInt8)))) (f13 : (List (List UInt8)) × Int × Int → Option (Int × (List Int))) (f14 : Int × Int × Int × Int × (List Int) → Option (Int × Int × Int × (List Int) × (List (List UInt8)))) (f15 : (List (List UInt8)) × Int → Option (Int × (List Int))) (next : (List Int) × Int × Int → Option (Unit ⊕ Unit)) (x : (List Int) × Int × Int) : Option (Unit ⊕ Unit) :=
  (cond (decide (x.2.2 < (4 : Int)))
  (Option.bind (f1 x.1) fun r2 =>
  (Option.bind (f2 ()) fun r3 =>
  (Option.bind
  (cond (decide (x.2.2 = (0 : Int)))
  (Option.bind (f3 ((0 : Int), (0 : Int), (0 : Int), r2)) fun r5 =>
  (Option.bind (f4 (r5.1, (0 : Int))) fun r6 =>
  (some (r5.2.1, r5.2.2.1, r5.2.2.2.1, r5.2.2.2.2, r6.1, r6.2))))
  (Option.bind
  (cond (decide (x.2.2 = (1 : Int)))
  (Option.bind (f10 (x.2.1, (0 : Int), (0 : Int), (0 : Int), r2)) fun r8 =>
  (Option.bind (f11 (r8.1, (((List.length r8.1) : Nat) : Int), (0 : Int))) fun r10 =>
  (some (r8.2.1, r8.2.2.1, r8.2.2.2.1, r8.2.2.2.2, r10.1, r10.2))))
  (Option.bind
  (cond (decide (x.2.2 = (2 : Int)))
  (Option.bind (f12 (x.2.1, (0 : Int), (0 : Int), (0 : Int), r2)) fun r12 =>
  (Option.bind (f13 (r12.2.2.2.2, (((List.length r12.2.2.2.2) : Nat) : Int), (0 : Int))) fun r14 =>
  (some (r12.1, r12.2.1, r12.2.2.1, r12.2.2.2.1, r14.1, r14.2))))
  (Option.bind
  (cond (decide (x.2.2 = (3 : Int)))
  (Option.bind (f14 (x.2.1, (0 : Int), (0 : Int), (0 : Int), r2)) fun r16 =>
  (Option.bind (f15 (r16.2.2.2.2, (0 : Int))) fun r17 =>
  (some (r16.1, r16.2.1, r16.2.2.1, r16.2.2.2.1, r17.1, r17.2))))
  (some ((0 : Int), (0 : Int), (0 : Int), r2, (0 : Int), ([] : List Int))))
  fun r18 =>
  (some (r18.1, r18.2.1, r18.2.2.1, r18.2.2.2.1, r18.2.2.2.2.1, r18.2.2.2.2.2))))
  fun r19 =>
  (some (r19.1, r19.2.1, r19.2.2.1, r19.2.2.2.1, r19.2.2.2.2.1, r19.2.2.2.2.2))))
  fun r20 =>
  (some (r20.1, r20.2.1, r20.2.2.1, r20.2.2.2.1, r20.2.2.2.2.1, r20.2.2.2.2.2))))
  fun r21 =>
  (Option.bind (f5 (r21.1, r21.2.1, r21.2.2.1, r21.2.2.2.1)) fun r22 =>
  (Option.bind
  (Option.bind (f6 r22.1) fun r23 =>
  (cond (decide (r23 = (0 : Int)))
  (Option.bind (f7 (r21.2.2.2.2.1, r21.2.2.2.2.2)) fun r25 =>
  (Option.bind (f6 r25.1) fun r26 =>
  (cond (!(decide (r26 = (0 : Int))))
  (some (true, r22.2.2.1, r22.2.2.2.1, r22.2.2.2.2.1, r22.2.2.2.2.2, r25.2.1, r25.2.2))
  (Option.bind (f8 (r22.2.2.1, r22.2.2.2.1, r22.2.2.2.2.1, r22.2.2.2.2.2)) fun r28 =>
  (cond (decide ((((List.length x.1) : Nat) : Int) < r28.1))
  (some (true, r28.2.1, r28.2.2.1, r28.2.2.2.1, r28.2.2.2.2, r25.2.1, r25.2.2))
  (Option.bind (f9 (r25.2.1, r25.2.2)) fun r31 =>
  (Option.bind (f8 (r28.2.1, r28.2.2.1, r28.2.2.2.1, r28.2.2.2.2)) fun r33 =>
  (cond ((decide ((0 : Int) ≤ r33.1)) && (decide (r33.1 ≤ (((List.length x.1) : Nat) : Int))))
  ((some ((!(decide ((List.map (fun (n : Int) => UInt8.ofNat n.toNat) r31.2.2) = (List.map (fun (n : Int) => UInt8.ofNat n.toNat) (List.take (Int.toNat r33.1) (List.drop 0 x.1)))))), r33.2.1, r33.2.2.1, r33.2.2.2.1, r33.2.2.2.2, r31.1, r31.2.1)))
  none))))))))
  (some (false, r22.2.2.1, r22.2.2.2.1, r22.2.2.2.2.1, r22.2.2.2.2.2, r21.2.2.2.2.1, r21.2.2.2.2.2))))
  fun r37 =>
  (cond r37.1
  (some (.inl ()))
  (next (x.1, x.2.1, (wrapF .i64 (x.2.2 + (1 : Int)))))))))))
  (some (.inr (()))))
theorem granarylaw01_XdrOne_f0 (N : Nat) (f0 : Unit → Option (Bool)) (f1 : (List Int) → Option ((List Int))) (f2 : Unit → Option (Unit)) (f3 : Int × Int × Int × (List Int) → Option (Bool × Int × Int × Int × (List Int))) (f4 : Bool × Int → Option (Int × (List Int))) (f5 : Int × Int × Int × (List Int) → Option (Int × Int × Int × Int × Int × (List Int))) (f6 : Int → Option (Int)) (f7 : Int × (List Int) → Option (Int × Int × (List Int))) (f8 : Int × Int × Int × (List Int) → Option (Int × Int × Int × Int × (List Int))) (f9 : Int × (List Int) → Option (Int × (List Int) × (List Int))) (f10 : Int × Int × Int × Int × (List Int) → Option ((List UInt8) × Int × Int × Int × (List Int))) (f11 : (List UInt8) × Int × Int → Option (Int × (List Int))) (f12 : Int × Int × Int × Int × (List Int) → Option (Int × Int × Int × (List Int) × (List (List UInt8)))) (f13 : (List (List UInt8)) × Int × Int → Option (Int × (List Int))) (f14 : Int × Int × Int × Int × (List Int) → Option (Int × Int × Int × (List Int) × (List (List UInt8)))) (f15 : (List (List UInt8)) × Int → Option (Int × (List Int))) (next) (x) : granarylaw01_XdrOne_a0 N f0 f1 f2 f3 f4 f5 f6 f7 f8 f9 f10 f11 f12 f13 f14 f15 next x = loopStep Γ (granarylaw01_XdrOne_CA N f0 f1 f2 f3 f4 f5 f6 f7 f8 f9 f10 f11 f12 f13 f14 f15) (granarylaw01_XdrOne_J N) 0 96 granarylaw01_XdrOne_d0 granarylaw01_XdrOne_c0 next x := by kernel_rfl
theorem granarylaw01_XdrOne_e0 (N : Nat) (next) (x) : granarylaw01_XdrOne_b0 N next x = loopStep Γ (granarylaw01_XdrOne_C N) (granarylaw01_XdrOne_J N) 0 96 granarylaw01_XdrOne_d0 granarylaw01_XdrOne_c0 next x := by
  rw [← granarylaw01_XdrOne_CE N]
  exact Eq.trans (by kernel_rfl) (granarylaw01_XdrOne_f0 N (granarylaw01_live N) (xdr_NewReader_v1) (xdr_NewWriter) (xdr_Reader_Bool N) (xdr_Writer_Bool_v1 N) (xdr_Reader_Why) (granarylaw01_num) (xdr_Writer_Why_v1) (xdr_Reader_At) (xdr_Writer_Bytes) (xdr_Reader_Text N) (xdr_Writer_Text_v2 N) (xdr_List_string N) (xdr_PutList_string N) (xdr_Chain_string_v1 N) (xdr_PutChain_string_v1 N) next x)
theorem granarylaw01_XdrOne_k0 (N : Nat) : LoopOK Try.prog 96 granarylaw01_XdrOne_c0 ⟨granarylaw01_XdrOne_d0, loopF (granarylaw01_XdrOne_b0 N) N⟩ := loop_ok tabOK (granarylaw01_XdrOne_t N) mixedOK (J := granarylaw01_XdrOne_J N) (cx := 0) (body := granarylaw01_XdrOne_c0) (nt := 96) (l := granarylaw01_XdrOne_d0) (b := granarylaw01_XdrOne_b0 N) (jok_from granarylaw01_XdrOne_i0 ⟨trivial, trivial⟩) (granarylaw01_XdrOne_e0 N) N
theorem granarylaw01_XdrOne_i : loopsOf granarylaw01_XdrOne_c = [(0, granarylaw01_XdrOne_c0)] := by kernel_rfl
noncomputable def granarylaw01_XdrOne_a (N : Nat) (f0 : Unit → Option (Bool)) (f1 : (List Int) → Option ((List Int))) (f2 : Unit → Option (Unit)) (f3 : Int × Int × Int × (List Int) → Option (Bool × Int × Int × Int × (List Int))) (f4 : Bool × Int → Option (Int × (List Int))) (f5 : Int × Int × Int × (List Int) → Option (Int × Int × Int × Int × Int × (List Int))) (f6 : Int → Option (Int)) (f7 : Int × (List Int) → Option (Int × Int × (List Int))) (f8 : Int × Int × Int × (List Int) → Option (Int × Int × Int × Int × (List Int))) (f9 : Int × (List Int) → Option (Int × (List Int) × (List Int))) (f10 : Int × Int × Int × Int × (List Int) → Option ((List UInt8) × Int × Int × Int × (List Int))) (f11 : (List UInt8) × Int × Int → Option (Int × (List Int))) (f12 : Int × Int × Int × Int × (List Int) → Option (Int × Int × Int × (List Int) × (List (List UInt8)))) (f13 : (List (List UInt8)) × Int × Int → Option (Int × (List Int))) (f14 : Int × Int × Int × Int × (List Int) → Option (Int × Int × Int × (List Int) × (List (List UInt8)))) (f15 : (List (List UInt8)) × Int → Option (Int × (List Int))) (x : (List Int) × Int) : Option (Bool) :=
  (cond (decide ((60000 : Int) < (((List.length x.1) : Nat) : Int)))
  (Option.bind (f0 ()) fun r3 =>
  (some r3))
  (Option.bind (granarylaw01_XdrOne_l0 N (x.1, x.2, (0 : Int))) fun r4 =>
  (match r4 with
  | .inl y5 =>
  (some false)
  | .inr z6 =>
  (Option.bind (f0 ()) fun r7 =>
  (some r7)))))
theorem granarylaw01_XdrOne_f (N : Nat) (f0 : Unit → Option (Bool)) (f1 : (List Int) → Option ((List Int))) (f2 : Unit → Option (Unit)) (f3 : Int × Int × Int × (List Int) → Option (Bool × Int × Int × Int × (List Int))) (f4 : Bool × Int → Option (Int × (List Int))) (f5 : Int × Int × Int × (List Int) → Option (Int × Int × Int × Int × Int × (List Int))) (f6 : Int → Option (Int)) (f7 : Int × (List Int) → Option (Int × Int × (List Int))) (f8 : Int × Int × Int × (List Int) → Option (Int × Int × Int × Int × (List Int))) (f9 : Int × (List Int) → Option (Int × (List Int) × (List Int))) (f10 : Int × Int × Int × Int × (List Int) → Option ((List UInt8) × Int × Int × Int × (List Int))) (f11 : (List UInt8) × Int × Int → Option (Int × (List Int))) (f12 : Int × Int × Int × Int × (List Int) → Option (Int × Int × Int × (List Int) × (List (List UInt8)))) (f13 : (List (List UInt8)) × Int × Int → Option (Int × (List Int))) (f14 : Int × Int × Int × Int × (List Int) → Option (Int × Int × Int × (List Int) × (List (List UInt8)))) (f15 : (List (List UInt8)) × Int → Option (Int × (List Int))) (x) : granarylaw01_XdrOne_a N f0 f1 f2 f3 f4 f5 f6 f7 f8 f9 f10 f11 f12 f13 f14 f15 x = fnStep Γ (granarylaw01_XdrOne_CA N f0 f1 f2 f3 f4 f5 f6 f7 f8 f9 f10 f11 f12 f13 f14 f15) (granarylaw01_XdrOne_J N) 96 Try.f4.results.toList (granarylaw01_XdrOne_g N) granarylaw01_XdrOne_o granarylaw01_XdrOne_c x := by kernel_rfl
theorem granarylaw01_XdrOne_e (N : Nat) (x) : (granarylaw01_XdrOne_g N).F x = fnStep Γ (granarylaw01_XdrOne_C N) (granarylaw01_XdrOne_J N) 96 Try.f4.results.toList (granarylaw01_XdrOne_g N) granarylaw01_XdrOne_o granarylaw01_XdrOne_c x := by
  rw [← granarylaw01_XdrOne_CE N]
  exact Eq.trans (by kernel_rfl) (granarylaw01_XdrOne_f N (granarylaw01_live N) (xdr_NewReader_v1) (xdr_NewWriter) (xdr_Reader_Bool N) (xdr_Writer_Bool_v1 N) (xdr_Reader_Why) (granarylaw01_num) (xdr_Writer_Why_v1) (xdr_Reader_At) (xdr_Writer_Bytes) (xdr_Reader_Text N) (xdr_Writer_Text_v2 N) (xdr_List_string N) (xdr_PutList_string N) (xdr_Chain_string_v1 N) (xdr_PutChain_string_v1 N) x)
theorem granarylaw01_XdrOne_y : Try.f4.body = some granarylaw01_XdrOne_c := by kernel_rfl
theorem granarylaw01_XdrOne_n : (Try.f4.name == "runtime.NumGoroutine") = false := by kernel_rfl
theorem granarylaw01_XdrOne_ok (N : Nat) : FnDoes Try.prog 4 (granarylaw01_XdrOne_g N) := fn_ok tabOK (granarylaw01_XdrOne_t N) mixedOK (J := granarylaw01_XdrOne_J N) (body := granarylaw01_XdrOne_c) Try.func4 granarylaw01_XdrOne_y granarylaw01_XdrOne_n Try.ntmps4 (jok_from granarylaw01_XdrOne_i ⟨⟨.inr ⟨_, rfl, granarylaw01_XdrOne_k0 N⟩, trivial⟩, trivial⟩) rfl rfl (le_of_ble rfl) (granarylaw01_XdrOne_e N)
end Go.Rf.W
