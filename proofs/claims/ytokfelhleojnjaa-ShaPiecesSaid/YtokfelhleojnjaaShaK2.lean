/-
  The printed functions are what the program does.
-/
import Derived.Test.YtokfelhleojnjaaShaK1
set_option linter.unusedVariables false
set_option maxRecDepth 100000
namespace Go.Rf.W
open Go Go.Rf Go.Proofs
noncomputable def sha_Load_c : Code := codeOf Try.f33.body
noncomputable def sha_Load_c0 : Code := codeOf (getLoop 0 sha_Load_c)
def sha_Load_d0 : LD := { ins := ⟨[(0, (.av (.one (.rsl (.int .u8))))), (4, (.av (.one (.const (.ptr ⟨1, 0, 0, 0⟩))))), (30, (.av (.one (.int .i64))))], [(.keep, false), (.sh (.arr (.int .u32) (some 8)), true), (.keep, false), (.keep, false)]⟩, mov := [], wr := [1], outs := [(.exit 0, ⟨[], [(.keep, false), (.sh (.arr (.int .u32) (some 8)), true), (.keep, false), (.keep, false)]⟩)], its := [.lst (.int .u8), .int, .lst (.int .u32)], ots := [[.lst (.int .u32)]] }
noncomputable def sha_Load_J (N : Nat) : Nat → Hint := fun cx => hintOf cx [(0, { reg := fun k => assoc0 k [], cnd := fun k => assoc0 k [], loop := fun k => assoc0 k [(0, ⟨sha_Load_d0, loopF (sha_Load_b0 N) N⟩)], nil := fun k => assoc0 k [], unr := fun k => assocN k [], blk := fun k => assoc0 k [] })]
noncomputable def sha_Load_C (N : Nat) : Nat → List GS := fun k => tabOf k [(52, [octet_Get_g N]), (41, [slices_Clone_byte_byte_v1_g N])]
def sha_Load_o : List (Shp × List Nat) := [(⟨[(0, (.tup [(.one (.const .nilp)), (.one (.const (.int .i64 (51 : Int))))]))], []⟩, []), (⟨[(0, (.tup [(.one (.const (.ptr ⟨0, 0, 0, 0⟩))), (.one (.const (.int .i64 (0 : Int))))]))], [(.sh (.arr (.int .u32) (some 8)), true), (.sh (.one (.int .u64)), true), (.sh (.one (.const (.slw 3 1))), false), (.sh (.arr (.int .u8) none), false)]⟩, [])]
noncomputable def sha_Load_g (N : Nat) : GS := { ins := ⟨[(0, (.av (.one (.rsl (.int .u8)))))], []⟩, lend := [.lend (.int .u8)], outs := sha_Load_o.map fun s => ssOf s.1, its := [.lst (.int .u8)], ots := [[], [.lst (.int .u32), .int, .lst (.int .u8)]], F := sha_Load N }
noncomputable def sha_Load_CA (N : Nat) (f0 : (List Int) → Option (Int)) (f1 : (List Int) → Option ((List Int))) : Nat → List GS := fun k => tabOf k [(52, [{ octet_Get_g N with F := f0 }]), (41, [{ slices_Clone_byte_byte_v1_g N with F := f1 }])]
theorem sha_Load_CE (N : Nat) : sha_Load_CA N (octet_Get N) (slices_Clone_byte_byte_v1) = sha_Load_C N := by kernel_rfl
theorem sha_Load_t (N : Nat) : TabC Try.prog (sha_Load_C N) := tab_ok ⟨⟨octet_Get_ok N, trivial⟩, ⟨slices_Clone_byte_byte_v1_ok N, trivial⟩, trivial⟩
theorem sha_Load_i0 : loopsOf sha_Load_c0 = [] := by kernel_rfl
noncomputable def sha_Load_a0 (N : Nat) (f0 : (List Int) → Option (Int)) (f1 : (List Int) → Option ((List Int))) (next : (List Int) × Int × (List Int) → Option (((List Int)))) (x : (List Int) × Int × (List Int)) : Option (((List Int))) :=
  (cond (decide (x.2.1 < (8 : Int)))
  (let v2 : Int := (wrapF .i64 ((4 : Int) * x.2.1))
  (cond (((decide ((0 : Int) ≤ v2)) && (decide (v2 ≤ (((List.length x.1) : Nat) : Int)))) && (decide ((((List.length x.1) : Nat) : Int) ≤ (((List.length x.1) : Nat) : Int))))
  ((let v3 : List Int := (List.take ((List.length x.1) - (Int.toNat v2)) (List.drop (Int.toNat v2) x.1))
  (cond (decide ((4 : Int) ≤ (((List.length v3) : Nat) : Int)))
  ((Option.bind (f0 (List.take 4 (List.drop 0 v3))) fun r5 =>
  (cond ((decide ((0 : Int) ≤ x.2.1)) && (decide (x.2.1 < (8 : Int))))
  ((let v7 : Nat := (Int.toNat x.2.1)
  (cond (decide (v7 < (List.length x.2.2)))
  ((next (x.1, (wrapF .i64 (x.2.1 + (1 : Int))), (List.set x.2.2 v7 (wrapF .u32 r5)))))
  none)))
  none)))
  none)))
  none))
  (some x.2.2))
theorem sha_Load_f0 (N : Nat) (f0 : (List Int) → Option (Int)) (f1 : (List Int) → Option ((List Int))) (next) (x) : sha_Load_a0 N f0 f1 next x = loopStep Γ (sha_Load_CA N f0 f1) (sha_Load_J N) 0 47 sha_Load_d0 sha_Load_c0 next x := by kernel_rfl
theorem sha_Load_e0 (N : Nat) (next) (x) : sha_Load_b0 N next x = loopStep Γ (sha_Load_C N) (sha_Load_J N) 0 47 sha_Load_d0 sha_Load_c0 next x := by
  rw [← sha_Load_CE N]
  exact Eq.trans (by kernel_rfl) (sha_Load_f0 N (octet_Get N) (slices_Clone_byte_byte_v1) next x)
theorem sha_Load_k0 (N : Nat) : LoopOK Try.prog 47 sha_Load_c0 ⟨sha_Load_d0, loopF (sha_Load_b0 N) N⟩ := loop_ok tabOK (sha_Load_t N) mixedOK (J := sha_Load_J N) (cx := 0) (body := sha_Load_c0) (nt := 47) (l := sha_Load_d0) (b := sha_Load_b0 N) (jok_from sha_Load_i0 ⟨trivial, trivial⟩) (sha_Load_e0 N) N
theorem sha_Load_i : loopsOf sha_Load_c = [(0, sha_Load_c0)] := by kernel_rfl
noncomputable def sha_Load_a (N : Nat) (f0 : (List Int) → Option (Int)) (f1 : (List Int) → Option ((List Int))) (x : (List Int)) : Option ((Unit) ⊕ ((List Int) × Int × (List Int))) :=
  (cond (decide ((((List.length x) : Nat) : Int) < (40 : Int)))
  (some (.inl ()))
  (cond ((decide ((32 : Int) ≤ (((List.length x) : Nat) : Int))) && (decide ((((List.length x) : Nat) : Int) ≤ (((List.length x) : Nat) : Int))))
  ((let v3 : List Int := (List.take ((List.length x) - 32) (List.drop 32 x))
  (cond (decide ((8 : Int) ≤ (((List.length v3) : Nat) : Int)))
  ((Option.bind (f0 (List.take 8 (List.drop 0 v3))) fun r5 =>
  (cond ((decide ((40 : Int) ≤ (((List.length x) : Nat) : Int))) && (decide ((((List.length x) : Nat) : Int) ≤ (((List.length x) : Nat) : Int))))
  ((Option.bind (f1 (List.take ((List.length x) - 40) (List.drop 40 x))) fun r7 =>
  (cond (!(decide ((wrapF .u64 (((List.length r7) : Nat) : Int)) = (Int.tmod r5 (64 : Int)))))
  (some (.inl ()))
  (Option.bind (sha_Load_l0 N (x, (0 : Int), (List.replicate 8 (EK.dflt (.int .u32))))) fun r13 =>
  (some (.inr ((r13, r5, r7))))))))
  none)))
  none)))
  none))
theorem sha_Load_f (N : Nat) (f0 : (List Int) → Option (Int)) (f1 : (List Int) → Option ((List Int))) (x) : sha_Load_a N f0 f1 x = fnStep Γ (sha_Load_CA N f0 f1) (sha_Load_J N) 47 Try.f33.results.toList (sha_Load_g N) sha_Load_o sha_Load_c x := by kernel_rfl
theorem sha_Load_e (N : Nat) (x) : (sha_Load_g N).F x = fnStep Γ (sha_Load_C N) (sha_Load_J N) 47 Try.f33.results.toList (sha_Load_g N) sha_Load_o sha_Load_c x := by
  rw [← sha_Load_CE N]
  exact Eq.trans (by kernel_rfl) (sha_Load_f N (octet_Get N) (slices_Clone_byte_byte_v1) x)
theorem sha_Load_y : Try.f33.body = some sha_Load_c := by kernel_rfl
theorem sha_Load_n : (Try.f33.name == "runtime.NumGoroutine") = false := by kernel_rfl
theorem sha_Load_ok (N : Nat) : FnDoes Try.prog 33 (sha_Load_g N) := fn_ok tabOK (sha_Load_t N) mixedOK (J := sha_Load_J N) (body := sha_Load_c) Try.func33 sha_Load_y sha_Load_n Try.ntmps33 (jok_from sha_Load_i ⟨⟨.inr ⟨_, rfl, sha_Load_k0 N⟩, trivial⟩, trivial⟩) rfl rfl (le_of_ble rfl) (sha_Load_e N)
noncomputable def sha_Hash_Write_v4_c : Code := codeOf Try.f21.body
noncomputable def sha_Hash_Write_v4_c0 : Code := codeOf (getLoop 0 sha_Hash_Write_v4_c)
def sha_Hash_Write_v4_d0 : LD := { ins := ⟨[(0, (.av (.one (.const (.ptr ⟨0, 0, 0, 0⟩))))), (4, (.av (.one (.sl 4 1))))], [(.sh (.arr (.int .u32) (some 8)), true), (.sh (.one (.int .u64)), true), (.sh (.one (.const .unk)), false), (.keep, false), (.sh (.arr (.int .u8) none), false)]⟩, mov := [], wr := [0, 1, 2, 4], outs := [(.exit 0, ⟨[(4, (.av (.one (.sl 4 1))))], [(.sh (.arr (.int .u32) (some 8)), true), (.sh (.one (.int .u64)), true), (.sh (.one (.const .unk)), false), (.keep, false), (.sh (.arr (.int .u8) none), false)]⟩)], its := [.nat, .nat, .lst (.int .u32), .int, .lst (.int .u8)], ots := [[.nat, .nat, .lst (.int .u32), .int, .lst (.int .u8)]] }
noncomputable def sha_Hash_Write_v4_J (N : Nat) : Nat → Hint := fun cx => hintOf cx [(0, { reg := fun k => assoc0 k [], cnd := fun k => assoc0 k [], loop := fun k => assoc0 k [(0, ⟨sha_Hash_Write_v4_d0, loopF (sha_Hash_Write_v4_b0 N) N⟩)], nil := fun k => assoc0 k [], unr := fun k => assocN k [], blk := fun k => assoc0 k [] })]
noncomputable def sha_Hash_Write_v4_C (N : Nat) : Nat → List GS := fun k => tabOf k [(40, [sha_Hash_round_v1_g N]), (41, [slices_Clone_byte_byte_g N])]
def sha_Hash_Write_v4_o : List (Shp × List Nat) := [(⟨[(0, (.tup []))], [(.sh (.arr (.int .u32) (some 8)), true), (.sh (.one (.int .u64)), true), (.sh (.one (.const (.slw 4 1))), false), (.dead, false), (.sh (.arr (.int .u8) none), false)]⟩, [])]
noncomputable def sha_Hash_Write_v4_g (N : Nat) : GS := { ins := ⟨[(0, (.av (.one (.const (.ptr ⟨0, 0, 0, 0⟩))))), (1, (.av (.one (.rsl (.int .u8)))))], [(some (.arr (.int .u32) (some 8)), true), (some (.one (.int .u64)), true), (some (.one (.const (.slw 3 1))), false), (some (.arr (.int .u8) none), false)]⟩, lend := [.keep, .keep], outs := sha_Hash_Write_v4_o.map fun s => ssOf s.1, its := [.lst (.int .u8), .lst (.int .u32), .int, .lst (.int .u8)], ots := [[.lst (.int .u32), .int, .lst (.int .u8)]], F := sha_Hash_Write_v4 N }
noncomputable def sha_Hash_Write_v4_CA (N : Nat) (f0 : (List Int) × (List Int) × Int → Option ((List Int) × Int)) (f1 : (List Int) → Option ((List Int))) : Nat → List GS := fun k => tabOf k [(40, [{ sha_Hash_round_v1_g N with F := f0 }]), (41, [{ slices_Clone_byte_byte_g N with F := f1 }])]
theorem sha_Hash_Write_v4_CE (N : Nat) : sha_Hash_Write_v4_CA N (sha_Hash_round_v1 N) (slices_Clone_byte_byte) = sha_Hash_Write_v4_C N := by kernel_rfl
theorem sha_Hash_Write_v4_t (N : Nat) : TabC Try.prog (sha_Hash_Write_v4_C N) := tab_ok ⟨⟨sha_Hash_round_v1_ok N, trivial⟩, ⟨slices_Clone_byte_byte_ok N, trivial⟩, trivial⟩
theorem sha_Hash_Write_v4_i0 : loopsOf sha_Hash_Write_v4_c0 = [] := by kernel_rfl
noncomputable def sha_Hash_Write_v4_a0 (N : Nat) (f0 : (List Int) × (List Int) × Int → Option ((List Int) × Int)) (f1 : (List Int) → Option ((List Int))) (next : Nat × Nat × (List Int) × Int × (List Int) → Option ((Nat × Nat × (List Int) × Int × (List Int)))) (x : Nat × Nat × (List Int) × Int × (List Int)) : Option ((Nat × Nat × (List Int) × Int × (List Int))) :=
  (cond (decide ((64 : Int) ≤ ((x.2.1 : Nat) : Int)))
  (cond (decide ((64 : Int) ≤ ((x.2.1 : Nat) : Int)))
  ((let v3 : Nat := (0 + x.1)
  (cond (cond (decide ((v3 + 64) ≤ (List.length x.2.2.2.2))) true false)
  (Option.bind (f0 ((List.take 64 (List.drop v3 x.2.2.2.2)), x.2.2.1, x.2.2.2.1)) fun r4 =>
  (cond ((decide ((64 : Int) ≤ ((x.2.1 : Nat) : Int))) && (decide (((x.2.1 : Nat) : Int) ≤ ((x.2.1 : Nat) : Int))))
  ((next ((64 + x.1), (x.2.1 - 64), r4.1, r4.2, x.2.2.2.2)))
  none))
  none)))
  none)
  (some (x.1, x.2.1, x.2.2.1, x.2.2.2.1, x.2.2.2.2)))
theorem sha_Hash_Write_v4_f0 (N : Nat) (f0 : (List Int) × (List Int) × Int → Option ((List Int) × Int)) (f1 : (List Int) → Option ((List Int))) (next) (x) : sha_Hash_Write_v4_a0 N f0 f1 next x = loopStep Γ (sha_Hash_Write_v4_CA N f0 f1) (sha_Hash_Write_v4_J N) 0 37 sha_Hash_Write_v4_d0 sha_Hash_Write_v4_c0 next x := by kernel_rfl
theorem sha_Hash_Write_v4_e0 (N : Nat) (next) (x) : sha_Hash_Write_v4_b0 N next x = loopStep Γ (sha_Hash_Write_v4_C N) (sha_Hash_Write_v4_J N) 0 37 sha_Hash_Write_v4_d0 sha_Hash_Write_v4_c0 next x := by
  rw [← sha_Hash_Write_v4_CE N]
  exact Eq.trans (by kernel_rfl) (sha_Hash_Write_v4_f0 N (sha_Hash_round_v1 N) (slices_Clone_byte_byte) next x)
theorem sha_Hash_Write_v4_k0 (N : Nat) : LoopOK Try.prog 37 sha_Hash_Write_v4_c0 ⟨sha_Hash_Write_v4_d0, loopF (sha_Hash_Write_v4_b0 N) N⟩ := loop_ok tabOK (sha_Hash_Write_v4_t N) mixedOK (J := sha_Hash_Write_v4_J N) (cx := 0) (body := sha_Hash_Write_v4_c0) (nt := 37) (l := sha_Hash_Write_v4_d0) (b := sha_Hash_Write_v4_b0 N) (jok_from sha_Hash_Write_v4_i0 ⟨trivial, trivial⟩) (sha_Hash_Write_v4_e0 N) N
theorem sha_Hash_Write_v4_i : loopsOf sha_Hash_Write_v4_c = [(0, sha_Hash_Write_v4_c0)] := by kernel_rfl
noncomputable def sha_Hash_Write_v4_a (N : Nat) (f0 : (List Int) × (List Int) × Int → Option ((List Int) × Int)) (f1 : (List Int) → Option ((List Int))) (x : (List Int) × (List Int) × Int × (List Int)) : Option ((List Int) × Int × (List Int)) :=
  (cond (fits 1 ((List.length x.2.2.2) + (List.length x.1)))
  ((let v4 : List Int := (x.2.2.2 ++ x.1)
  (Option.bind (sha_Hash_Write_v4_l0 N (0, (List.length v4), x.2.1, (wrapF .u64 (x.2.2.1 + (wrapF .u64 (((List.length x.1) : Nat) : Int)))), v4)) fun r5 =>
  (cond (cond (decide ((r5.1 + r5.2.1) ≤ (List.length r5.2.2.2.2))) true false)
  (Option.bind (f1 (List.take r5.2.1 (List.drop r5.1 r5.2.2.2.2))) fun r6 =>
  (some (r5.2.2.1, r5.2.2.2.1, r6)))
  none))))
  none)
theorem sha_Hash_Write_v4_f (N : Nat) (f0 : (List Int) × (List Int) × Int → Option ((List Int) × Int)) (f1 : (List Int) → Option ((List Int))) (x) : sha_Hash_Write_v4_a N f0 f1 x = fnStep Γ (sha_Hash_Write_v4_CA N f0 f1) (sha_Hash_Write_v4_J N) 37 Try.f21.results.toList (sha_Hash_Write_v4_g N) sha_Hash_Write_v4_o sha_Hash_Write_v4_c x := by kernel_rfl
theorem sha_Hash_Write_v4_e (N : Nat) (x) : (sha_Hash_Write_v4_g N).F x = fnStep Γ (sha_Hash_Write_v4_C N) (sha_Hash_Write_v4_J N) 37 Try.f21.results.toList (sha_Hash_Write_v4_g N) sha_Hash_Write_v4_o sha_Hash_Write_v4_c x := by
  rw [← sha_Hash_Write_v4_CE N]
  exact Eq.trans (by kernel_rfl) (sha_Hash_Write_v4_f N (sha_Hash_round_v1 N) (slices_Clone_byte_byte) x)
theorem sha_Hash_Write_v4_y : Try.f21.body = some sha_Hash_Write_v4_c := by kernel_rfl
theorem sha_Hash_Write_v4_n : (Try.f21.name == "runtime.NumGoroutine") = false := by kernel_rfl
theorem sha_Hash_Write_v4_ok (N : Nat) : FnDoes Try.prog 21 (sha_Hash_Write_v4_g N) := fn_ok tabOK (sha_Hash_Write_v4_t N) mixedOK (J := sha_Hash_Write_v4_J N) (body := sha_Hash_Write_v4_c) Try.func21 sha_Hash_Write_v4_y sha_Hash_Write_v4_n Try.ntmps21 (jok_from sha_Hash_Write_v4_i ⟨⟨.inr ⟨_, rfl, sha_Hash_Write_v4_k0 N⟩, trivial⟩, trivial⟩) rfl rfl (le_of_ble rfl) (sha_Hash_Write_v4_e N)
noncomputable def sha_Hash_Len_v1_c : Code := codeOf Try.f22.body
noncomputable def sha_Hash_Len_v1_J (N : Nat) : Nat → Hint := fun cx => hintOf cx []
noncomputable def sha_Hash_Len_v1_C (N : Nat) : Nat → List GS := fun k => tabOf k []
def sha_Hash_Len_v1_o : List (Shp × List Nat) := [(⟨[(0, (.av (.one (.int .u64))))], [(.sh (.arr (.int .u32) (some 8)), true), (.sh (.one (.int .u64)), true), (.sh (.one (.const (.slw 3 1))), false), (.sh (.arr (.int .u8) none), false)]⟩, [])]
noncomputable def sha_Hash_Len_v1_g (N : Nat) : GS := { ins := ⟨[(0, (.av (.one (.const (.ptr ⟨0, 0, 0, 0⟩)))))], [(some (.arr (.int .u32) (some 8)), true), (some (.one (.int .u64)), true), (some (.one (.const (.slw 3 1))), false), (some (.arr (.int .u8) none), false)]⟩, lend := [.keep], outs := sha_Hash_Len_v1_o.map fun s => ssOf s.1, its := [.lst (.int .u32), .int, .lst (.int .u8)], ots := [[.int, .lst (.int .u32), .int, .lst (.int .u8)]], F := sha_Hash_Len_v1 }
theorem sha_Hash_Len_v1_t (N : Nat) : TabC Try.prog (sha_Hash_Len_v1_C N) := tab_ok trivial
theorem sha_Hash_Len_v1_i : loopsOf sha_Hash_Len_v1_c = [] := by kernel_rfl
theorem sha_Hash_Len_v1_e (N : Nat) (x) : (sha_Hash_Len_v1_g N).F x = fnStep Γ (sha_Hash_Len_v1_C N) (sha_Hash_Len_v1_J N) 9 Try.f22.results.toList (sha_Hash_Len_v1_g N) sha_Hash_Len_v1_o sha_Hash_Len_v1_c x := by kernel_rfl
theorem sha_Hash_Len_v1_y : Try.f22.body = some sha_Hash_Len_v1_c := by kernel_rfl
theorem sha_Hash_Len_v1_n : (Try.f22.name == "runtime.NumGoroutine") = false := by kernel_rfl
theorem sha_Hash_Len_v1_ok (N : Nat) : FnDoes Try.prog 22 (sha_Hash_Len_v1_g N) := fn_ok tabOK (sha_Hash_Len_v1_t N) mixedOK (J := sha_Hash_Len_v1_J N) (body := sha_Hash_Len_v1_c) Try.func22 sha_Hash_Len_v1_y sha_Hash_Len_v1_n Try.ntmps22 (jok_from sha_Hash_Len_v1_i trivial) rfl rfl (le_of_ble rfl) (sha_Hash_Len_v1_e N)
noncomputable def sha_Climb_v1_c : Code := codeOf Try.f27.body
noncomputable def sha_Climb_v1_c0 : Code := codeOf (getLoop 0 sha_Climb_v1_c)
def sha_Climb_v1_d0 : LD := { ins := ⟨[(3, (.av (.one (.rsl (.arr 32 (.int .u8)))))), (4, (.av (.one (.const (.ptr ⟨0, 0, 0, 0⟩))))), (8, (.av (.one (.const (.ptr ⟨1, 0, 0, 0⟩))))), (34, (.av (.one (.const (.slw 2 1))))), (35, (.av (.one (.int .i64)))), (36, (.av (.one (.int .i64))))], [(.sh (.arr (.int .u8) (some 32)), false), (.keep, false), (.sh (.arr .bool none), false)]⟩, mov := [], wr := [0, 2], outs := [(.exit 0, ⟨[], [(.sh (.arr (.int .u8) (some 32)), false), (.keep, false), (.sh (.arr .bool none), false)]⟩)], its := [.lst (.arr 32 (.int .u8)), .int, .int, .lst (.int .u8), .lst .bool], ots := [[.lst (.int .u8), .lst .bool]] }
noncomputable def sha_Climb_v1_J (N : Nat) : Nat → Hint := fun cx => hintOf cx [(0, { reg := fun k => assoc0 k [(1, ⟨⟨[(23, (.av (.one .bool)))], [(.keep, false), (.keep, false)]⟩, [], [], [.bool]⟩)], cnd := fun k => assoc0 k [(41, ⟨[], [0], [(.normal, ⟨[], [(.sh (.arr (.int .u8) (some 32)), false), (.dead, false), (.keep, false)]⟩)], [[.lst (.int .u8)]]⟩)], loop := fun k => assoc0 k [(0, ⟨sha_Climb_v1_d0, loopF (sha_Climb_v1_b0 N) N⟩)], nil := fun k => assoc0 k [], unr := fun k => assocN k [], blk := fun k => assoc0 k [] })]
noncomputable def sha_Climb_v1_C (N : Nat) : Nat → List GS := fun k => tabOf k [(46, [sha_sides_g N]), (47, [sha_pair_g N])]
def sha_Climb_v1_o : List (Shp × List Nat) := [(⟨[(0, (.tup [(.agg [(.arr (.int .u8) (some 32))]), (.one (.int .i64))]))], []⟩, [])]
noncomputable def sha_Climb_v1_g (N : Nat) : GS := { ins := ⟨[(0, (.av (.agg [(.arr (.int .u8) (some 32))]))), (1, (.av (.one (.int .i64)))), (2, (.av (.one (.int .i64)))), (3, (.av (.one (.rsl (.arr 32 (.int .u8))))))], []⟩, lend := [.keep, .keep, .keep, .lend (.arr 32 (.int .u8))], outs := sha_Climb_v1_o.map fun s => ssOf s.1, its := [.lst (.int .u8), .int, .int, .lst (.arr 32 (.int .u8))], ots := [[.lst (.int .u8), .int]], F := sha_Climb_v1 N }
noncomputable def sha_Climb_v1_CA (N : Nat) (f0 : Int × Int → Option ((List Bool))) (f1 : (List Int) × (List Int) → Option ((List Int))) : Nat → List GS := fun k => tabOf k [(46, [{ sha_sides_g N with F := f0 }]), (47, [{ sha_pair_g N with F := f1 }])]
theorem sha_Climb_v1_CE (N : Nat) : sha_Climb_v1_CA N (sha_sides N) (sha_pair N) = sha_Climb_v1_C N := by kernel_rfl
theorem sha_Climb_v1_t (N : Nat) : TabC Try.prog (sha_Climb_v1_C N) := tab_ok ⟨⟨sha_sides_ok N, trivial⟩, ⟨sha_pair_ok N, trivial⟩, trivial⟩
theorem sha_Climb_v1_i0 : loopsOf sha_Climb_v1_c0 = [] := by kernel_rfl
noncomputable def sha_Climb_v1_a0 (N : Nat) (f0 : Int × Int → Option ((List Bool))) (f1 : (List Int) × (List Int) → Option ((List Int))) (next : (List (List Int)) × Int × Int × (List Int) × (List Bool) → Option (((List Int) × (List Bool)))) (x : (List (List Int)) × Int × Int × (List Int) × (List Bool)) : Option (((List Int) × (List Bool))) :=
  (cond (decide (x.2.2.1 < x.2.1))
  (cond ((decide ((0 : Int) ≤ x.2.2.1)) && (decide (x.2.2.1 < (((List.length x.2.2.2.2) : Nat) : Int))))
  ((let v2 : Nat := (Int.toNat x.2.2.1)
  (cond (decide (v2 < (List.length x.2.2.2.2)))
  ((Option.bind
  (cond (List.getD x.2.2.2.2 v2 (EK.dflt .bool))
  (cond ((decide ((0 : Int) ≤ x.2.2.1)) && (decide (x.2.2.1 < (((List.length x.1) : Nat) : Int))))
  ((Option.bind (f1 ((List.getD x.1 (Int.toNat x.2.2.1) (EK.dflt (.arr 32 (.int .u8)))), x.2.2.2.1)) fun r5 =>
  (some r5)))
  none)
  (cond ((decide ((0 : Int) ≤ x.2.2.1)) && (decide (x.2.2.1 < (((List.length x.1) : Nat) : Int))))
  ((Option.bind (f1 (x.2.2.2.1, (List.getD x.1 (Int.toNat x.2.2.1) (EK.dflt (.arr 32 (.int .u8)))))) fun r7 =>
  (some r7)))
  none))
  fun r8 =>
  (next (x.1, x.2.1, (wrapF .i64 (x.2.2.1 + (1 : Int))), r8, x.2.2.2.2))))
  none)))
  none)
  (some (x.2.2.2.1, x.2.2.2.2)))
theorem sha_Climb_v1_f0 (N : Nat) (f0 : Int × Int → Option ((List Bool))) (f1 : (List Int) × (List Int) → Option ((List Int))) (next) (x) : sha_Climb_v1_a0 N f0 f1 next x = loopStep Γ (sha_Climb_v1_CA N f0 f1) (sha_Climb_v1_J N) 0 56 sha_Climb_v1_d0 sha_Climb_v1_c0 next x := by kernel_rfl
theorem sha_Climb_v1_e0 (N : Nat) (next) (x) : sha_Climb_v1_b0 N next x = loopStep Γ (sha_Climb_v1_C N) (sha_Climb_v1_J N) 0 56 sha_Climb_v1_d0 sha_Climb_v1_c0 next x := by
  rw [← sha_Climb_v1_CE N]
  exact Eq.trans (by kernel_rfl) (sha_Climb_v1_f0 N (sha_sides N) (sha_pair N) next x)
theorem sha_Climb_v1_k0 (N : Nat) : LoopOK Try.prog 56 sha_Climb_v1_c0 ⟨sha_Climb_v1_d0, loopF (sha_Climb_v1_b0 N) N⟩ := loop_ok tabOK (sha_Climb_v1_t N) mixedOK (J := sha_Climb_v1_J N) (cx := 0) (body := sha_Climb_v1_c0) (nt := 56) (l := sha_Climb_v1_d0) (b := sha_Climb_v1_b0 N) (jok_from sha_Climb_v1_i0 ⟨trivial, trivial⟩) (sha_Climb_v1_e0 N) N
theorem sha_Climb_v1_i : loopsOf sha_Climb_v1_c = [(0, sha_Climb_v1_c0)] := by kernel_rfl
noncomputable def sha_Climb_v1_a (N : Nat) (f0 : Int × Int → Option ((List Bool))) (f1 : (List Int) × (List Int) → Option ((List Int))) (x : (List Int) × Int × Int × (List (List Int))) : Option ((List Int) × Int) :=
  (Option.bind
  (cond (decide (x.2.1 < (0 : Int)))
  (some true)
  (cond (decide (x.2.2.1 ≤ x.2.1))
  (some true)
  (some (decide ((1048576 : Int) < x.2.2.1)))))
  fun r5 =>
  (cond r5
  (some ((List.replicate 32 (EK.dflt (.int .u8))), (2 : Int)))
  (Option.bind (f0 (x.2.1, x.2.2.1)) fun r7 =>
  (cond (!(decide ((((List.length r7) : Nat) : Int) = (((List.length x.2.2.2) : Nat) : Int))))
  (some ((List.replicate 32 (EK.dflt (.int .u8))), (2 : Int)))
  (Option.bind (sha_Climb_v1_l0 N (x.2.2.2, (((List.length r7) : Nat) : Int), (0 : Int), x.1, r7)) fun r13 =>
  (some (r13.1, (0 : Int))))))))
theorem sha_Climb_v1_f (N : Nat) (f0 : Int × Int → Option ((List Bool))) (f1 : (List Int) × (List Int) → Option ((List Int))) (x) : sha_Climb_v1_a N f0 f1 x = fnStep Γ (sha_Climb_v1_CA N f0 f1) (sha_Climb_v1_J N) 56 Try.f27.results.toList (sha_Climb_v1_g N) sha_Climb_v1_o sha_Climb_v1_c x := by kernel_rfl
theorem sha_Climb_v1_e (N : Nat) (x) : (sha_Climb_v1_g N).F x = fnStep Γ (sha_Climb_v1_C N) (sha_Climb_v1_J N) 56 Try.f27.results.toList (sha_Climb_v1_g N) sha_Climb_v1_o sha_Climb_v1_c x := by
  rw [← sha_Climb_v1_CE N]
  exact Eq.trans (by kernel_rfl) (sha_Climb_v1_f N (sha_sides N) (sha_pair N) x)
theorem sha_Climb_v1_y : Try.f27.body = some sha_Climb_v1_c := by kernel_rfl
theorem sha_Climb_v1_n : (Try.f27.name == "runtime.NumGoroutine") = false := by kernel_rfl
theorem sha_Climb_v1_ok (N : Nat) : FnDoes Try.prog 27 (sha_Climb_v1_g N) := fn_ok tabOK (sha_Climb_v1_t N) mixedOK (J := sha_Climb_v1_J N) (body := sha_Climb_v1_c) Try.func27 sha_Climb_v1_y sha_Climb_v1_n Try.ntmps27 (jok_from sha_Climb_v1_i ⟨⟨.inr ⟨_, rfl, sha_Climb_v1_k0 N⟩, trivial⟩, trivial⟩) rfl rfl (le_of_ble rfl) (sha_Climb_v1_e N)
end Go.Rf.W
