/-
  The printed functions are what the program does.
-/
import Derived.Test.YtcehhkdpdehjhaaInoK0
set_option linter.unusedVariables false
set_option maxRecDepth 100000
namespace Go.Rf.W
open Go Go.Rf Go.Proofs
noncomputable def granaryref12_Apply_c : Code := codeOf Try.f21.body
noncomputable def granaryref12_Apply_J (N : Nat) : Nat → Hint := fun cx => hintOf cx [(0, { reg := fun k => assoc0 k [(4, ⟨⟨[(10, (.av (.one .bool)))], [(.keep, true), (.keep, true), (.keep, true), (.keep, true), (.keep, true), (.keep, true), (.keep, true), (.keep, true), (.keep, true), (.keep, true), (.keep, true), (.keep, true), (.keep, true), (.keep, false), (.keep, true), (.keep, true), (.keep, true), (.keep, true), (.keep, true), (.keep, true), (.keep, false), (.keep, true), (.keep, true), (.keep, true), (.keep, true), (.keep, true), (.keep, true), (.keep, true), (.keep, true), (.keep, true), (.keep, true), (.keep, true), (.keep, true), (.keep, true), (.keep, false)]⟩, [], [], [.bool]⟩), (5, ⟨⟨[(46, (.av (.one .bool)))], [(.keep, true), (.keep, true), (.keep, true), (.keep, true), (.keep, true), (.keep, true), (.keep, true), (.keep, true), (.keep, true), (.keep, true), (.keep, true), (.keep, true), (.keep, true), (.keep, false), (.keep, true), (.keep, true), (.keep, true), (.keep, true), (.keep, true), (.keep, true), (.keep, false), (.keep, true), (.keep, true), (.keep, true), (.keep, true), (.keep, true), (.keep, true), (.keep, true), (.keep, true), (.keep, true), (.keep, true), (.keep, true), (.keep, true), (.keep, true), (.keep, false)]⟩, [], [], [.bool]⟩), (7, ⟨⟨[(70, (.av (.one .bool)))], [(.keep, true), (.keep, true), (.keep, true), (.keep, true), (.keep, true), (.keep, true), (.keep, true), (.keep, true), (.keep, true), (.keep, true), (.keep, true), (.keep, true), (.keep, true), (.keep, false), (.keep, true), (.keep, true), (.keep, true), (.keep, true), (.keep, true), (.keep, true), (.keep, false), (.keep, true), (.keep, true), (.keep, true), (.keep, true), (.keep, true), (.keep, true), (.keep, true), (.keep, true), (.keep, true), (.keep, true), (.keep, true), (.keep, true), (.keep, true), (.keep, false)]⟩, [], [], [.bool]⟩), (9, ⟨⟨[(11, (.av (.one .bool)))], [(.keep, true), (.keep, true), (.keep, true), (.keep, true), (.keep, true), (.keep, true), (.keep, true), (.keep, true), (.keep, true), (.keep, true), (.keep, true), (.keep, true), (.keep, true), (.keep, false), (.keep, true), (.keep, true), (.keep, true), (.keep, true), (.keep, true), (.keep, true), (.keep, false), (.keep, true), (.keep, true), (.keep, true), (.keep, true), (.keep, true), (.keep, true), (.keep, true), (.keep, true), (.keep, true), (.keep, true), (.keep, true), (.keep, true), (.keep, true), (.keep, false)]⟩, [], [], [.bool]⟩)], cnd := fun k => assoc0 k [(82, ⟨[], [10], [(.normal, ⟨[], [(.keep, true), (.keep, true), (.keep, true), (.keep, true), (.keep, true), (.keep, true), (.keep, true), (.keep, true), (.keep, true), (.keep, true), (.sh (.one (.int .u64)), true), (.keep, true), (.keep, true), (.keep, false), (.keep, true), (.keep, true), (.keep, true), (.keep, true), (.keep, true), (.keep, true), (.keep, false), (.keep, true), (.keep, true), (.keep, true), (.keep, true), (.keep, true), (.keep, true), (.keep, true), (.keep, true), (.keep, true), (.keep, true), (.keep, true), (.keep, true), (.keep, true), (.keep, false)]⟩)], [[.int]]⟩), (87, ⟨[], [11], [(.normal, ⟨[], [(.keep, true), (.keep, true), (.keep, true), (.keep, true), (.keep, true), (.keep, true), (.keep, true), (.keep, true), (.keep, true), (.keep, true), (.keep, true), (.sh (.one (.int .u64)), true), (.keep, true), (.keep, false), (.keep, true), (.keep, true), (.keep, true), (.keep, true), (.keep, true), (.keep, true), (.keep, false), (.keep, true), (.keep, true), (.keep, true), (.keep, true), (.keep, true), (.keep, true), (.keep, true), (.keep, true), (.keep, true), (.keep, true), (.keep, true), (.keep, true), (.keep, true), (.keep, false)]⟩)], [[.int]]⟩), (92, ⟨[], [3], [(.normal, ⟨[], [(.keep, true), (.keep, true), (.keep, true), (.sh (.one (.int .u32)), true), (.keep, true), (.keep, true), (.keep, true), (.keep, true), (.keep, true), (.keep, true), (.keep, true), (.keep, true), (.keep, true), (.keep, false), (.keep, true), (.keep, true), (.keep, true), (.keep, true), (.keep, true), (.keep, true), (.keep, false), (.keep, true), (.keep, true), (.keep, true), (.keep, true), (.keep, true), (.keep, true), (.keep, true), (.keep, true), (.keep, true), (.keep, true), (.keep, true), (.keep, true), (.keep, true), (.keep, false)]⟩)], [[.int]]⟩), (98, ⟨[], [5], [(.normal, ⟨[], [(.keep, true), (.keep, true), (.keep, true), (.keep, true), (.keep, true), (.sh (.one (.int .u32)), true), (.keep, true), (.keep, true), (.keep, true), (.keep, true), (.keep, true), (.keep, true), (.keep, true), (.keep, false), (.keep, true), (.keep, true), (.keep, true), (.keep, true), (.keep, true), (.keep, true), (.keep, false), (.keep, true), (.keep, true), (.keep, true), (.keep, true), (.keep, true), (.keep, true), (.keep, true), (.keep, true), (.keep, true), (.keep, true), (.keep, true), (.keep, true), (.keep, true), (.keep, false)]⟩)], [[.int]]⟩), (104, ⟨[], [6], [(.normal, ⟨[], [(.keep, true), (.keep, true), (.keep, true), (.keep, true), (.keep, true), (.keep, true), (.sh (.one (.int .u32)), true), (.keep, true), (.keep, true), (.keep, true), (.keep, true), (.keep, true), (.keep, true), (.keep, false), (.keep, true), (.keep, true), (.keep, true), (.keep, true), (.keep, true), (.keep, true), (.keep, false), (.keep, true), (.keep, true), (.keep, true), (.keep, true), (.keep, true), (.keep, true), (.keep, true), (.keep, true), (.keep, true), (.keep, true), (.keep, true), (.keep, true), (.keep, true), (.keep, false)]⟩)], [[.int]]⟩), (110, ⟨[], [7], [(.normal, ⟨[], [(.keep, true), (.keep, true), (.keep, true), (.keep, true), (.keep, true), (.keep, true), (.keep, true), (.sh (.one (.int .u64)), true), (.keep, true), (.keep, true), (.keep, true), (.keep, true), (.keep, true), (.keep, false), (.keep, true), (.keep, true), (.keep, true), (.keep, true), (.keep, true), (.keep, true), (.keep, false), (.keep, true), (.keep, true), (.keep, true), (.keep, true), (.keep, true), (.keep, true), (.keep, true), (.keep, true), (.keep, true), (.keep, true), (.keep, true), (.keep, true), (.keep, true), (.keep, false)]⟩)], [[.int]]⟩), (116, ⟨[], [9], [(.normal, ⟨[], [(.keep, true), (.keep, true), (.keep, true), (.keep, true), (.keep, true), (.keep, true), (.keep, true), (.keep, true), (.keep, true), (.sh (.one (.int .u64)), true), (.keep, true), (.keep, true), (.keep, true), (.keep, false), (.keep, true), (.keep, true), (.keep, true), (.keep, true), (.keep, true), (.keep, true), (.keep, false), (.keep, true), (.keep, true), (.keep, true), (.keep, true), (.keep, true), (.keep, true), (.keep, true), (.keep, true), (.keep, true), (.keep, true), (.keep, true), (.keep, true), (.keep, true), (.keep, false)]⟩)], [[.int]]⟩), (122, ⟨[], [10], [(.normal, ⟨[], [(.keep, true), (.keep, true), (.keep, true), (.keep, true), (.keep, true), (.keep, true), (.keep, true), (.keep, true), (.keep, true), (.keep, true), (.sh (.one (.int .u64)), true), (.keep, true), (.keep, true), (.keep, false), (.keep, true), (.keep, true), (.keep, true), (.keep, true), (.keep, true), (.keep, true), (.keep, false), (.keep, true), (.keep, true), (.keep, true), (.keep, true), (.keep, true), (.keep, true), (.keep, true), (.keep, true), (.keep, true), (.keep, true), (.keep, true), (.keep, true), (.keep, true), (.keep, false)]⟩)], [[.int]]⟩), (128, ⟨[], [9], [(.normal, ⟨[], [(.keep, true), (.keep, true), (.keep, true), (.keep, true), (.keep, true), (.keep, true), (.keep, true), (.keep, true), (.keep, true), (.sh (.one (.int .u64)), true), (.keep, true), (.keep, true), (.keep, true), (.keep, false), (.keep, true), (.keep, true), (.keep, true), (.keep, true), (.keep, true), (.keep, true), (.keep, false), (.keep, true), (.keep, true), (.keep, true), (.keep, true), (.keep, true), (.keep, true), (.keep, true), (.keep, true), (.keep, true), (.keep, true), (.keep, true), (.keep, true), (.keep, true), (.keep, false)]⟩)], [[.int]]⟩), (133, ⟨[], [10], [(.normal, ⟨[], [(.keep, true), (.keep, true), (.keep, true), (.keep, true), (.keep, true), (.keep, true), (.keep, true), (.keep, true), (.keep, true), (.keep, true), (.sh (.one (.int .u64)), true), (.keep, true), (.keep, true), (.keep, false), (.keep, true), (.keep, true), (.keep, true), (.keep, true), (.keep, true), (.keep, true), (.keep, false), (.keep, true), (.keep, true), (.keep, true), (.keep, true), (.keep, true), (.keep, true), (.keep, true), (.keep, true), (.keep, true), (.keep, true), (.keep, true), (.keep, true), (.keep, true), (.keep, false)]⟩)], [[.int]]⟩)], loop := fun k => assoc0 k [], nil := fun k => assoc0 k [], unr := fun k => assocN k [], blk := fun k => assoc0 k [] })]
noncomputable def granaryref12_Apply_C (N : Nat) : Nat → List GS := fun k => tabOf k [(19, [granaryref12_Check_g N]), (54, [granaryref12_has_g N])]
def granaryref12_Apply_o : List (Shp × List Nat) := [(⟨[(0, (.tup [(.agg [(.one (.int .u64)), (.one (.int .u32)), (.one (.int .i64)), (.one (.int .u32)), (.one (.int .u32)), (.one (.int .u32)), (.one (.int .u32)), (.one (.int .u64)), (.one (.int .u64)), (.one (.int .u64)), (.one (.int .u64)), (.one (.int .u64)), (.one (.int .u64)), (.one .str)]), (.one .bool), (.one (.int .i64))]))], []⟩, [])]
noncomputable def granaryref12_Apply_g (N : Nat) : GS := { ins := ⟨[(0, (.av (.agg [(.one (.int .u64)), (.one (.int .u32)), (.one (.int .i64)), (.one (.int .u32)), (.one (.int .u32)), (.one (.int .u32)), (.one (.int .u32)), (.one (.int .u64)), (.one (.int .u64)), (.one (.int .u64)), (.one (.int .u64)), (.one (.int .u64)), (.one (.int .u64)), (.one .str)]))), (1, (.av (.agg [(.one (.int .i64)), (.one (.int .u32)), (.one (.int .u32)), (.one (.int .u32)), (.one (.int .u64)), (.one (.int .u64)), (.one (.int .u64))]))), (2, (.av (.one (.int .u64))))], []⟩, lend := [.keep, .keep, .keep], outs := granaryref12_Apply_o.map fun s => ssOf s.1, its := ((.int : LK) :: (.int : LK) :: (.int : LK) :: (.int : LK) :: (.int : LK) :: (.int : LK) :: (.int : LK) :: (.int : LK) :: (.int : LK) :: (.int : LK) :: (.int : LK) :: (.int : LK) :: (.int : LK) :: (.str : LK) :: (.int : LK) :: (.int : LK) :: (.int : LK) :: (.int : LK) :: (.int : LK) :: (.int : LK) :: (.int : LK) :: (.int : LK) :: []), ots := [[.int, .int, .int, .int, .int, .int, .int, .int, .int, .int, .int, .int, .int, .str, .bool, .int]], F := granaryref12_Apply }
noncomputable def granaryref12_Apply_CA (N : Nat) (f0 : Int × Int × Int × Int × Int × Int × Int × Int × Int × Int × Int × Int × Int × (List UInt8) → Option (Int)) (f1 : Int × Int → Option (Bool)) : Nat → List GS := fun k => tabOf k [(19, [{ granaryref12_Check_g N with F := f0 }]), (54, [{ granaryref12_has_g N with F := f1 }])]
theorem granaryref12_Apply_CE (N : Nat) : granaryref12_Apply_CA N (granaryref12_Check) (granaryref12_has) = granaryref12_Apply_C N := by kernel_rfl
theorem granaryref12_Apply_t (N : Nat) : TabC Try.prog (granaryref12_Apply_C N) := tab_ok ⟨⟨granaryref12_Check_ok N, trivial⟩, ⟨granaryref12_has_ok N, trivial⟩, trivial⟩
theorem granaryref12_Apply_i : loopsOf granaryref12_Apply_c = [] := by kernel_rfl
noncomputable def granaryref12_Apply_a (N : Nat) (f0 : Int × Int × Int × Int × Int × Int × Int × Int × Int × Int × Int × Int × Int × (List UInt8) → Option (Int)) (f1 : Int × Int → Option (Bool)) (x : Int × Int × Int × Int × Int × Int × Int × Int × Int × Int × Int × Int × Int × (List UInt8) × Int × Int × Int × Int × Int × Int × Int × Int) : Option (Int × Int × Int × Int × Int × Int × Int × Int × Int × Int × Int × Int × Int × (List UInt8) × Bool × Int) :=
  (Option.bind (f0 (x.1, x.2.1, x.2.2.1, x.2.2.2.1, x.2.2.2.2.1, x.2.2.2.2.2.1, x.2.2.2.2.2.2.1, x.2.2.2.2.2.2.2.1, x.2.2.2.2.2.2.2.2.1, x.2.2.2.2.2.2.2.2.2.1, x.2.2.2.2.2.2.2.2.2.2.1, x.2.2.2.2.2.2.2.2.2.2.2.1, x.2.2.2.2.2.2.2.2.2.2.2.2.1, x.2.2.2.2.2.2.2.2.2.2.2.2.2.1)) fun r2 =>
  (cond (!(decide (r2 = (0 : Int))))
  (some ((0 : Int), (0 : Int), (0 : Int), (0 : Int), (0 : Int), (0 : Int), (0 : Int), (0 : Int), (0 : Int), (0 : Int), (0 : Int), (0 : Int), (0 : Int), ([] : List UInt8), false, r2))
  (Option.bind
  (cond (decide (x.2.2.2.2.2.2.2.2.2.2.2.2.2.2.1 < (0 : Int)))
  (some true)
  (some (decide ((255 : Int) < x.2.2.2.2.2.2.2.2.2.2.2.2.2.2.1))))
  fun r7 =>
  (Option.bind
  (cond r7
  (some true)
  (Option.bind (f1 (x.2.2.2.2.2.2.2.2.2.2.2.2.2.2.1, (16 : Int))) fun r8 =>
  (cond r8
  (Option.bind (f1 (x.2.2.2.2.2.2.2.2.2.2.2.2.2.2.1, (64 : Int))) fun r9 =>
  (cond r9
  (some true)
  (Option.bind (f1 (x.2.2.2.2.2.2.2.2.2.2.2.2.2.2.1, (32 : Int))) fun r10 =>
  (cond r10
  (Option.bind (f1 (x.2.2.2.2.2.2.2.2.2.2.2.2.2.2.1, (128 : Int))) fun r11 =>
  (some r11))
  (some false)))))
  (Option.bind (f1 (x.2.2.2.2.2.2.2.2.2.2.2.2.2.2.1, (32 : Int))) fun r12 =>
  (cond r12
  (Option.bind (f1 (x.2.2.2.2.2.2.2.2.2.2.2.2.2.2.1, (128 : Int))) fun r13 =>
  (some r13))
  (some false))))))
  fun r14 =>
  (cond r14
  (some ((0 : Int), (0 : Int), (0 : Int), (0 : Int), (0 : Int), (0 : Int), (0 : Int), (0 : Int), (0 : Int), (0 : Int), (0 : Int), (0 : Int), (0 : Int), ([] : List UInt8), false, (122 : Int)))
  (Option.bind
  (Option.bind (f1 (x.2.2.2.2.2.2.2.2.2.2.2.2.2.2.1, (1 : Int))) fun r16 =>
  (cond r16
  (cond (decide ((4095 : Int) < x.2.2.2.2.2.2.2.2.2.2.2.2.2.2.2.1))
  (some true)
  (Option.bind (f1 (x.2.2.2.2.2.2.2.2.2.2.2.2.2.2.1, (8 : Int))) fun r18 =>
  (cond r18
  (cond (decide ((1048576 : Int) < x.2.2.2.2.2.2.2.2.2.2.2.2.2.2.2.2.2.2.1))
  (some true)
  (some (!(decide (x.2.2.1 = (1 : Int))))))
  (some false))))
  (Option.bind (f1 (x.2.2.2.2.2.2.2.2.2.2.2.2.2.2.1, (8 : Int))) fun r21 =>
  (cond r21
  (cond (decide ((1048576 : Int) < x.2.2.2.2.2.2.2.2.2.2.2.2.2.2.2.2.2.2.1))
  (some true)
  (some (!(decide (x.2.2.1 = (1 : Int))))))
  (some false)))))
  fun r24 =>
  (cond r24
  (some ((0 : Int), (0 : Int), (0 : Int), (0 : Int), (0 : Int), (0 : Int), (0 : Int), (0 : Int), (0 : Int), (0 : Int), (0 : Int), (0 : Int), (0 : Int), ([] : List UInt8), false, (122 : Int)))
  (Option.bind
  (Option.bind (f1 (x.2.2.2.2.2.2.2.2.2.2.2.2.2.2.1, (8 : Int))) fun r26 =>
  (cond r26
  (some (!(decide (x.2.2.2.2.2.2.2.2.2.2.2.2.2.2.2.2.2.2.1 = x.2.2.2.2.2.2.2.1))))
  (some false)))
  fun r28 =>
  (Option.bind
  (cond r28
  (some x.2.2.2.2.2.2.2.2.2.2.2.2.2.2.2.2.2.2.2.2.2)
  (some x.2.2.2.2.2.2.2.2.2.2.1))
  fun r29 =>
  (Option.bind
  (cond (!(decide (x.2.2.2.2.2.2.2.2.2.2.2.2.2.2.1 = (0 : Int))))
  (some x.2.2.2.2.2.2.2.2.2.2.2.2.2.2.2.2.2.2.2.2.2)
  (some x.2.2.2.2.2.2.2.2.2.2.2.1))
  fun r31 =>
  (Option.bind (f1 (x.2.2.2.2.2.2.2.2.2.2.2.2.2.2.1, (1 : Int))) fun r32 =>
  (Option.bind
  (cond r32
  (some x.2.2.2.2.2.2.2.2.2.2.2.2.2.2.2.1)
  (some x.2.2.2.1))
  fun r33 =>
  (Option.bind (f1 (x.2.2.2.2.2.2.2.2.2.2.2.2.2.2.1, (2 : Int))) fun r34 =>
  (Option.bind
  (cond r34
  (some x.2.2.2.2.2.2.2.2.2.2.2.2.2.2.2.2.1)
  (some x.2.2.2.2.2.1))
  fun r35 =>
  (Option.bind (f1 (x.2.2.2.2.2.2.2.2.2.2.2.2.2.2.1, (4 : Int))) fun r36 =>
  (Option.bind
  (cond r36
  (some x.2.2.2.2.2.2.2.2.2.2.2.2.2.2.2.2.2.1)
  (some x.2.2.2.2.2.2.1))
  fun r37 =>
  (Option.bind (f1 (x.2.2.2.2.2.2.2.2.2.2.2.2.2.2.1, (8 : Int))) fun r38 =>
  (Option.bind
  (cond r38
  (some x.2.2.2.2.2.2.2.2.2.2.2.2.2.2.2.2.2.2.1)
  (some x.2.2.2.2.2.2.2.1))
  fun r39 =>
  (Option.bind (f1 (x.2.2.2.2.2.2.2.2.2.2.2.2.2.2.1, (16 : Int))) fun r40 =>
  (Option.bind
  (cond r40
  (some x.2.2.2.2.2.2.2.2.2.2.2.2.2.2.2.2.2.2.2.1)
  (some x.2.2.2.2.2.2.2.2.2.1))
  fun r41 =>
  (Option.bind (f1 (x.2.2.2.2.2.2.2.2.2.2.2.2.2.2.1, (32 : Int))) fun r42 =>
  (Option.bind
  (cond r42
  (some x.2.2.2.2.2.2.2.2.2.2.2.2.2.2.2.2.2.2.2.2.1)
  (some r29))
  fun r43 =>
  (Option.bind (f1 (x.2.2.2.2.2.2.2.2.2.2.2.2.2.2.1, (64 : Int))) fun r44 =>
  (Option.bind
  (cond r44
  (some x.2.2.2.2.2.2.2.2.2.2.2.2.2.2.2.2.2.2.2.2.2)
  (some r41))
  fun r45 =>
  (Option.bind (f1 (x.2.2.2.2.2.2.2.2.2.2.2.2.2.2.1, (128 : Int))) fun r46 =>
  (Option.bind
  (cond r46
  (some x.2.2.2.2.2.2.2.2.2.2.2.2.2.2.2.2.2.2.2.2.2)
  (some r43))
  fun r47 =>
  (some (x.1, x.2.1, x.2.2.1, r33, x.2.2.2.2.1, r35, r37, r39, x.2.2.2.2.2.2.2.2.1, r45, r47, r31, x.2.2.2.2.2.2.2.2.2.2.2.2.1, x.2.2.2.2.2.2.2.2.2.2.2.2.2.1, r28, (0 : Int)))))))))))))))))))))))))))))
theorem granaryref12_Apply_f (N : Nat) (f0 : Int × Int × Int × Int × Int × Int × Int × Int × Int × Int × Int × Int × Int × (List UInt8) → Option (Int)) (f1 : Int × Int → Option (Bool)) (x) : granaryref12_Apply_a N f0 f1 x = fnStep Γ (granaryref12_Apply_CA N f0 f1) (granaryref12_Apply_J N) 138 Try.f21.results.toList (granaryref12_Apply_g N) granaryref12_Apply_o granaryref12_Apply_c x := by kernel_rfl
theorem granaryref12_Apply_e (N : Nat) (x) : (granaryref12_Apply_g N).F x = fnStep Γ (granaryref12_Apply_C N) (granaryref12_Apply_J N) 138 Try.f21.results.toList (granaryref12_Apply_g N) granaryref12_Apply_o granaryref12_Apply_c x := by
  rw [← granaryref12_Apply_CE N]
  exact Eq.trans (by kernel_rfl) (granaryref12_Apply_f N (granaryref12_Check) (granaryref12_has) x)
theorem granaryref12_Apply_y : Try.f21.body = some granaryref12_Apply_c := by kernel_rfl
theorem granaryref12_Apply_n : (Try.f21.name == "runtime.NumGoroutine") = false := by kernel_rfl
theorem granaryref12_Apply_ok (N : Nat) : FnDoes Try.prog 21 (granaryref12_Apply_g N) := fn_ok tabOK (granaryref12_Apply_t N) mixedOK (J := granaryref12_Apply_J N) (body := granaryref12_Apply_c) Try.func21 granaryref12_Apply_y granaryref12_Apply_n Try.ntmps21 (jok_from granaryref12_Apply_i ⟨trivial, trivial⟩) rfl rfl (le_of_ble rfl) (granaryref12_Apply_e N)
noncomputable def granaryref12_New_c : Code := codeOf Try.f29.body
noncomputable def granaryref12_New_J (N : Nat) : Nat → Hint := fun cx => hintOf cx [(0, { reg := fun k => assoc0 k [(1, ⟨⟨[(30, (.av (.one .bool)))], [(.keep, true), (.keep, true), (.keep, true), (.keep, true), (.keep, true), (.keep, true), (.keep, true), (.keep, true), (.keep, true), (.keep, true), (.keep, true), (.keep, true), (.keep, true), (.keep, false)]⟩, [], [], [.bool]⟩)], cnd := fun k => assoc0 k [(45, ⟨[], [18], [(.normal, ⟨[], [(.keep, true), (.keep, true), (.keep, true), (.keep, true), (.keep, true), (.keep, true), (.keep, true), (.keep, true), (.keep, true), (.keep, true), (.keep, true), (.keep, true), (.keep, true), (.keep, false), (.keep, true), (.keep, true), (.keep, true), (.keep, true), (.sh (.one (.int .u32)), true), (.keep, true), (.keep, true), (.keep, true), (.keep, true), (.keep, true), (.keep, true), (.keep, true), (.keep, true), (.keep, false)]⟩)], [[.int]]⟩)], loop := fun k => assoc0 k [], nil := fun k => assoc0 k [], unr := fun k => assocN k [], blk := fun k => assoc0 k [] })]
noncomputable def granaryref12_New_C (N : Nat) : Nat → List GS := fun k => tabOf k []
def granaryref12_New_o : List (Shp × List Nat) := [(⟨[(0, (.tup [(.agg [(.one (.int .u64)), (.one (.int .u32)), (.one (.int .i64)), (.one (.int .u32)), (.one (.int .u32)), (.one (.int .u32)), (.one (.int .u32)), (.one (.const (.int .u64 (0 : Int)))), (.one (.const (.int .u64 (0 : Int)))), (.one (.int .u64)), (.one (.int .u64)), (.one (.int .u64)), (.one (.const (.int .u64 (0 : Int)))), (.one .str)]), (.one (.int .i64))]))], []⟩, [])]
noncomputable def granaryref12_New_g (N : Nat) : GS := { ins := ⟨[(0, (.av (.one (.int .u64)))), (1, (.av (.one (.int .u32)))), (2, (.av (.one (.int .i64)))), (3, (.av (.one (.int .u32)))), (4, (.av (.one (.int .u32)))), (5, (.av (.one (.int .u32)))), (6, (.av (.one (.int .u64))))], []⟩, lend := [.keep, .keep, .keep, .keep, .keep, .keep, .keep], outs := granaryref12_New_o.map fun s => ssOf s.1, its := [.int, .int, .int, .int, .int, .int, .int], ots := [[.int, .int, .int, .int, .int, .int, .int, .int, .int, .int, .str, .int]], F := granaryref12_New }
theorem granaryref12_New_t (N : Nat) : TabC Try.prog (granaryref12_New_C N) := tab_ok trivial
theorem granaryref12_New_i : loopsOf granaryref12_New_c = [] := by kernel_rfl
theorem granaryref12_New_e (N : Nat) (x) : (granaryref12_New_g N).F x = fnStep Γ (granaryref12_New_C N) (granaryref12_New_J N) 48 Try.f29.results.toList (granaryref12_New_g N) granaryref12_New_o granaryref12_New_c x := by kernel_rfl
theorem granaryref12_New_y : Try.f29.body = some granaryref12_New_c := by kernel_rfl
theorem granaryref12_New_n : (Try.f29.name == "runtime.NumGoroutine") = false := by kernel_rfl
theorem granaryref12_New_ok (N : Nat) : FnDoes Try.prog 29 (granaryref12_New_g N) := fn_ok tabOK (granaryref12_New_t N) mixedOK (J := granaryref12_New_J N) (body := granaryref12_New_c) Try.func29 granaryref12_New_y granaryref12_New_n Try.ntmps29 (jok_from granaryref12_New_i ⟨trivial, trivial⟩) rfl rfl (le_of_ble rfl) (granaryref12_New_e N)
noncomputable def inode_Attributes_c : Code := codeOf Try.f30.body
noncomputable def inode_Attributes_J (N : Nat) : Nat → Hint := fun cx => hintOf cx []
noncomputable def inode_Attributes_C (N : Nat) : Nat → List GS := fun k => tabOf k [(18, [inode_Check_g N])]
def inode_Attributes_o : List (Shp × List Nat) := [(⟨[(0, (.tup [(.agg [(.one (.int .i64)), (.one (.int .u32)), (.one (.int .u32)), (.one (.int .u32)), (.one (.int .u32)), (.one (.int .u64)), (.one (.int .u64)), (.one (.int .u64)), (.one (.int .u64)), (.one (.int .u64)), (.one (.int .u64)), (.one (.int .u64))]), (.one (.int .i64))]))], []⟩, [])]
noncomputable def inode_Attributes_g (N : Nat) : GS := { ins := ⟨[(0, (.av (.agg [(.one (.int .u64)), (.one (.int .u32)), (.one (.int .i64)), (.one (.int .u32)), (.one (.int .u32)), (.one (.int .u32)), (.one (.int .u32)), (.one (.int .u64)), (.one (.int .u64)), (.one (.int .u64)), (.one (.int .u64)), (.one (.int .u64)), (.one (.int .u64)), (.one .str)]))), (1, (.av (.one (.int .u32))))], []⟩, lend := [.keep, .keep], outs := inode_Attributes_o.map fun s => ssOf s.1, its := [.int, .int, .int, .int, .int, .int, .int, .int, .int, .int, .int, .int, .int, .str, .int], ots := [[.int, .int, .int, .int, .int, .int, .int, .int, .int, .int, .int, .int, .int]], F := inode_Attributes }
noncomputable def inode_Attributes_CA (N : Nat) (f0 : Int × Int × Int × Int × Int × Int × Int × Int × Int × Int × Int × Int × Int × (List UInt8) → Option (Int)) : Nat → List GS := fun k => tabOf k [(18, [{ inode_Check_g N with F := f0 }])]
theorem inode_Attributes_CE (N : Nat) : inode_Attributes_CA N (inode_Check) = inode_Attributes_C N := by kernel_rfl
theorem inode_Attributes_t (N : Nat) : TabC Try.prog (inode_Attributes_C N) := tab_ok ⟨⟨inode_Check_ok N, trivial⟩, trivial⟩
theorem inode_Attributes_i : loopsOf inode_Attributes_c = [] := by kernel_rfl
noncomputable def inode_Attributes_a (N : Nat) (f0 : Int × Int × Int × Int × Int × Int × Int × Int × Int × Int × Int × Int × Int × (List UInt8) → Option (Int)) (x : Int × Int × Int × Int × Int × Int × Int × Int × Int × Int × Int × Int × Int × (List UInt8) × Int) : Option (Int × Int × Int × Int × Int × Int × Int × Int × Int × Int × Int × Int × Int) :=
  (Option.bind (f0 (x.1, x.2.1, x.2.2.1, x.2.2.2.1, x.2.2.2.2.1, x.2.2.2.2.2.1, x.2.2.2.2.2.2.1, x.2.2.2.2.2.2.2.1, x.2.2.2.2.2.2.2.2.1, x.2.2.2.2.2.2.2.2.2.1, x.2.2.2.2.2.2.2.2.2.2.1, x.2.2.2.2.2.2.2.2.2.2.2.1, x.2.2.2.2.2.2.2.2.2.2.2.2.1, x.2.2.2.2.2.2.2.2.2.2.2.2.2.1)) fun r1 =>
  (cond (!(decide (r1 = (0 : Int))))
  (some ((0 : Int), (0 : Int), (0 : Int), (0 : Int), (0 : Int), (0 : Int), (0 : Int), (0 : Int), (0 : Int), (0 : Int), (0 : Int), (0 : Int), r1))
  (cond (decide ((18014398509481984 : Int) < x.2.2.2.2.2.2.2.2.1))
  (some ((0 : Int), (0 : Int), (0 : Int), (0 : Int), (0 : Int), (0 : Int), (0 : Int), (0 : Int), (0 : Int), (0 : Int), (0 : Int), (0 : Int), (122 : Int)))
  (some (x.2.2.1, x.2.2.2.1, x.2.2.2.2.1, x.2.2.2.2.2.1, x.2.2.2.2.2.2.1, x.2.2.2.2.2.2.2.1, (wrapF .u64 (x.2.2.2.2.2.2.2.2.1 * (384 : Int))), (wrapF .u64 x.2.2.2.2.2.2.2.2.2.2.2.2.2.2), x.1, x.2.2.2.2.2.2.2.2.2.1, x.2.2.2.2.2.2.2.2.2.2.1, x.2.2.2.2.2.2.2.2.2.2.2.1, (0 : Int))))))
theorem inode_Attributes_f (N : Nat) (f0 : Int × Int × Int × Int × Int × Int × Int × Int × Int × Int × Int × Int × Int × (List UInt8) → Option (Int)) (x) : inode_Attributes_a N f0 x = fnStep Γ (inode_Attributes_CA N f0) (inode_Attributes_J N) 43 Try.f30.results.toList (inode_Attributes_g N) inode_Attributes_o inode_Attributes_c x := by kernel_rfl
theorem inode_Attributes_e (N : Nat) (x) : (inode_Attributes_g N).F x = fnStep Γ (inode_Attributes_C N) (inode_Attributes_J N) 43 Try.f30.results.toList (inode_Attributes_g N) inode_Attributes_o inode_Attributes_c x := by
  rw [← inode_Attributes_CE N]
  exact Eq.trans (by kernel_rfl) (inode_Attributes_f N (inode_Check) x)
theorem inode_Attributes_y : Try.f30.body = some inode_Attributes_c := by kernel_rfl
theorem inode_Attributes_n : (Try.f30.name == "runtime.NumGoroutine") = false := by kernel_rfl
theorem inode_Attributes_ok (N : Nat) : FnDoes Try.prog 30 (inode_Attributes_g N) := fn_ok tabOK (inode_Attributes_t N) mixedOK (J := inode_Attributes_J N) (body := inode_Attributes_c) Try.func30 inode_Attributes_y inode_Attributes_n Try.ntmps30 (jok_from inode_Attributes_i trivial) rfl rfl (le_of_ble rfl) (inode_Attributes_e N)
noncomputable def granaryref12_Attributes_c : Code := codeOf Try.f31.body
noncomputable def granaryref12_Attributes_J (N : Nat) : Nat → Hint := fun cx => hintOf cx []
noncomputable def granaryref12_Attributes_C (N : Nat) : Nat → List GS := fun k => tabOf k [(19, [granaryref12_Check_g N])]
def granaryref12_Attributes_o : List (Shp × List Nat) := [(⟨[(0, (.tup [(.agg [(.one (.int .i64)), (.one (.int .u32)), (.one (.int .u32)), (.one (.int .u32)), (.one (.int .u32)), (.one (.int .u64)), (.one (.int .u64)), (.one (.int .u64)), (.one (.int .u64)), (.one (.int .u64)), (.one (.int .u64)), (.one (.int .u64))]), (.one (.int .i64))]))], []⟩, [])]
noncomputable def granaryref12_Attributes_g (N : Nat) : GS := { ins := ⟨[(0, (.av (.agg [(.one (.int .u64)), (.one (.int .u32)), (.one (.int .i64)), (.one (.int .u32)), (.one (.int .u32)), (.one (.int .u32)), (.one (.int .u32)), (.one (.int .u64)), (.one (.int .u64)), (.one (.int .u64)), (.one (.int .u64)), (.one (.int .u64)), (.one (.int .u64)), (.one .str)]))), (1, (.av (.one (.int .u32))))], []⟩, lend := [.keep, .keep], outs := granaryref12_Attributes_o.map fun s => ssOf s.1, its := [.int, .int, .int, .int, .int, .int, .int, .int, .int, .int, .int, .int, .int, .str, .int], ots := [[.int, .int, .int, .int, .int, .int, .int, .int, .int, .int, .int, .int, .int]], F := granaryref12_Attributes }
noncomputable def granaryref12_Attributes_CA (N : Nat) (f0 : Int × Int × Int × Int × Int × Int × Int × Int × Int × Int × Int × Int × Int × (List UInt8) → Option (Int)) : Nat → List GS := fun k => tabOf k [(19, [{ granaryref12_Check_g N with F := f0 }])]
theorem granaryref12_Attributes_CE (N : Nat) : granaryref12_Attributes_CA N (granaryref12_Check) = granaryref12_Attributes_C N := by kernel_rfl
theorem granaryref12_Attributes_t (N : Nat) : TabC Try.prog (granaryref12_Attributes_C N) := tab_ok ⟨⟨granaryref12_Check_ok N, trivial⟩, trivial⟩
theorem granaryref12_Attributes_i : loopsOf granaryref12_Attributes_c = [] := by kernel_rfl
noncomputable def granaryref12_Attributes_a (N : Nat) (f0 : Int × Int × Int × Int × Int × Int × Int × Int × Int × Int × Int × Int × Int × (List UInt8) → Option (Int)) (x : Int × Int × Int × Int × Int × Int × Int × Int × Int × Int × Int × Int × Int × (List UInt8) × Int) : Option (Int × Int × Int × Int × Int × Int × Int × Int × Int × Int × Int × Int × Int) :=
  (Option.bind (f0 (x.1, x.2.1, x.2.2.1, x.2.2.2.1, x.2.2.2.2.1, x.2.2.2.2.2.1, x.2.2.2.2.2.2.1, x.2.2.2.2.2.2.2.1, x.2.2.2.2.2.2.2.2.1, x.2.2.2.2.2.2.2.2.2.1, x.2.2.2.2.2.2.2.2.2.2.1, x.2.2.2.2.2.2.2.2.2.2.2.1, x.2.2.2.2.2.2.2.2.2.2.2.2.1, x.2.2.2.2.2.2.2.2.2.2.2.2.2.1)) fun r1 =>
  (cond (!(decide (r1 = (0 : Int))))
  (some ((0 : Int), (0 : Int), (0 : Int), (0 : Int), (0 : Int), (0 : Int), (0 : Int), (0 : Int), (0 : Int), (0 : Int), (0 : Int), (0 : Int), r1))
  (cond (decide ((18014398509481984 : Int) < x.2.2.2.2.2.2.2.2.1))
  (some ((0 : Int), (0 : Int), (0 : Int), (0 : Int), (0 : Int), (0 : Int), (0 : Int), (0 : Int), (0 : Int), (0 : Int), (0 : Int), (0 : Int), (122 : Int)))
  (some (x.2.2.1, x.2.2.2.1, x.2.2.2.2.1, x.2.2.2.2.2.1, x.2.2.2.2.2.2.1, x.2.2.2.2.2.2.2.1, (wrapF .u64 ((384 : Int) * x.2.2.2.2.2.2.2.2.1)), (wrapF .u64 x.2.2.2.2.2.2.2.2.2.2.2.2.2.2), x.1, x.2.2.2.2.2.2.2.2.2.1, x.2.2.2.2.2.2.2.2.2.2.1, x.2.2.2.2.2.2.2.2.2.2.2.1, (0 : Int))))))
theorem granaryref12_Attributes_f (N : Nat) (f0 : Int × Int × Int × Int × Int × Int × Int × Int × Int × Int × Int × Int × Int × (List UInt8) → Option (Int)) (x) : granaryref12_Attributes_a N f0 x = fnStep Γ (granaryref12_Attributes_CA N f0) (granaryref12_Attributes_J N) 43 Try.f31.results.toList (granaryref12_Attributes_g N) granaryref12_Attributes_o granaryref12_Attributes_c x := by kernel_rfl
theorem granaryref12_Attributes_e (N : Nat) (x) : (granaryref12_Attributes_g N).F x = fnStep Γ (granaryref12_Attributes_C N) (granaryref12_Attributes_J N) 43 Try.f31.results.toList (granaryref12_Attributes_g N) granaryref12_Attributes_o granaryref12_Attributes_c x := by
  rw [← granaryref12_Attributes_CE N]
  exact Eq.trans (by kernel_rfl) (granaryref12_Attributes_f N (granaryref12_Check) x)
theorem granaryref12_Attributes_y : Try.f31.body = some granaryref12_Attributes_c := by kernel_rfl
theorem granaryref12_Attributes_n : (Try.f31.name == "runtime.NumGoroutine") = false := by kernel_rfl
theorem granaryref12_Attributes_ok (N : Nat) : FnDoes Try.prog 31 (granaryref12_Attributes_g N) := fn_ok tabOK (granaryref12_Attributes_t N) mixedOK (J := granaryref12_Attributes_J N) (body := granaryref12_Attributes_c) Try.func31 granaryref12_Attributes_y granaryref12_Attributes_n Try.ntmps31 (jok_from granaryref12_Attributes_i trivial) rfl rfl (le_of_ble rfl) (granaryref12_Attributes_e N)
noncomputable def inode_Linked_c : Code := codeOf Try.f32.body
noncomputable def inode_Linked_J (N : Nat) : Nat → Hint := fun cx => hintOf cx [(0, { reg := fun k => assoc0 k [(4, ⟨⟨[(28, (.av (.one .bool)))], [(.keep, true), (.keep, true), (.keep, true), (.keep, true), (.keep, true), (.keep, true), (.keep, true), (.keep, true), (.keep, true), (.keep, true), (.keep, true), (.keep, true), (.keep, true), (.keep, false), (.keep, true), (.keep, true), (.keep, true), (.keep, true), (.keep, true), (.keep, true), (.keep, true), (.keep, true), (.keep, true), (.keep, true), (.keep, true), (.keep, true), (.keep, true), (.keep, false)]⟩, [], [], [.bool]⟩)], cnd := fun k => assoc0 k [], loop := fun k => assoc0 k [], nil := fun k => assoc0 k [], unr := fun k => assocN k [], blk := fun k => assoc0 k [] })]
noncomputable def inode_Linked_C (N : Nat) : Nat → List GS := fun k => tabOf k [(18, [inode_Check_g N])]
def inode_Linked_o : List (Shp × List Nat) := [(⟨[(0, (.tup [(.agg [(.one (.int .u64)), (.one (.int .u32)), (.one (.int .i64)), (.one (.int .u32)), (.one (.int .u32)), (.one (.int .u32)), (.one (.int .u32)), (.one (.int .u64)), (.one (.int .u64)), (.one (.int .u64)), (.one (.int .u64)), (.one (.int .u64)), (.one (.int .u64)), (.one .str)]), (.one (.int .i64))]))], []⟩, [])]
noncomputable def inode_Linked_g (N : Nat) : GS := { ins := ⟨[(0, (.av (.agg [(.one (.int .u64)), (.one (.int .u32)), (.one (.int .i64)), (.one (.int .u32)), (.one (.int .u32)), (.one (.int .u32)), (.one (.int .u32)), (.one (.int .u64)), (.one (.int .u64)), (.one (.int .u64)), (.one (.int .u64)), (.one (.int .u64)), (.one (.int .u64)), (.one .str)]))), (1, (.av (.one (.int .i64)))), (2, (.av (.one (.int .u64))))], []⟩, lend := [.keep, .keep, .keep], outs := inode_Linked_o.map fun s => ssOf s.1, its := [.int, .int, .int, .int, .int, .int, .int, .int, .int, .int, .int, .int, .int, .str, .int, .int], ots := [[.int, .int, .int, .int, .int, .int, .int, .int, .int, .int, .int, .int, .int, .str, .int]], F := inode_Linked }
noncomputable def inode_Linked_CA (N : Nat) (f0 : Int × Int × Int × Int × Int × Int × Int × Int × Int × Int × Int × Int × Int × (List UInt8) → Option (Int)) : Nat → List GS := fun k => tabOf k [(18, [{ inode_Check_g N with F := f0 }])]
theorem inode_Linked_CE (N : Nat) : inode_Linked_CA N (inode_Check) = inode_Linked_C N := by kernel_rfl
theorem inode_Linked_t (N : Nat) : TabC Try.prog (inode_Linked_C N) := tab_ok ⟨⟨inode_Check_ok N, trivial⟩, trivial⟩
theorem inode_Linked_i : loopsOf inode_Linked_c = [] := by kernel_rfl
noncomputable def inode_Linked_a (N : Nat) (f0 : Int × Int × Int × Int × Int × Int × Int × Int × Int × Int × Int × Int × Int × (List UInt8) → Option (Int)) (x : Int × Int × Int × Int × Int × Int × Int × Int × Int × Int × Int × Int × Int × (List UInt8) × Int × Int) : Option (Int × Int × Int × Int × Int × Int × Int × Int × Int × Int × Int × Int × Int × (List UInt8) × Int) :=
  (Option.bind (f0 (x.1, x.2.1, x.2.2.1, x.2.2.2.1, x.2.2.2.2.1, x.2.2.2.2.2.1, x.2.2.2.2.2.2.1, x.2.2.2.2.2.2.2.1, x.2.2.2.2.2.2.2.2.1, x.2.2.2.2.2.2.2.2.2.1, x.2.2.2.2.2.2.2.2.2.2.1, x.2.2.2.2.2.2.2.2.2.2.2.1, x.2.2.2.2.2.2.2.2.2.2.2.2.1, x.2.2.2.2.2.2.2.2.2.2.2.2.2.1)) fun r2 =>
  (cond (!(decide (r2 = (0 : Int))))
  (some ((0 : Int), (0 : Int), (0 : Int), (0 : Int), (0 : Int), (0 : Int), (0 : Int), (0 : Int), (0 : Int), (0 : Int), (0 : Int), (0 : Int), (0 : Int), ([] : List UInt8), r2))
  (Option.bind
  (cond (decide (x.2.2.2.2.2.2.2.2.2.2.2.2.2.2.1 < (wrapF .i64 ((0 : Int) - (wrapF .i64 x.2.2.2.2.1)))))
  (some true)
  (some (decide ((wrapF .i64 ((32000 : Int) - (wrapF .i64 x.2.2.2.2.1))) < x.2.2.2.2.2.2.2.2.2.2.2.2.2.2.1))))
  fun r11 =>
  (cond r11
  (some ((0 : Int), (0 : Int), (0 : Int), (0 : Int), (0 : Int), (0 : Int), (0 : Int), (0 : Int), (0 : Int), (0 : Int), (0 : Int), (0 : Int), (0 : Int), ([] : List UInt8), (123 : Int)))
  (some (x.1, x.2.1, x.2.2.1, x.2.2.2.1, (wrapF .u32 (wrapF .i64 ((wrapF .i64 x.2.2.2.2.1) + x.2.2.2.2.2.2.2.2.2.2.2.2.2.2.1))), x.2.2.2.2.2.1, x.2.2.2.2.2.2.1, x.2.2.2.2.2.2.2.1, x.2.2.2.2.2.2.2.2.1, x.2.2.2.2.2.2.2.2.2.1, x.2.2.2.2.2.2.2.2.2.2.1, x.2.2.2.2.2.2.2.2.2.2.2.2.2.2.2, x.2.2.2.2.2.2.2.2.2.2.2.2.1, x.2.2.2.2.2.2.2.2.2.2.2.2.2.1, (0 : Int)))))))
theorem inode_Linked_f (N : Nat) (f0 : Int × Int × Int × Int × Int × Int × Int × Int × Int × Int × Int × Int × Int × (List UInt8) → Option (Int)) (x) : inode_Linked_a N f0 x = fnStep Γ (inode_Linked_CA N f0) (inode_Linked_J N) 40 Try.f32.results.toList (inode_Linked_g N) inode_Linked_o inode_Linked_c x := by kernel_rfl
theorem inode_Linked_e (N : Nat) (x) : (inode_Linked_g N).F x = fnStep Γ (inode_Linked_C N) (inode_Linked_J N) 40 Try.f32.results.toList (inode_Linked_g N) inode_Linked_o inode_Linked_c x := by
  rw [← inode_Linked_CE N]
  exact Eq.trans (by kernel_rfl) (inode_Linked_f N (inode_Check) x)
theorem inode_Linked_y : Try.f32.body = some inode_Linked_c := by kernel_rfl
theorem inode_Linked_n : (Try.f32.name == "runtime.NumGoroutine") = false := by kernel_rfl
theorem inode_Linked_ok (N : Nat) : FnDoes Try.prog 32 (inode_Linked_g N) := fn_ok tabOK (inode_Linked_t N) mixedOK (J := inode_Linked_J N) (body := inode_Linked_c) Try.func32 inode_Linked_y inode_Linked_n Try.ntmps32 (jok_from inode_Linked_i ⟨trivial, trivial⟩) rfl rfl (le_of_ble rfl) (inode_Linked_e N)
noncomputable def granaryref12_Linked_c : Code := codeOf Try.f33.body
noncomputable def granaryref12_Linked_J (N : Nat) : Nat → Hint := fun cx => hintOf cx [(0, { reg := fun k => assoc0 k [(4, ⟨⟨[(36, (.av (.one .bool)))], [(.keep, true), (.keep, true), (.keep, true), (.keep, true), (.keep, true), (.keep, true), (.keep, true), (.keep, true), (.keep, true), (.keep, true), (.keep, true), (.keep, true), (.keep, true), (.keep, false), (.keep, true), (.keep, true), (.keep, true), (.keep, true), (.keep, true), (.keep, true), (.keep, true), (.keep, true), (.keep, true), (.keep, true), (.keep, true), (.keep, true), (.keep, true), (.keep, false)]⟩, [], [], [.bool]⟩)], cnd := fun k => assoc0 k [], loop := fun k => assoc0 k [], nil := fun k => assoc0 k [], unr := fun k => assocN k [], blk := fun k => assoc0 k [] })]
noncomputable def granaryref12_Linked_C (N : Nat) : Nat → List GS := fun k => tabOf k [(19, [granaryref12_Check_g N])]
def granaryref12_Linked_o : List (Shp × List Nat) := [(⟨[(0, (.tup [(.agg [(.one (.int .u64)), (.one (.int .u32)), (.one (.int .i64)), (.one (.int .u32)), (.one (.int .u32)), (.one (.int .u32)), (.one (.int .u32)), (.one (.int .u64)), (.one (.int .u64)), (.one (.int .u64)), (.one (.int .u64)), (.one (.int .u64)), (.one (.int .u64)), (.one .str)]), (.one (.int .i64))]))], []⟩, [])]
noncomputable def granaryref12_Linked_g (N : Nat) : GS := { ins := ⟨[(0, (.av (.agg [(.one (.int .u64)), (.one (.int .u32)), (.one (.int .i64)), (.one (.int .u32)), (.one (.int .u32)), (.one (.int .u32)), (.one (.int .u32)), (.one (.int .u64)), (.one (.int .u64)), (.one (.int .u64)), (.one (.int .u64)), (.one (.int .u64)), (.one (.int .u64)), (.one .str)]))), (1, (.av (.one (.int .i64)))), (2, (.av (.one (.int .u64))))], []⟩, lend := [.keep, .keep, .keep], outs := granaryref12_Linked_o.map fun s => ssOf s.1, its := [.int, .int, .int, .int, .int, .int, .int, .int, .int, .int, .int, .int, .int, .str, .int, .int], ots := [[.int, .int, .int, .int, .int, .int, .int, .int, .int, .int, .int, .int, .int, .str, .int]], F := granaryref12_Linked }
noncomputable def granaryref12_Linked_CA (N : Nat) (f0 : Int × Int × Int × Int × Int × Int × Int × Int × Int × Int × Int × Int × Int × (List UInt8) → Option (Int)) : Nat → List GS := fun k => tabOf k [(19, [{ granaryref12_Check_g N with F := f0 }])]
theorem granaryref12_Linked_CE (N : Nat) : granaryref12_Linked_CA N (granaryref12_Check) = granaryref12_Linked_C N := by kernel_rfl
theorem granaryref12_Linked_t (N : Nat) : TabC Try.prog (granaryref12_Linked_C N) := tab_ok ⟨⟨granaryref12_Check_ok N, trivial⟩, trivial⟩
theorem granaryref12_Linked_i : loopsOf granaryref12_Linked_c = [] := by kernel_rfl
noncomputable def granaryref12_Linked_a (N : Nat) (f0 : Int × Int × Int × Int × Int × Int × Int × Int × Int × Int × Int × Int × Int × (List UInt8) → Option (Int)) (x : Int × Int × Int × Int × Int × Int × Int × Int × Int × Int × Int × Int × Int × (List UInt8) × Int × Int) : Option (Int × Int × Int × Int × Int × Int × Int × Int × Int × Int × Int × Int × Int × (List UInt8) × Int) :=
  (Option.bind (f0 (x.1, x.2.1, x.2.2.1, x.2.2.2.1, x.2.2.2.2.1, x.2.2.2.2.2.1, x.2.2.2.2.2.2.1, x.2.2.2.2.2.2.2.1, x.2.2.2.2.2.2.2.2.1, x.2.2.2.2.2.2.2.2.2.1, x.2.2.2.2.2.2.2.2.2.2.1, x.2.2.2.2.2.2.2.2.2.2.2.1, x.2.2.2.2.2.2.2.2.2.2.2.2.1, x.2.2.2.2.2.2.2.2.2.2.2.2.2.1)) fun r2 =>
  (cond (!(decide (r2 = (0 : Int))))
  (some ((0 : Int), (0 : Int), (0 : Int), (0 : Int), (0 : Int), (0 : Int), (0 : Int), (0 : Int), (0 : Int), (0 : Int), (0 : Int), (0 : Int), (0 : Int), ([] : List UInt8), r2))
  (Option.bind
  (cond (decide (x.2.2.2.2.2.2.2.2.2.2.2.2.2.2.1 < (-32000 : Int)))
  (some true)
  (cond (decide ((32000 : Int) < x.2.2.2.2.2.2.2.2.2.2.2.2.2.2.1))
  (some true)
  (cond (decide ((wrapF .i64 ((wrapF .i64 x.2.2.2.2.1) + x.2.2.2.2.2.2.2.2.2.2.2.2.2.2.1)) < (0 : Int)))
  (some true)
  (some (decide ((32000 : Int) < (wrapF .i64 ((wrapF .i64 x.2.2.2.2.1) + x.2.2.2.2.2.2.2.2.2.2.2.2.2.2.1))))))))
  fun r13 =>
  (cond r13
  (some ((0 : Int), (0 : Int), (0 : Int), (0 : Int), (0 : Int), (0 : Int), (0 : Int), (0 : Int), (0 : Int), (0 : Int), (0 : Int), (0 : Int), (0 : Int), ([] : List UInt8), (123 : Int)))
  (some (x.1, x.2.1, x.2.2.1, x.2.2.2.1, (wrapF .u32 (wrapF .i64 ((wrapF .i64 x.2.2.2.2.1) + x.2.2.2.2.2.2.2.2.2.2.2.2.2.2.1))), x.2.2.2.2.2.1, x.2.2.2.2.2.2.1, x.2.2.2.2.2.2.2.1, x.2.2.2.2.2.2.2.2.1, x.2.2.2.2.2.2.2.2.2.1, x.2.2.2.2.2.2.2.2.2.2.1, x.2.2.2.2.2.2.2.2.2.2.2.2.2.2.2, x.2.2.2.2.2.2.2.2.2.2.2.2.1, x.2.2.2.2.2.2.2.2.2.2.2.2.2.1, (0 : Int)))))))
theorem granaryref12_Linked_f (N : Nat) (f0 : Int × Int × Int × Int × Int × Int × Int × Int × Int × Int × Int × Int × Int × (List UInt8) → Option (Int)) (x) : granaryref12_Linked_a N f0 x = fnStep Γ (granaryref12_Linked_CA N f0) (granaryref12_Linked_J N) 48 Try.f33.results.toList (granaryref12_Linked_g N) granaryref12_Linked_o granaryref12_Linked_c x := by kernel_rfl
theorem granaryref12_Linked_e (N : Nat) (x) : (granaryref12_Linked_g N).F x = fnStep Γ (granaryref12_Linked_C N) (granaryref12_Linked_J N) 48 Try.f33.results.toList (granaryref12_Linked_g N) granaryref12_Linked_o granaryref12_Linked_c x := by
  rw [← granaryref12_Linked_CE N]
  exact Eq.trans (by kernel_rfl) (granaryref12_Linked_f N (granaryref12_Check) x)
theorem granaryref12_Linked_y : Try.f33.body = some granaryref12_Linked_c := by kernel_rfl
theorem granaryref12_Linked_n : (Try.f33.name == "runtime.NumGoroutine") = false := by kernel_rfl
theorem granaryref12_Linked_ok (N : Nat) : FnDoes Try.prog 33 (granaryref12_Linked_g N) := fn_ok tabOK (granaryref12_Linked_t N) mixedOK (J := granaryref12_Linked_J N) (body := granaryref12_Linked_c) Try.func33 granaryref12_Linked_y granaryref12_Linked_n Try.ntmps33 (jok_from granaryref12_Linked_i ⟨trivial, trivial⟩) rfl rfl (le_of_ble rfl) (granaryref12_Linked_e N)
noncomputable def inode_Sized_c : Code := codeOf Try.f34.body
noncomputable def inode_Sized_J (N : Nat) : Nat → Hint := fun cx => hintOf cx [(0, { reg := fun k => assoc0 k [(4, ⟨⟨[(21, (.av (.one .bool)))], [(.keep, true), (.keep, true), (.keep, true), (.keep, true), (.keep, true), (.keep, true), (.keep, true), (.keep, true), (.keep, true), (.keep, true), (.keep, true), (.keep, true), (.keep, true), (.keep, false), (.keep, true), (.keep, true), (.keep, true), (.keep, true), (.keep, true), (.keep, true), (.keep, true), (.keep, true), (.keep, true), (.keep, true), (.keep, true), (.keep, true), (.keep, true), (.keep, false)]⟩, [], [], [.bool]⟩)], cnd := fun k => assoc0 k [], loop := fun k => assoc0 k [], nil := fun k => assoc0 k [], unr := fun k => assocN k [], blk := fun k => assoc0 k [] })]
noncomputable def inode_Sized_C (N : Nat) : Nat → List GS := fun k => tabOf k [(18, [inode_Check_g N])]
def inode_Sized_o : List (Shp × List Nat) := [(⟨[(0, (.tup [(.agg [(.one (.int .u64)), (.one (.int .u32)), (.one (.int .i64)), (.one (.int .u32)), (.one (.int .u32)), (.one (.int .u32)), (.one (.int .u32)), (.one (.int .u64)), (.one (.int .u64)), (.one (.int .u64)), (.one (.int .u64)), (.one (.int .u64)), (.one (.int .u64)), (.one .str)]), (.one (.int .i64))]))], []⟩, [])]
noncomputable def inode_Sized_g (N : Nat) : GS := { ins := ⟨[(0, (.av (.agg [(.one (.int .u64)), (.one (.int .u32)), (.one (.int .i64)), (.one (.int .u32)), (.one (.int .u32)), (.one (.int .u32)), (.one (.int .u32)), (.one (.int .u64)), (.one (.int .u64)), (.one (.int .u64)), (.one (.int .u64)), (.one (.int .u64)), (.one (.int .u64)), (.one .str)]))), (1, (.av (.one (.int .u64)))), (2, (.av (.one (.int .u64))))], []⟩, lend := [.keep, .keep, .keep], outs := inode_Sized_o.map fun s => ssOf s.1, its := [.int, .int, .int, .int, .int, .int, .int, .int, .int, .int, .int, .int, .int, .str, .int, .int], ots := [[.int, .int, .int, .int, .int, .int, .int, .int, .int, .int, .int, .int, .int, .str, .int]], F := inode_Sized }
noncomputable def inode_Sized_CA (N : Nat) (f0 : Int × Int × Int × Int × Int × Int × Int × Int × Int × Int × Int × Int × Int × (List UInt8) → Option (Int)) : Nat → List GS := fun k => tabOf k [(18, [{ inode_Check_g N with F := f0 }])]
theorem inode_Sized_CE (N : Nat) : inode_Sized_CA N (inode_Check) = inode_Sized_C N := by kernel_rfl
theorem inode_Sized_t (N : Nat) : TabC Try.prog (inode_Sized_C N) := tab_ok ⟨⟨inode_Check_ok N, trivial⟩, trivial⟩
theorem inode_Sized_i : loopsOf inode_Sized_c = [] := by kernel_rfl
noncomputable def inode_Sized_a (N : Nat) (f0 : Int × Int × Int × Int × Int × Int × Int × Int × Int × Int × Int × Int × Int × (List UInt8) → Option (Int)) (x : Int × Int × Int × Int × Int × Int × Int × Int × Int × Int × Int × Int × Int × (List UInt8) × Int × Int) : Option (Int × Int × Int × Int × Int × Int × Int × Int × Int × Int × Int × Int × Int × (List UInt8) × Int) :=
  (Option.bind (f0 (x.1, x.2.1, x.2.2.1, x.2.2.2.1, x.2.2.2.2.1, x.2.2.2.2.2.1, x.2.2.2.2.2.2.1, x.2.2.2.2.2.2.2.1, x.2.2.2.2.2.2.2.2.1, x.2.2.2.2.2.2.2.2.2.1, x.2.2.2.2.2.2.2.2.2.2.1, x.2.2.2.2.2.2.2.2.2.2.2.1, x.2.2.2.2.2.2.2.2.2.2.2.2.1, x.2.2.2.2.2.2.2.2.2.2.2.2.2.1)) fun r2 =>
  (cond (!(decide (r2 = (0 : Int))))
  (some ((0 : Int), (0 : Int), (0 : Int), (0 : Int), (0 : Int), (0 : Int), (0 : Int), (0 : Int), (0 : Int), (0 : Int), (0 : Int), (0 : Int), (0 : Int), ([] : List UInt8), r2))
  (Option.bind
  (cond (!(decide (x.2.2.1 = (1 : Int))))
  (some true)
  (some (decide ((1048576 : Int) < x.2.2.2.2.2.2.2.2.2.2.2.2.2.2.1))))
  fun r7 =>
  (cond r7
  (some ((0 : Int), (0 : Int), (0 : Int), (0 : Int), (0 : Int), (0 : Int), (0 : Int), (0 : Int), (0 : Int), (0 : Int), (0 : Int), (0 : Int), (0 : Int), ([] : List UInt8), (122 : Int)))
  (some (x.1, x.2.1, x.2.2.1, x.2.2.2.1, x.2.2.2.2.1, x.2.2.2.2.2.1, x.2.2.2.2.2.2.1, x.2.2.2.2.2.2.2.2.2.2.2.2.2.2.1, x.2.2.2.2.2.2.2.2.1, x.2.2.2.2.2.2.2.2.2.1, x.2.2.2.2.2.2.2.2.2.2.2.2.2.2.2, x.2.2.2.2.2.2.2.2.2.2.2.2.2.2.2, x.2.2.2.2.2.2.2.2.2.2.2.2.1, x.2.2.2.2.2.2.2.2.2.2.2.2.2.1, (0 : Int)))))))
theorem inode_Sized_f (N : Nat) (f0 : Int × Int × Int × Int × Int × Int × Int × Int × Int × Int × Int × Int × Int × (List UInt8) → Option (Int)) (x) : inode_Sized_a N f0 x = fnStep Γ (inode_Sized_CA N f0) (inode_Sized_J N) 30 Try.f34.results.toList (inode_Sized_g N) inode_Sized_o inode_Sized_c x := by kernel_rfl
theorem inode_Sized_e (N : Nat) (x) : (inode_Sized_g N).F x = fnStep Γ (inode_Sized_C N) (inode_Sized_J N) 30 Try.f34.results.toList (inode_Sized_g N) inode_Sized_o inode_Sized_c x := by
  rw [← inode_Sized_CE N]
  exact Eq.trans (by kernel_rfl) (inode_Sized_f N (inode_Check) x)
theorem inode_Sized_y : Try.f34.body = some inode_Sized_c := by kernel_rfl
theorem inode_Sized_n : (Try.f34.name == "runtime.NumGoroutine") = false := by kernel_rfl
theorem inode_Sized_ok (N : Nat) : FnDoes Try.prog 34 (inode_Sized_g N) := fn_ok tabOK (inode_Sized_t N) mixedOK (J := inode_Sized_J N) (body := inode_Sized_c) Try.func34 inode_Sized_y inode_Sized_n Try.ntmps34 (jok_from inode_Sized_i ⟨trivial, trivial⟩) rfl rfl (le_of_ble rfl) (inode_Sized_e N)
noncomputable def granaryref12_Sized_c : Code := codeOf Try.f35.body
noncomputable def granaryref12_Sized_J (N : Nat) : Nat → Hint := fun cx => hintOf cx [(0, { reg := fun k => assoc0 k [(4, ⟨⟨[(21, (.av (.one .bool)))], [(.keep, true), (.keep, true), (.keep, true), (.keep, true), (.keep, true), (.keep, true), (.keep, true), (.keep, true), (.keep, true), (.keep, true), (.keep, true), (.keep, true), (.keep, true), (.keep, false), (.keep, true), (.keep, true), (.keep, true), (.keep, true), (.keep, true), (.keep, true), (.keep, true), (.keep, true), (.keep, true), (.keep, true), (.keep, true), (.keep, true), (.keep, true), (.keep, false)]⟩, [], [], [.bool]⟩)], cnd := fun k => assoc0 k [], loop := fun k => assoc0 k [], nil := fun k => assoc0 k [], unr := fun k => assocN k [], blk := fun k => assoc0 k [] })]
noncomputable def granaryref12_Sized_C (N : Nat) : Nat → List GS := fun k => tabOf k [(19, [granaryref12_Check_g N])]
def granaryref12_Sized_o : List (Shp × List Nat) := [(⟨[(0, (.tup [(.agg [(.one (.int .u64)), (.one (.int .u32)), (.one (.int .i64)), (.one (.int .u32)), (.one (.int .u32)), (.one (.int .u32)), (.one (.int .u32)), (.one (.int .u64)), (.one (.int .u64)), (.one (.int .u64)), (.one (.int .u64)), (.one (.int .u64)), (.one (.int .u64)), (.one .str)]), (.one (.int .i64))]))], []⟩, [])]
noncomputable def granaryref12_Sized_g (N : Nat) : GS := { ins := ⟨[(0, (.av (.agg [(.one (.int .u64)), (.one (.int .u32)), (.one (.int .i64)), (.one (.int .u32)), (.one (.int .u32)), (.one (.int .u32)), (.one (.int .u32)), (.one (.int .u64)), (.one (.int .u64)), (.one (.int .u64)), (.one (.int .u64)), (.one (.int .u64)), (.one (.int .u64)), (.one .str)]))), (1, (.av (.one (.int .u64)))), (2, (.av (.one (.int .u64))))], []⟩, lend := [.keep, .keep, .keep], outs := granaryref12_Sized_o.map fun s => ssOf s.1, its := [.int, .int, .int, .int, .int, .int, .int, .int, .int, .int, .int, .int, .int, .str, .int, .int], ots := [[.int, .int, .int, .int, .int, .int, .int, .int, .int, .int, .int, .int, .int, .str, .int]], F := granaryref12_Sized }
noncomputable def granaryref12_Sized_CA (N : Nat) (f0 : Int × Int × Int × Int × Int × Int × Int × Int × Int × Int × Int × Int × Int × (List UInt8) → Option (Int)) : Nat → List GS := fun k => tabOf k [(19, [{ granaryref12_Check_g N with F := f0 }])]
theorem granaryref12_Sized_CE (N : Nat) : granaryref12_Sized_CA N (granaryref12_Check) = granaryref12_Sized_C N := by kernel_rfl
theorem granaryref12_Sized_t (N : Nat) : TabC Try.prog (granaryref12_Sized_C N) := tab_ok ⟨⟨granaryref12_Check_ok N, trivial⟩, trivial⟩
theorem granaryref12_Sized_i : loopsOf granaryref12_Sized_c = [] := by kernel_rfl
noncomputable def granaryref12_Sized_a (N : Nat) (f0 : Int × Int × Int × Int × Int × Int × Int × Int × Int × Int × Int × Int × Int × (List UInt8) → Option (Int)) (x : Int × Int × Int × Int × Int × Int × Int × Int × Int × Int × Int × Int × Int × (List UInt8) × Int × Int) : Option (Int × Int × Int × Int × Int × Int × Int × Int × Int × Int × Int × Int × Int × (List UInt8) × Int) :=
  (Option.bind (f0 (x.1, x.2.1, x.2.2.1, x.2.2.2.1, x.2.2.2.2.1, x.2.2.2.2.2.1, x.2.2.2.2.2.2.1, x.2.2.2.2.2.2.2.1, x.2.2.2.2.2.2.2.2.1, x.2.2.2.2.2.2.2.2.2.1, x.2.2.2.2.2.2.2.2.2.2.1, x.2.2.2.2.2.2.2.2.2.2.2.1, x.2.2.2.2.2.2.2.2.2.2.2.2.1, x.2.2.2.2.2.2.2.2.2.2.2.2.2.1)) fun r2 =>
  (cond (!(decide (r2 = (0 : Int))))
  (some ((0 : Int), (0 : Int), (0 : Int), (0 : Int), (0 : Int), (0 : Int), (0 : Int), (0 : Int), (0 : Int), (0 : Int), (0 : Int), (0 : Int), (0 : Int), ([] : List UInt8), r2))
  (Option.bind
  (cond (!(decide (x.2.2.1 = (1 : Int))))
  (some true)
  (some (decide ((1048576 : Int) < x.2.2.2.2.2.2.2.2.2.2.2.2.2.2.1))))
  fun r7 =>
  (cond r7
  (some ((0 : Int), (0 : Int), (0 : Int), (0 : Int), (0 : Int), (0 : Int), (0 : Int), (0 : Int), (0 : Int), (0 : Int), (0 : Int), (0 : Int), (0 : Int), ([] : List UInt8), (122 : Int)))
  (some (x.1, x.2.1, x.2.2.1, x.2.2.2.1, x.2.2.2.2.1, x.2.2.2.2.2.1, x.2.2.2.2.2.2.1, x.2.2.2.2.2.2.2.2.2.2.2.2.2.2.1, x.2.2.2.2.2.2.2.2.1, x.2.2.2.2.2.2.2.2.2.1, x.2.2.2.2.2.2.2.2.2.2.2.2.2.2.2, x.2.2.2.2.2.2.2.2.2.2.2.2.2.2.2, x.2.2.2.2.2.2.2.2.2.2.2.2.1, x.2.2.2.2.2.2.2.2.2.2.2.2.2.1, (0 : Int)))))))
theorem granaryref12_Sized_f (N : Nat) (f0 : Int × Int × Int × Int × Int × Int × Int × Int × Int × Int × Int × Int × Int × (List UInt8) → Option (Int)) (x) : granaryref12_Sized_a N f0 x = fnStep Γ (granaryref12_Sized_CA N f0) (granaryref12_Sized_J N) 30 Try.f35.results.toList (granaryref12_Sized_g N) granaryref12_Sized_o granaryref12_Sized_c x := by kernel_rfl
theorem granaryref12_Sized_e (N : Nat) (x) : (granaryref12_Sized_g N).F x = fnStep Γ (granaryref12_Sized_C N) (granaryref12_Sized_J N) 30 Try.f35.results.toList (granaryref12_Sized_g N) granaryref12_Sized_o granaryref12_Sized_c x := by
  rw [← granaryref12_Sized_CE N]
  exact Eq.trans (by kernel_rfl) (granaryref12_Sized_f N (granaryref12_Check) x)
theorem granaryref12_Sized_y : Try.f35.body = some granaryref12_Sized_c := by kernel_rfl
theorem granaryref12_Sized_n : (Try.f35.name == "runtime.NumGoroutine") = false := by kernel_rfl
theorem granaryref12_Sized_ok (N : Nat) : FnDoes Try.prog 35 (granaryref12_Sized_g N) := fn_ok tabOK (granaryref12_Sized_t N) mixedOK (J := granaryref12_Sized_J N) (body := granaryref12_Sized_c) Try.func35 granaryref12_Sized_y granaryref12_Sized_n Try.ntmps35 (jok_from granaryref12_Sized_i ⟨trivial, trivial⟩) rfl rfl (le_of_ble rfl) (granaryref12_Sized_e N)
end Go.Rf.W
