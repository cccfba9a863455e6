/-
  The law's printed function is what the program does.
-/
import Derived.Test.YtokfelhleojnjaaShaK1
import Derived.Test.YtokfelhleojnjaaShaFShaBursts
set_option linter.unusedVariables false
set_option maxRecDepth 100000
namespace Go.Rf.W
open Go Go.Rf Go.Proofs
noncomputable def granarylaw05_ShaBursts_c : Code := codeOf Try.f5.body
noncomputable def granarylaw05_ShaBursts_c0 : Code := codeOf (getLoop 0 granarylaw05_ShaBursts_c)
def granarylaw05_ShaBursts_d0 : LD := { ins := ⟨[(0, (.av (.one (.rsl (.int .u8))))), (1, (.av (.one (.int .i64)))), (2, (.av (.one (.int .u32)))), (7, (.av (.one (.const (.slw 1 1))))), (8, (.av (.one .bool))), (9, (.av (.one (.int .i64))))], [(.keep, false), (.sh (.arr (.int .u8) none), false)]⟩, mov := [], wr := [1], outs := [(.exit 0, ⟨[(8, (.av (.one .bool)))], [(.keep, false), (.sh (.arr (.int .u8) none), false)]⟩)], its := [.lst (.int .u8), .int, .int, .bool, .int, .lst (.int .u8)], ots := [[.bool, .lst (.int .u8)]] }
noncomputable def granarylaw05_ShaBursts_J (N : Nat) : Nat → Hint := fun cx => hintOf cx [(0, { reg := fun k => assoc0 k [(1, ⟨⟨[(28, (.av (.one .bool)))], []⟩, [], [], [.bool]⟩), (8, ⟨⟨[(51, (.av (.one .bool)))], [(.dead, false), (.keep, false)]⟩, [], [], [.bool]⟩), (11, ⟨⟨[(6, (.av (.one .bool)))], [(.keep, false), (.keep, false)]⟩, [], [], [.bool]⟩)], cnd := fun k => assoc0 k [(51, ⟨[], [1], [(.normal, ⟨[(8, (.av (.one .bool)))], [(.dead, false), (.sh (.arr (.int .u8) none), false)]⟩)], [[.bool, .lst (.int .u8)]]⟩)], loop := fun k => assoc0 k [(0, ⟨granarylaw05_ShaBursts_d0, loopF (granarylaw05_ShaBursts_b0 N) N⟩)], nil := fun k => assoc0 k [], unr := fun k => assocN k [], blk := fun k => assoc0 k [] })]
noncomputable def granarylaw05_ShaBursts_C (N : Nat) : Nat → List GS := fun k => tabOf k [(9, [granarylaw05_live_g N]), (12, [sha_Crc_v1_g N, sha_Crc_g N])]
def granarylaw05_ShaBursts_o : List (Shp × List Nat) := [(⟨[(0, (.av (.one .bool)))], []⟩, [])]
noncomputable def granarylaw05_ShaBursts_g (N : Nat) : GS := { ins := ⟨[(0, (.av (.one (.rsl (.int .u8))))), (1, (.av (.one (.int .i64)))), (2, (.av (.one (.int .u32))))], []⟩, lend := [.keep, .keep, .keep], outs := granarylaw05_ShaBursts_o.map fun s => ssOf s.1, its := [.lst (.int .u8), .int, .int], ots := [[.bool]], F := granarylaw05_ShaBursts N }
noncomputable def granarylaw05_ShaBursts_CA (N : Nat) (f0 : Unit → Option (Bool)) (f1 : (List Int) → Option (Int)) (f2 : (List Int) → Option (Int)) : Nat → List GS := fun k => tabOf k [(9, [{ granarylaw05_live_g N with F := f0 }]), (12, [{ sha_Crc_v1_g N with F := f1 }, { sha_Crc_g N with F := f2 }])]
theorem granarylaw05_ShaBursts_CE (N : Nat) : granarylaw05_ShaBursts_CA N (granarylaw05_live N) (sha_Crc_v1 N) (sha_Crc N) = granarylaw05_ShaBursts_C N := by kernel_rfl
theorem granarylaw05_ShaBursts_t (N : Nat) : TabC Try.prog (granarylaw05_ShaBursts_C N) := tab_ok ⟨⟨granarylaw05_live_ok N, trivial⟩, ⟨sha_Crc_v1_ok N, sha_Crc_ok N, trivial⟩, trivial⟩
theorem granarylaw05_ShaBursts_i0 : loopsOf granarylaw05_ShaBursts_c0 = [] := by kernel_rfl
noncomputable def granarylaw05_ShaBursts_a0 (N : Nat) (f0 : Unit → Option (Bool)) (f1 : (List Int) → Option (Int)) (f2 : (List Int) → Option (Int)) (next : (List Int) × Int × Int × Bool × Int × (List Int) → Option ((Bool × (List Int)))) (x : (List Int) × Int × Int × Bool × Int × (List Int)) : Option ((Bool × (List Int))) :=
  (cond (decide (x.2.2.2.2.1 < (32 : Int)))
  (Option.bind
  (let v2 : Int := (wrapF .u64 x.2.2.2.2.1)
  (cond (decide ((0 : Int) ≤ v2))
  ((cond (decide ((andF .u32 (shrF .u32 x.2.2.1 v2) (1 : Int)) = (1 : Int)))
  (some (decide ((wrapF .i64 (x.2.1 + x.2.2.2.2.1)) < (wrapF .i64 ((8 : Int) * (((List.length x.1) : Nat) : Int))))))
  (some false)))
  none))
  fun r10 =>
  (Option.bind
  (cond r10
  (let v12 : Int := (wrapF .i64 (Int.tdiv (wrapF .i64 (x.2.1 + x.2.2.2.2.1)) (8 : Int)))
  (let v14 : Int := (wrapF .i64 (Int.tdiv (wrapF .i64 (x.2.1 + x.2.2.2.2.1)) (8 : Int)))
  (cond ((decide ((0 : Int) ≤ v14)) && (decide (v14 < (((List.length x.2.2.2.2.2) : Nat) : Int))))
  ((let v15 : Nat := (Int.toNat v14)
  (cond (decide (v15 < (List.length x.2.2.2.2.2)))
  ((let v19 : Int := (wrapF .u64 (Int.tmod (wrapF .i64 (x.2.1 + x.2.2.2.2.1)) (8 : Int)))
  (cond (decide ((0 : Int) ≤ v19))
  ((cond ((decide ((0 : Int) ≤ v12)) && (decide (v12 < (((List.length x.2.2.2.2.2) : Nat) : Int))))
  ((let v22 : Nat := (Int.toNat v12)
  (cond (decide (v22 < (List.length x.2.2.2.2.2)))
  ((some (true, (List.set x.2.2.2.2.2 v22 (xorF .u8 (List.getD x.2.2.2.2.2 v15 (EK.dflt (.int .u8))) (shlF .u8 (1 : Int) v19))))))
  none)))
  none))
  none)))
  none)))
  none)))
  (some (x.2.2.2.1, x.2.2.2.2.2)))
  fun r24 =>
  (next (x.1, x.2.1, x.2.2.1, r24.1, (wrapF .i64 (x.2.2.2.2.1 + (1 : Int))), r24.2))))
  (some (x.2.2.2.1, x.2.2.2.2.2)))
theorem granarylaw05_ShaBursts_f0 (N : Nat) (f0 : Unit → Option (Bool)) (f1 : (List Int) → Option (Int)) (f2 : (List Int) → Option (Int)) (next) (x) : granarylaw05_ShaBursts_a0 N f0 f1 f2 next x = loopStep Γ (granarylaw05_ShaBursts_CA N f0 f1 f2) (granarylaw05_ShaBursts_J N) 0 82 granarylaw05_ShaBursts_d0 granarylaw05_ShaBursts_c0 next x := by kernel_rfl
theorem granarylaw05_ShaBursts_e0 (N : Nat) (next) (x) : granarylaw05_ShaBursts_b0 N next x = loopStep Γ (granarylaw05_ShaBursts_C N) (granarylaw05_ShaBursts_J N) 0 82 granarylaw05_ShaBursts_d0 granarylaw05_ShaBursts_c0 next x := by
  rw [← granarylaw05_ShaBursts_CE N]
  exact Eq.trans (by kernel_rfl) (granarylaw05_ShaBursts_f0 N (granarylaw05_live N) (sha_Crc_v1 N) (sha_Crc N) next x)
theorem granarylaw05_ShaBursts_k0 (N : Nat) : LoopOK Try.prog 82 granarylaw05_ShaBursts_c0 ⟨granarylaw05_ShaBursts_d0, loopF (granarylaw05_ShaBursts_b0 N) N⟩ := loop_ok tabOK (granarylaw05_ShaBursts_t N) mixedOK (J := granarylaw05_ShaBursts_J N) (cx := 0) (body := granarylaw05_ShaBursts_c0) (nt := 82) (l := granarylaw05_ShaBursts_d0) (b := granarylaw05_ShaBursts_b0 N) (jok_from granarylaw05_ShaBursts_i0 ⟨trivial, trivial⟩) (granarylaw05_ShaBursts_e0 N) N
theorem granarylaw05_ShaBursts_i : loopsOf granarylaw05_ShaBursts_c = [(0, granarylaw05_ShaBursts_c0)] := by kernel_rfl
noncomputable def granarylaw05_ShaBursts_a (N : Nat) (f0 : Unit → Option (Bool)) (f1 : (List Int) → Option (Int)) (f2 : (List Int) → Option (Int)) (x : (List Int) × Int × Int) : Option (Bool) :=
  (Option.bind
  (cond (decide ((9000 : Int) < (((List.length x.1) : Nat) : Int)))
  (some true)
  (cond (decide ((((List.length x.1) : Nat) : Int) = (0 : Int)))
  (some true)
  (cond (decide (x.2.1 < (0 : Int)))
  (some true)
  (some (decide ((wrapF .i64 ((8 : Int) * (((List.length x.1) : Nat) : Int))) ≤ x.2.1))))))
  fun r9 =>
  (cond r9
  (Option.bind (f0 ()) fun r10 =>
  (some r10))
  (cond (fits 1 (List.length x.1))
  ((Option.bind (granarylaw05_ShaBursts_l0 N (x.1, x.2.1, x.2.2, false, (0 : Int), x.1)) fun r12 =>
  (Option.bind
  (Option.bind (f2 r12.2) fun r13 =>
  (Option.bind (f1 x.1) fun r14 =>
  (cond ((!(decide (r13 = r14))) == r12.1)
  (Option.bind (f0 ()) fun r17 =>
  (some r17))
  (some false))))
  fun r18 =>
  (some r18))))
  none)))
theorem granarylaw05_ShaBursts_f (N : Nat) (f0 : Unit → Option (Bool)) (f1 : (List Int) → Option (Int)) (f2 : (List Int) → Option (Int)) (x) : granarylaw05_ShaBursts_a N f0 f1 f2 x = fnStep Γ (granarylaw05_ShaBursts_CA N f0 f1 f2) (granarylaw05_ShaBursts_J N) 82 Try.f5.results.toList (granarylaw05_ShaBursts_g N) granarylaw05_ShaBursts_o granarylaw05_ShaBursts_c x := by kernel_rfl
theorem granarylaw05_ShaBursts_e (N : Nat) (x) : (granarylaw05_ShaBursts_g N).F x = fnStep Γ (granarylaw05_ShaBursts_C N) (granarylaw05_ShaBursts_J N) 82 Try.f5.results.toList (granarylaw05_ShaBursts_g N) granarylaw05_ShaBursts_o granarylaw05_ShaBursts_c x := by
  rw [← granarylaw05_ShaBursts_CE N]
  exact Eq.trans (by kernel_rfl) (granarylaw05_ShaBursts_f N (granarylaw05_live N) (sha_Crc_v1 N) (sha_Crc N) x)
theorem granarylaw05_ShaBursts_y : Try.f5.body = some granarylaw05_ShaBursts_c := by kernel_rfl
theorem granarylaw05_ShaBursts_n : (Try.f5.name == "runtime.NumGoroutine") = false := by kernel_rfl
theorem granarylaw05_ShaBursts_ok (N : Nat) : FnDoes Try.prog 5 (granarylaw05_ShaBursts_g N) := fn_ok tabOK (granarylaw05_ShaBursts_t N) mixedOK (J := granarylaw05_ShaBursts_J N) (body := granarylaw05_ShaBursts_c) Try.func5 granarylaw05_ShaBursts_y granarylaw05_ShaBursts_n Try.ntmps5 (jok_from granarylaw05_ShaBursts_i ⟨⟨.inr ⟨_, rfl, granarylaw05_ShaBursts_k0 N⟩, trivial⟩, trivial⟩) rfl rfl (le_of_ble rfl) (granarylaw05_ShaBursts_e N)
end Go.Rf.W
