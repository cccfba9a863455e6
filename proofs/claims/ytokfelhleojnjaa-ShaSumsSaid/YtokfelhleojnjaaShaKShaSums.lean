/-
  The law's printed function is what the program does.
-/
import Derived.Test.YtokfelhleojnjaaShaK1
import Derived.Test.YtokfelhleojnjaaShaFShaSums
set_option linter.unusedVariables false
set_option maxRecDepth 100000
namespace Go.Rf.W
open Go Go.Rf Go.Proofs
noncomputable def granarylaw05_ShaSums_c : Code := codeOf Try.f3.body
noncomputable def granarylaw05_ShaSums_J (N : Nat) : Nat → Hint := fun cx => hintOf cx [(0, { reg := fun k => assoc0 k [(4, ⟨⟨[(4, (.av (.one .bool)))], [(.keep, false), (.keep, false)]⟩, [], [], [.bool]⟩)], cnd := fun k => assoc0 k [], loop := fun k => assoc0 k [], nil := fun k => assoc0 k [], unr := fun k => assocN k [], blk := fun k => assoc0 k [] })]
noncomputable def granarylaw05_ShaSums_C (N : Nat) : Nat → List GS := fun k => tabOf k [(9, [granarylaw05_live_g N]), (10, [sha_Sum_g N]), (11, [granaryref05_Sum_g N]), (12, [sha_Crc_g N]), (13, [granaryref05_Crc_g N]), (14, [sha_More_v1_g N]), (15, [granaryref05_More_g N])]
def granarylaw05_ShaSums_o : List (Shp × List Nat) := [(⟨[(0, (.av (.one .bool)))], []⟩, [])]
noncomputable def granarylaw05_ShaSums_g (N : Nat) : GS := { ins := ⟨[(0, (.av (.one (.rsl (.int .u8))))), (1, (.av (.one (.int .u32))))], []⟩, lend := [.keep, .keep], outs := granarylaw05_ShaSums_o.map fun s => ssOf s.1, its := [.lst (.int .u8), .int], ots := [[.bool]], F := granarylaw05_ShaSums N }
noncomputable def granarylaw05_ShaSums_CA (N : Nat) (f0 : Unit → Option (Bool)) (f1 : (List Int) → Option ((List Int))) (f2 : (List Int) → Option ((List Int))) (f3 : (List Int) → Option (Int)) (f4 : (List Int) → Option (Int)) (f5 : Int × (List Int) → Option (Int)) (f6 : Int × (List Int) → Option (Int)) : Nat → List GS := fun k => tabOf k [(9, [{ granarylaw05_live_g N with F := f0 }]), (10, [{ sha_Sum_g N with F := f1 }]), (11, [{ granaryref05_Sum_g N with F := f2 }]), (12, [{ sha_Crc_g N with F := f3 }]), (13, [{ granaryref05_Crc_g N with F := f4 }]), (14, [{ sha_More_v1_g N with F := f5 }]), (15, [{ granaryref05_More_g N with F := f6 }])]
theorem granarylaw05_ShaSums_CE (N : Nat) : granarylaw05_ShaSums_CA N (granarylaw05_live N) (sha_Sum N) (granaryref05_Sum N) (sha_Crc N) (granaryref05_Crc N) (sha_More_v1 N) (granaryref05_More N) = granarylaw05_ShaSums_C N := by kernel_rfl
theorem granarylaw05_ShaSums_t (N : Nat) : TabC Try.prog (granarylaw05_ShaSums_C N) := tab_ok ⟨⟨granarylaw05_live_ok N, trivial⟩, ⟨sha_Sum_ok N, trivial⟩, ⟨granaryref05_Sum_ok N, trivial⟩, ⟨sha_Crc_ok N, trivial⟩, ⟨granaryref05_Crc_ok N, trivial⟩, ⟨sha_More_v1_ok N, trivial⟩, ⟨granaryref05_More_ok N, trivial⟩, trivial⟩
theorem granarylaw05_ShaSums_i : loopsOf granarylaw05_ShaSums_c = [] := by kernel_rfl
noncomputable def granarylaw05_ShaSums_a (N : Nat) (f0 : Unit → Option (Bool)) (f1 : (List Int) → Option ((List Int))) (f2 : (List Int) → Option ((List Int))) (f3 : (List Int) → Option (Int)) (f4 : (List Int) → Option (Int)) (f5 : Int × (List Int) → Option (Int)) (f6 : Int × (List Int) → Option (Int)) (x : (List Int) × Int) : Option (Bool) :=
  (cond (decide ((9000 : Int) < (((List.length x.1) : Nat) : Int)))
  (Option.bind (f0 ()) fun r3 =>
  (some r3))
  (cond (fits 1 (List.length x.1))
  ((Option.bind
  (Option.bind (f1 x.1) fun r5 =>
  (Option.bind (f2 x.1) fun r6 =>
  (cond (decide (r5 = r6))
  (Option.bind (f3 x.1) fun r8 =>
  (Option.bind (f4 x.1) fun r9 =>
  (cond (decide (r8 = r9))
  (Option.bind (f5 (x.2, x.1)) fun r11 =>
  (Option.bind (f6 (x.2, x.1)) fun r12 =>
  (cond (decide (r11 = r12))
  (cond (decide ((List.map (fun (n : Int) => UInt8.ofNat n.toNat) x.1) = (List.map (fun (n : Int) => UInt8.ofNat n.toNat) x.1)))
  (Option.bind (f0 ()) fun r17 =>
  (some r17))
  (some false))
  (some false))))
  (some false))))
  (some false))))
  fun r18 =>
  (some r18)))
  none))
theorem granarylaw05_ShaSums_f (N : Nat) (f0 : Unit → Option (Bool)) (f1 : (List Int) → Option ((List Int))) (f2 : (List Int) → Option ((List Int))) (f3 : (List Int) → Option (Int)) (f4 : (List Int) → Option (Int)) (f5 : Int × (List Int) → Option (Int)) (f6 : Int × (List Int) → Option (Int)) (x) : granarylaw05_ShaSums_a N f0 f1 f2 f3 f4 f5 f6 x = fnStep Γ (granarylaw05_ShaSums_CA N f0 f1 f2 f3 f4 f5 f6) (granarylaw05_ShaSums_J N) 44 Try.f3.results.toList (granarylaw05_ShaSums_g N) granarylaw05_ShaSums_o granarylaw05_ShaSums_c x := by kernel_rfl
theorem granarylaw05_ShaSums_e (N : Nat) (x) : (granarylaw05_ShaSums_g N).F x = fnStep Γ (granarylaw05_ShaSums_C N) (granarylaw05_ShaSums_J N) 44 Try.f3.results.toList (granarylaw05_ShaSums_g N) granarylaw05_ShaSums_o granarylaw05_ShaSums_c x := by
  rw [← granarylaw05_ShaSums_CE N]
  exact Eq.trans (by kernel_rfl) (granarylaw05_ShaSums_f N (granarylaw05_live N) (sha_Sum N) (granaryref05_Sum N) (sha_Crc N) (granaryref05_Crc N) (sha_More_v1 N) (granaryref05_More N) x)
theorem granarylaw05_ShaSums_y : Try.f3.body = some granarylaw05_ShaSums_c := by kernel_rfl
theorem granarylaw05_ShaSums_n : (Try.f3.name == "runtime.NumGoroutine") = false := by kernel_rfl
theorem granarylaw05_ShaSums_ok (N : Nat) : FnDoes Try.prog 3 (granarylaw05_ShaSums_g N) := fn_ok tabOK (granarylaw05_ShaSums_t N) mixedOK (J := granarylaw05_ShaSums_J N) (body := granarylaw05_ShaSums_c) Try.func3 granarylaw05_ShaSums_y granarylaw05_ShaSums_n Try.ntmps3 (jok_from granarylaw05_ShaSums_i ⟨trivial, trivial⟩) rfl rfl (le_of_ble rfl) (granarylaw05_ShaSums_e N)
end Go.Rf.W
