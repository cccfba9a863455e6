/-
  The law's printed function is what the program does.
-/
import Derived.Test.YtokfelhleojnjaaShaK1
import Derived.Test.YtokfelhleojnjaaShaFShaNil
set_option linter.unusedVariables false
set_option maxRecDepth 100000
namespace Go.Rf.W
open Go Go.Rf Go.Proofs
noncomputable def granarylaw05_ShaNil_c : Code := codeOf Try.f6.body
noncomputable def granarylaw05_ShaNil_J (N : Nat) : Nat → Hint := fun cx => hintOf cx [(0, { reg := fun k => assoc0 k [(5, ⟨⟨[(2, (.av (.one .bool)))], []⟩, [], [], [.bool]⟩)], cnd := fun k => assoc0 k [], loop := fun k => assoc0 k [], nil := fun k => assoc0 k [], unr := fun k => assocN k [], blk := fun k => assoc0 k [] })]
noncomputable def granarylaw05_ShaNil_C (N : Nat) : Nat → List GS := fun k => tabOf k [(9, [granarylaw05_live_g N]), (21, [sha_Hash_Write_v3_g N]), (22, [sha_Hash_Len_g N]), (23, [sha_Hash_Sum_v1_g N]), (11, [granaryref05_Sum_g N]), (24, [sha_Hash_Save_g N])]
def granarylaw05_ShaNil_o : List (Shp × List Nat) := [(⟨[(0, (.av (.one .bool)))], []⟩, [])]
noncomputable def granarylaw05_ShaNil_g (N : Nat) : GS := { ins := ⟨[(0, (.av (.one (.rsl (.int .u8)))))], []⟩, lend := [.keep], outs := granarylaw05_ShaNil_o.map fun s => ssOf s.1, its := [.lst (.int .u8)], ots := [[.bool]], F := granarylaw05_ShaNil N }
noncomputable def granarylaw05_ShaNil_CA (N : Nat) (f0 : Unit → Option (Bool)) (f1 : (List Int) → Option (Unit)) (f2 : Unit → Option (Unit)) (f3 : Unit → Option ((List Int))) (f4 : (List Int) → Option ((List Int))) (f5 : Unit → Option (Unit)) : Nat → List GS := fun k => tabOf k [(9, [{ granarylaw05_live_g N with F := f0 }]), (21, [{ sha_Hash_Write_v3_g N with F := f1 }]), (22, [{ sha_Hash_Len_g N with F := f2 }]), (23, [{ sha_Hash_Sum_v1_g N with F := f3 }]), (11, [{ granaryref05_Sum_g N with F := f4 }]), (24, [{ sha_Hash_Save_g N with F := f5 }])]
theorem granarylaw05_ShaNil_CE (N : Nat) : granarylaw05_ShaNil_CA N (granarylaw05_live N) (sha_Hash_Write_v3) (sha_Hash_Len) (sha_Hash_Sum_v1 N) (granaryref05_Sum N) (sha_Hash_Save) = granarylaw05_ShaNil_C N := by kernel_rfl
theorem granarylaw05_ShaNil_t (N : Nat) : TabC Try.prog (granarylaw05_ShaNil_C N) := tab_ok ⟨⟨granarylaw05_live_ok N, trivial⟩, ⟨sha_Hash_Write_v3_ok N, trivial⟩, ⟨sha_Hash_Len_ok N, trivial⟩, ⟨sha_Hash_Sum_v1_ok N, trivial⟩, ⟨granaryref05_Sum_ok N, trivial⟩, ⟨sha_Hash_Save_ok N, trivial⟩, trivial⟩
theorem granarylaw05_ShaNil_i : loopsOf granarylaw05_ShaNil_c = [] := by kernel_rfl
noncomputable def granarylaw05_ShaNil_a (N : Nat) (f0 : Unit → Option (Bool)) (f1 : (List Int) → Option (Unit)) (f2 : Unit → Option (Unit)) (f3 : Unit → Option ((List Int))) (f4 : (List Int) → Option ((List Int))) (f5 : Unit → Option (Unit)) (x : (List Int)) : Option (Bool) :=
  (cond (decide ((9000 : Int) < (((List.length x) : Nat) : Int)))
  (Option.bind (f0 ()) fun r3 =>
  (some r3))
  (Option.bind (f1 x) fun r4 =>
  (Option.bind
  (Option.bind (f2 ()) fun r5 =>
  (Option.bind (f3 ()) fun r6 =>
  (Option.bind (f4 ([] : List Int)) fun r7 =>
  (cond (decide (r6 = r7))
  (Option.bind (f5 ()) fun r9 =>
  (Option.bind (f0 ()) fun r10 =>
  (some r10)))
  (some false)))))
  fun r11 =>
  (some r11))))
theorem granarylaw05_ShaNil_f (N : Nat) (f0 : Unit → Option (Bool)) (f1 : (List Int) → Option (Unit)) (f2 : Unit → Option (Unit)) (f3 : Unit → Option ((List Int))) (f4 : (List Int) → Option ((List Int))) (f5 : Unit → Option (Unit)) (x) : granarylaw05_ShaNil_a N f0 f1 f2 f3 f4 f5 x = fnStep Γ (granarylaw05_ShaNil_CA N f0 f1 f2 f3 f4 f5) (granarylaw05_ShaNil_J N) 29 Try.f6.results.toList (granarylaw05_ShaNil_g N) granarylaw05_ShaNil_o granarylaw05_ShaNil_c x := by kernel_rfl
theorem granarylaw05_ShaNil_e (N : Nat) (x) : (granarylaw05_ShaNil_g N).F x = fnStep Γ (granarylaw05_ShaNil_C N) (granarylaw05_ShaNil_J N) 29 Try.f6.results.toList (granarylaw05_ShaNil_g N) granarylaw05_ShaNil_o granarylaw05_ShaNil_c x := by
  rw [← granarylaw05_ShaNil_CE N]
  exact Eq.trans (by kernel_rfl) (granarylaw05_ShaNil_f N (granarylaw05_live N) (sha_Hash_Write_v3) (sha_Hash_Len) (sha_Hash_Sum_v1 N) (granaryref05_Sum N) (sha_Hash_Save) x)
theorem granarylaw05_ShaNil_y : Try.f6.body = some granarylaw05_ShaNil_c := by kernel_rfl
theorem granarylaw05_ShaNil_n : (Try.f6.name == "runtime.NumGoroutine") = false := by kernel_rfl
theorem granarylaw05_ShaNil_ok (N : Nat) : FnDoes Try.prog 6 (granarylaw05_ShaNil_g N) := fn_ok tabOK (granarylaw05_ShaNil_t N) mixedOK (J := granarylaw05_ShaNil_J N) (body := granarylaw05_ShaNil_c) Try.func6 granarylaw05_ShaNil_y granarylaw05_ShaNil_n Try.ntmps6 (jok_from granarylaw05_ShaNil_i ⟨trivial, trivial⟩) rfl rfl (le_of_ble rfl) (granarylaw05_ShaNil_e N)
end Go.Rf.W
