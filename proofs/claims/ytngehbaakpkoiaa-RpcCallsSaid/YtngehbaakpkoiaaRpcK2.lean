/-
  The printed functions are what the program does.
-/
import Derived.Test.YtngehbaakpkoiaaRpcK1
set_option linter.unusedVariables false
set_option maxRecDepth 100000
namespace Go.Rf.W
open Go Go.Rf Go.Proofs
noncomputable def granaryref21_SameCall_c : Code := codeOf Try.f31.body
noncomputable def granaryref21_SameCall_J (N : Nat) : Nat → Hint := fun cx => hintOf cx [(0, { reg := fun k => assoc0 k [(1, ⟨⟨[(4, (.av (.one .bool)))], [(.keep, true), (.keep, true), (.keep, true), (.keep, true), (.keep, true), (.keep, true), (.keep, true), (.keep, true), (.keep, true), (.keep, false), (.keep, true), (.keep, true), (.keep, true), (.keep, true), (.keep, true), (.keep, true), (.keep, true), (.keep, true), (.keep, true), (.keep, false)]⟩, [], [], [.bool]⟩)], cnd := fun k => assoc0 k [], loop := fun k => assoc0 k [], nil := fun k => assoc0 k [], unr := fun k => assocN k [], blk := fun k => assoc0 k [] })]
noncomputable def granaryref21_SameCall_C (N : Nat) : Nat → List GS := fun k => tabOf k [(36, [granaryref21_SameAuth_v1_g N])]
def granaryref21_SameCall_o : List (Shp × List Nat) := [(⟨[(0, (.av (.one .bool)))], []⟩, [])]
noncomputable def granaryref21_SameCall_g (N : Nat) : GS := { ins := ⟨[(0, (.av (.agg [(.one (.int .u32)), (.one (.int .u32)), (.one (.int .u32)), (.one (.int .u32)), (.one (.int .u32)), (.one (.int .u32)), (.one (.rsl (.int .u8))), (.one (.int .u32)), (.one (.rsl (.int .u8))), (.one (.rsl (.int .u8)))]))), (1, (.av (.agg [(.one (.int .u32)), (.one (.int .u32)), (.one (.int .u32)), (.one (.int .u32)), (.one (.int .u32)), (.one (.int .u32)), (.one (.rsl (.int .u8))), (.one (.int .u32)), (.one (.rsl (.int .u8))), (.one (.rsl (.int .u8)))])))], []⟩, lend := [.agg [none, none, none, none, none, none, some (.int .u8), none, some (.int .u8), some (.int .u8)], .agg [none, none, none, none, none, none, some (.int .u8), none, some (.int .u8), some (.int .u8)]], outs := granaryref21_SameCall_o.map fun s => ssOf s.1, its := [.int, .int, .int, .int, .int, .int, .lst (.int .u8), .int, .lst (.int .u8), .lst (.int .u8), .int, .int, .int, .int, .int, .int, .lst (.int .u8), .int, .lst (.int .u8), .lst (.int .u8)], ots := [[.bool]], F := granaryref21_SameCall }
noncomputable def granaryref21_SameCall_CA (N : Nat) (f0 : Int × (List Int) × Int × (List Int) → Option (Bool)) : Nat → List GS := fun k => tabOf k [(36, [{ granaryref21_SameAuth_v1_g N with F := f0 }])]
theorem granaryref21_SameCall_CE (N : Nat) : granaryref21_SameCall_CA N (granaryref21_SameAuth_v1) = granaryref21_SameCall_C N := by kernel_rfl
theorem granaryref21_SameCall_t (N : Nat) : TabC Try.prog (granaryref21_SameCall_C N) := tab_ok ⟨⟨granaryref21_SameAuth_v1_ok N, trivial⟩, trivial⟩
theorem granaryref21_SameCall_i : loopsOf granaryref21_SameCall_c = [] := by kernel_rfl
noncomputable def granaryref21_SameCall_a (N : Nat) (f0 : Int × (List Int) × Int × (List Int) → Option (Bool)) (x : Int × Int × Int × Int × Int × Int × (List Int) × Int × (List Int) × (List Int) × Int × Int × Int × Int × Int × Int × (List Int) × Int × (List Int) × (List Int)) : Option (Bool) :=
  (Option.bind
  (cond (decide (x.1 = x.2.2.2.2.2.2.2.2.2.2.1))
  (cond (decide (x.2.1 = x.2.2.2.2.2.2.2.2.2.2.2.1))
  (cond (decide (x.2.2.1 = x.2.2.2.2.2.2.2.2.2.2.2.2.1))
  (cond (decide (x.2.2.2.1 = x.2.2.2.2.2.2.2.2.2.2.2.2.2.1))
  (cond (decide (x.2.2.2.2.1 = x.2.2.2.2.2.2.2.2.2.2.2.2.2.2.1))
  (Option.bind (f0 (x.2.2.2.2.2.1, x.2.2.2.2.2.2.1, x.2.2.2.2.2.2.2.2.2.2.2.2.2.2.2.1, x.2.2.2.2.2.2.2.2.2.2.2.2.2.2.2.2.1)) fun r6 =>
  (cond r6
  (Option.bind (f0 (x.2.2.2.2.2.2.2.1, x.2.2.2.2.2.2.2.2.1, x.2.2.2.2.2.2.2.2.2.2.2.2.2.2.2.2.2.1, x.2.2.2.2.2.2.2.2.2.2.2.2.2.2.2.2.2.2.1)) fun r7 =>
  (cond r7
  (some (decide ((List.map (fun (n : Int) => UInt8.ofNat n.toNat) x.2.2.2.2.2.2.2.2.2.1) = (List.map (fun (n : Int) => UInt8.ofNat n.toNat) x.2.2.2.2.2.2.2.2.2.2.2.2.2.2.2.2.2.2.2))))
  (some false)))
  (some false)))
  (some false))
  (some false))
  (some false))
  (some false))
  (some false))
  fun r11 =>
  (some r11))
theorem granaryref21_SameCall_f (N : Nat) (f0 : Int × (List Int) × Int × (List Int) → Option (Bool)) (x) : granaryref21_SameCall_a N f0 x = fnStep Γ (granaryref21_SameCall_CA N f0) (granaryref21_SameCall_J N) 61 Try.f31.results.toList (granaryref21_SameCall_g N) granaryref21_SameCall_o granaryref21_SameCall_c x := by kernel_rfl
theorem granaryref21_SameCall_e (N : Nat) (x) : (granaryref21_SameCall_g N).F x = fnStep Γ (granaryref21_SameCall_C N) (granaryref21_SameCall_J N) 61 Try.f31.results.toList (granaryref21_SameCall_g N) granaryref21_SameCall_o granaryref21_SameCall_c x := by
  rw [← granaryref21_SameCall_CE N]
  exact Eq.trans (by kernel_rfl) (granaryref21_SameCall_f N (granaryref21_SameAuth_v1) x)
theorem granaryref21_SameCall_y : Try.f31.body = some granaryref21_SameCall_c := by kernel_rfl
theorem granaryref21_SameCall_n : (Try.f31.name == "runtime.NumGoroutine") = false := by kernel_rfl
theorem granaryref21_SameCall_ok (N : Nat) : FnDoes Try.prog 31 (granaryref21_SameCall_g N) := fn_ok tabOK (granaryref21_SameCall_t N) mixedOK (J := granaryref21_SameCall_J N) (body := granaryref21_SameCall_c) Try.func31 granaryref21_SameCall_y granaryref21_SameCall_n Try.ntmps31 (jok_from granaryref21_SameCall_i ⟨trivial, trivial⟩) rfl rfl (le_of_ble rfl) (granaryref21_SameCall_e N)
end Go.Rf.W
