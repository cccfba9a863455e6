/-
  The printed functions are what the program does.
-/
import Derived.Test.YtmkpcnmjhmdndaaGfK0
set_option linter.unusedVariables false
set_option maxRecDepth 100000
namespace Go.Rf.W
open Go Go.Rf Go.Proofs
noncomputable def slices_Contains_byte_byte_c : Code := codeOf Try.f67.body
noncomputable def slices_Contains_byte_byte_J (N : Nat) : Nat → Hint := fun cx => hintOf cx []
noncomputable def slices_Contains_byte_byte_C (N : Nat) : Nat → List GS := fun k => tabOf k [(73, [slices_Index_byte_byte_g N])]
def slices_Contains_byte_byte_o : List (Shp × List Nat) := [(⟨[(0, (.av (.one .bool)))], []⟩, [])]
noncomputable def slices_Contains_byte_byte_g (N : Nat) : GS := { ins := ⟨[(0, (.av (.one (.rsl (.int .u8))))), (1, (.av (.one (.int .u8))))], []⟩, lend := [.keep, .keep], outs := slices_Contains_byte_byte_o.map fun s => ssOf s.1, its := [.lst (.int .u8), .int], ots := [[.bool]], F := slices_Contains_byte_byte N }
noncomputable def slices_Contains_byte_byte_CA (N : Nat) (f0 : (List Int) × Int → Option (Int)) : Nat → List GS := fun k => tabOf k [(73, [{ slices_Index_byte_byte_g N with F := f0 }])]
theorem slices_Contains_byte_byte_CE (N : Nat) : slices_Contains_byte_byte_CA N (slices_Index_byte_byte N) = slices_Contains_byte_byte_C N := by kernel_rfl
theorem slices_Contains_byte_byte_t (N : Nat) : TabC Try.prog (slices_Contains_byte_byte_C N) := tab_ok ⟨⟨slices_Index_byte_byte_ok N, trivial⟩, trivial⟩
theorem slices_Contains_byte_byte_i : loopsOf slices_Contains_byte_byte_c = [] := by kernel_rfl
noncomputable def slices_Contains_byte_byte_a (N : Nat) (f0 : (List Int) × Int → Option (Int)) (x : (List Int) × Int) : Option (Bool) :=
  (Option.bind (f0 (x.1, x.2)) fun r1 =>
  (some (decide ((0 : Int) ≤ r1))))
theorem slices_Contains_byte_byte_f (N : Nat) (f0 : (List Int) × Int → Option (Int)) (x) : slices_Contains_byte_byte_a N f0 x = fnStep Γ (slices_Contains_byte_byte_CA N f0) (slices_Contains_byte_byte_J N) 9 Try.f67.results.toList (slices_Contains_byte_byte_g N) slices_Contains_byte_byte_o slices_Contains_byte_byte_c x := by kernel_rfl
theorem slices_Contains_byte_byte_e (N : Nat) (x) : (slices_Contains_byte_byte_g N).F x = fnStep Γ (slices_Contains_byte_byte_C N) (slices_Contains_byte_byte_J N) 9 Try.f67.results.toList (slices_Contains_byte_byte_g N) slices_Contains_byte_byte_o slices_Contains_byte_byte_c x := by
  rw [← slices_Contains_byte_byte_CE N]
  exact Eq.trans (by kernel_rfl) (slices_Contains_byte_byte_f N (slices_Index_byte_byte N) x)
theorem slices_Contains_byte_byte_y : Try.f67.body = some slices_Contains_byte_byte_c := by kernel_rfl
theorem slices_Contains_byte_byte_n : (Try.f67.name == "runtime.NumGoroutine") = false := by kernel_rfl
theorem slices_Contains_byte_byte_ok (N : Nat) : FnDoes Try.prog 67 (slices_Contains_byte_byte_g N) := fn_ok tabOK (slices_Contains_byte_byte_t N) mixedOK (J := slices_Contains_byte_byte_J N) (body := slices_Contains_byte_byte_c) Try.func67 slices_Contains_byte_byte_y slices_Contains_byte_byte_n Try.ntmps67 (jok_from slices_Contains_byte_byte_i trivial) rfl rfl (le_of_ble rfl) (slices_Contains_byte_byte_e N)
end Go.Rf.W
