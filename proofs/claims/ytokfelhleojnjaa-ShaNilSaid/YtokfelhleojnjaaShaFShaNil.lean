/-
  The law's function, printed.
-/
import Derived.Test.YtokfelhleojnjaaShaF0
set_option linter.unusedVariables false
set_option maxRecDepth 100000
namespace Go.Rf.W
open Go Go.Rf
noncomputable def granarylaw05_ShaNil (N : Nat) (x : (List Int)) : Option (Bool) :=
  (cond (decide ((9000 : Int) < (((List.length x) : Nat) : Int)))
  (Option.bind (granarylaw05_live N ()) fun r3 =>
  (some r3))
  (Option.bind (sha_Hash_Write_v3 x) fun r4 =>
  (Option.bind
  (Option.bind (sha_Hash_Len ()) fun r5 =>
  (Option.bind (sha_Hash_Sum_v1 N ()) fun r6 =>
  (Option.bind (granaryref05_Sum N ([] : List Int)) fun r7 =>
  (cond (decide (r6 = r7))
  (Option.bind (sha_Hash_Save ()) fun r9 =>
  (Option.bind (granarylaw05_live N ()) fun r10 =>
  (some r10)))
  (some false)))))
  fun r11 =>
  (some r11))))
end Go.Rf.W
