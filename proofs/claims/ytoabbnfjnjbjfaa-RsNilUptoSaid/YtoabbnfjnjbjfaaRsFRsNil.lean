/-
  The law's function, printed.
-/
import Derived.Test.YtoabbnfjnjbjfaaRsF0
set_option linter.unusedVariables false
set_option maxRecDepth 100000
namespace Go.Rf.W
open Go Go.Rf
noncomputable def granarylaw03_RsNil (N : Nat) (x : (List (List Int)) × Int) : Option (Bool) :=
  (Option.bind (granarylaw03_huge N x.1) fun r1 =>
  (cond r1
  (Option.bind (granarylaw03_live N ()) fun r2 =>
  (some r2))
  (Option.bind (rs_Code_Encode_v1 x.1) fun r3 =>
  (Option.bind (rs_Code_Check x.1) fun r4 =>
  (Option.bind (rs_Code_Rebuild_v1 (x.1, ([] : List Bool))) fun r5 =>
  (Option.bind (rs_Code_Update (x.1, x.2, ([] : List Int), ([] : List Int))) fun r6 =>
  (Option.bind (rs_Code_Split ([] : List Int)) fun r7 =>
  (Option.bind (rs_Code_Join (x.1, x.2)) fun r8 =>
  (Option.bind
  (Option.bind (granarylaw03_num (7 : Int)) fun r9 =>
  (cond (decide (r9 = (7 : Int)))
  (Option.bind (granarylaw03_num (7 : Int)) fun r11 =>
  (cond (decide (r11 = (7 : Int)))
  (Option.bind (granarylaw03_num (7 : Int)) fun r13 =>
  (cond (decide (r13 = (7 : Int)))
  (Option.bind (granarylaw03_num (7 : Int)) fun r15 =>
  (cond (decide (r15 = (7 : Int)))
  (Option.bind (granarylaw03_num (7 : Int)) fun r17 =>
  (cond (decide (r17 = (7 : Int)))
  (Option.bind (granarylaw03_num (7 : Int)) fun r19 =>
  (cond (decide (r19 = (7 : Int)))
  (Option.bind (rs_Code_Data ()) fun r21 =>
  (Option.bind (rs_Code_Parity ()) fun r22 =>
  (Option.bind (rs_Code_Row_v1 x.2) fun r23 =>
  (Option.bind (granarylaw03_live N ()) fun r24 =>
  (some r24)))))
  (some false)))
  (some false)))
  (some false)))
  (some false)))
  (some false)))
  (some false)))
  fun r25 =>
  (some r25))))))))))
end Go.Rf.W
