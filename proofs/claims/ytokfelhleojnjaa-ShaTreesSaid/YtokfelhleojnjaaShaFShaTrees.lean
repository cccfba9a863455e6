/-
  The law's function, printed.
-/
import Derived.Test.YtokfelhleojnjaaShaF0
set_option linter.unusedVariables false
set_option maxRecDepth 100000
namespace Go.Rf.W
open Go Go.Rf
noncomputable def granarylaw05_ShaTrees (N : Nat) (x : (List (List Int)) × Int × (List Int) × Int × (List (List Int))) : Option (Bool) :=
  (Option.bind
  (cond (decide ((60 : Int) < (((List.length x.1) : Nat) : Int)))
  (some true)
  (some (decide ((60 : Int) < (((List.length x.2.2.2.2) : Nat) : Int)))))
  fun r5 =>
  (cond r5
  (Option.bind (granarylaw05_live N ()) fun r6 =>
  (some r6))
  (cond (fits 32 (List.length x.1))
  ((Option.bind (sha_Path N (x.1, x.2.1)) fun r8 =>
  (Option.bind (granaryref05_Path N (x.1, x.2.1)) fun r9 =>
  (Option.bind (sha_Climb N (x.2.2.1, x.2.1, x.2.2.2.1, x.2.2.2.2)) fun r10 =>
  (Option.bind (granaryref05_Climb N (x.2.2.1, x.2.1, x.2.2.2.1, x.2.2.2.2)) fun r12 =>
  (Option.bind
  (Option.bind (sha_Root N x.1) fun r14 =>
  (Option.bind (granaryref05_Root N x.1) fun r15 =>
  (cond (decide (r14 = r15))
  (Option.bind (granaryref05_Same N (r8.2, r9.2)) fun r17 =>
  (cond r17
  (Option.bind (granarylaw05_num r8.1) fun r18 =>
  (cond (decide (r18 = r9.1))
  (cond (decide (r10.1 = r12.1))
  (Option.bind (granarylaw05_num r10.2) fun r21 =>
  (cond (decide (r21 = r12.2))
  (Option.bind (granaryref05_Same_v1 N (x.1, x.1)) fun r23 =>
  (cond r23
  (Option.bind (granarylaw05_live N ()) fun r24 =>
  (some r24))
  (some false)))
  (some false)))
  (some false))
  (some false)))
  (some false)))
  (some false))))
  fun r25 =>
  (some r25)))))))
  none)))
end Go.Rf.W
