/-
  The law's function, printed.
-/
import Derived.Test.YtoabbnfjnjbjfaaRsF0
set_option linter.unusedVariables false
set_option maxRecDepth 100000
namespace Go.Rf.W
open Go Go.Rf
noncomputable def granarylaw03_RsRebuilds (N : Nat) (x : Int × Int × (List (List Int)) × (List Bool)) : Option (Bool) :=
  (Option.bind (granarylaw03_both N (x.1, x.2.1)) fun r1 =>
  (match r1 with
  | .inl y2 =>
  (cond (!y2)
  (cond y2
  (Option.bind (granarylaw03_live N ()) fun r5 =>
  (some r5))
  (some false))
  (Option.bind (granarylaw03_huge N x.2.2.1) fun r6 =>
  (cond r6
  (cond y2
  (Option.bind (granarylaw03_live N ()) fun r7 =>
  (some r7))
  (some false))
  (cond (decide ((30 : Int) < (((List.length x.2.2.2) : Nat) : Int)))
  (cond y2
  (Option.bind (granarylaw03_live N ()) fun r10 =>
  (some r10))
  (some false))
  (cond y2
  (Option.bind (granarylaw03_live N ()) fun r11 =>
  (some r11))
  (some false))))))
  | .inr z3 =>
  (match z3 with
  | .inl y12 =>
  (some false)
  | .inr z13 =>
  (match z13 with
  | .inl y14 =>
  (some false)
  | .inr z15 =>
  (cond (!z15.1)
  (cond z15.1
  (Option.bind (granarylaw03_live N ()) fun r17 =>
  (some r17))
  (some false))
  (Option.bind (granarylaw03_huge N x.2.2.1) fun r18 =>
  (cond r18
  (cond z15.1
  (Option.bind (granarylaw03_live N ()) fun r19 =>
  (some r19))
  (some false))
  (cond (decide ((30 : Int) < (((List.length x.2.2.2) : Nat) : Int)))
  (cond z15.1
  (Option.bind (granarylaw03_live N ()) fun r22 =>
  (some r22))
  (some false))
  (Option.bind (granarylaw03_lent N x.2.2.1) fun r23 =>
  (cond (fits 1 (List.length x.2.2.2))
  ((Option.bind (rs_Code_Rebuild_v2 N (r23, x.2.2.2, z15.2.1, z15.2.2.1, z15.2.2.2.2.2)) fun r25 =>
  (Option.bind (granaryref03_Code_Rebuild N (x.2.2.1, x.2.2.2, z15.2.2.2.1, z15.2.2.2.2.1)) fun r26 =>
  (Option.bind
  (Option.bind (granaryref03_Same N (r25.2.2.2.2, r26.2.2.2)) fun r27 =>
  (cond (!r27)
  (some true)
  (Option.bind (granarylaw03_num r25.1) fun r29 =>
  (some (!(decide (r29 = r26.1)))))))
  fun r31 =>
  (cond r31
  (some false)
  (Option.bind (granarylaw03_spoil N r25.2.2.2.2) fun r32 =>
  (Option.bind
  (Option.bind (granaryref03_Same_v1 N (r23, x.2.2.1)) fun r33 =>
  (cond r33
  (Option.bind (granarylaw03_live N ()) fun r34 =>
  (some r34))
  (some false)))
  fun r35 =>
  (some r35))))))))
  none))))))))))
end Go.Rf.W
