/-
  The law's function, printed.
-/
import Derived.Test.YtoabbnfjnjbjfaaRsF0
set_option linter.unusedVariables false
set_option maxRecDepth 100000
namespace Go.Rf.W
open Go Go.Rf
noncomputable def granarylaw03_RsUpdates (N : Nat) (x : Int × Int × (List (List Int)) × Int × (List Int) × (List Int)) : Option (Bool) :=
  (Option.bind (granarylaw03_both N (x.1, x.2.1)) fun r1 =>
  (match r1 with
  | .inl y2 =>
  (cond (!y2)
  (cond y2
  (Option.bind (granarylaw03_live N ()) fun r5 =>
  (some r5))
  (some false))
  (Option.bind (granarylaw03_huge N x.2.2.1) fun r6 =>
  (cond r6
  (cond y2
  (Option.bind (granarylaw03_live N ()) fun r7 =>
  (some r7))
  (some false))
  (cond (decide ((9000 : Int) < (wrapF .i64 ((((List.length x.2.2.2.2.1) : Nat) : Int) + (((List.length x.2.2.2.2.2) : Nat) : Int)))))
  (cond y2
  (Option.bind (granarylaw03_live N ()) fun r12 =>
  (some r12))
  (some false))
  (cond y2
  (Option.bind (granarylaw03_live N ()) fun r13 =>
  (some r13))
  (some false))))))
  | .inr z3 =>
  (match z3 with
  | .inl y14 =>
  (some false)
  | .inr z15 =>
  (match z15 with
  | .inl y16 =>
  (some false)
  | .inr z17 =>
  (cond (!z17.1)
  (cond z17.1
  (Option.bind (granarylaw03_live N ()) fun r19 =>
  (some r19))
  (some false))
  (Option.bind (granarylaw03_huge N x.2.2.1) fun r20 =>
  (cond r20
  (cond z17.1
  (Option.bind (granarylaw03_live N ()) fun r21 =>
  (some r21))
  (some false))
  (cond (decide ((9000 : Int) < (wrapF .i64 ((((List.length x.2.2.2.2.1) : Nat) : Int) + (((List.length x.2.2.2.2.2) : Nat) : Int)))))
  (cond z17.1
  (Option.bind (granarylaw03_live N ()) fun r26 =>
  (some r26))
  (some false))
  (Option.bind (granarylaw03_lent N x.2.2.1) fun r27 =>
  (Option.bind (rs_Code_Update_v1 N (r27, x.2.2.2.1, x.2.2.2.2.1, x.2.2.2.2.2, z17.2.1, z17.2.2.1, z17.2.2.2.2.2)) fun r28 =>
  (Option.bind (granaryref03_Code_Update N (x.2.2.1, x.2.2.2.1, x.2.2.2.2.1, x.2.2.2.2.2, z17.2.2.2.1, z17.2.2.2.2.1)) fun r29 =>
  (Option.bind
  (Option.bind (granaryref03_Same N (r28.2.2.2.2, r29.2.2.2)) fun r30 =>
  (cond (!r30)
  (some true)
  (Option.bind (granarylaw03_num r28.1) fun r32 =>
  (some (!(decide (r32 = r29.1)))))))
  fun r34 =>
  (cond r34
  (some false)
  (Option.bind (granarylaw03_spoil N r28.2.2.2.2) fun r35 =>
  (Option.bind
  (Option.bind (granaryref03_Same_v1 N (r27, x.2.2.1)) fun r36 =>
  (cond r36
  (Option.bind (granarylaw03_live N ()) fun r37 =>
  (some r37))
  (some false)))
  fun r38 =>
  (some r38))))))))))))))))
end Go.Rf.W
