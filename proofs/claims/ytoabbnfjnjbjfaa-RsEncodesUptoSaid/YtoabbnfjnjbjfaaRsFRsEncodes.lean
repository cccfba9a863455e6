/-
  The law's function, printed.
-/
import Derived.Test.YtoabbnfjnjbjfaaRsF0
set_option linter.unusedVariables false
set_option maxRecDepth 100000
namespace Go.Rf.W
open Go Go.Rf
noncomputable def granarylaw03_RsEncodes (N : Nat) (x : Int × Int × (List (List Int))) : Option (Bool) :=
  (Option.bind (granarylaw03_both N (x.1, x.2.1)) fun r1 =>
  (match r1 with
  | .inl y2 =>
  (cond (!y2)
  (cond y2
  (Option.bind (granarylaw03_live N ()) fun r5 =>
  (some r5))
  (some false))
  (Option.bind (granarylaw03_huge N x.2.2) fun r6 =>
  (cond r6
  (cond y2
  (Option.bind (granarylaw03_live N ()) fun r7 =>
  (some r7))
  (some false))
  (cond y2
  (Option.bind (granarylaw03_live N ()) fun r8 =>
  (some r8))
  (some false)))))
  | .inr z3 =>
  (match z3 with
  | .inl y9 =>
  (some false)
  | .inr z10 =>
  (match z10 with
  | .inl y11 =>
  (some false)
  | .inr z12 =>
  (cond (!z12.1)
  (cond z12.1
  (Option.bind (granarylaw03_live N ()) fun r14 =>
  (some r14))
  (some false))
  (Option.bind (granarylaw03_huge N x.2.2) fun r15 =>
  (cond r15
  (cond z12.1
  (Option.bind (granarylaw03_live N ()) fun r16 =>
  (some r16))
  (some false))
  (Option.bind (granarylaw03_lent N x.2.2) fun r17 =>
  (Option.bind (rs_Code_Encode_v2 N (r17, z12.2.1, z12.2.2.1, z12.2.2.2.2.2)) fun r18 =>
  (Option.bind (granaryref03_Code_Encode N (x.2.2, z12.2.2.2.1, z12.2.2.2.2.1)) fun r19 =>
  (Option.bind
  (Option.bind (granaryref03_Same N (r18.2.2.2.2, r19.2.2.2)) fun r20 =>
  (cond (!r20)
  (some true)
  (Option.bind (granarylaw03_num r18.1) fun r22 =>
  (some (!(decide (r22 = r19.1)))))))
  fun r24 =>
  (cond r24
  (some false)
  (Option.bind (rs_Code_Check_v1 N (r17, r18.2.1, r18.2.2.1, r18.2.2.2.1)) fun r25 =>
  (Option.bind (granaryref03_Code_Check N (x.2.2, r19.2.1, r19.2.2.1)) fun r26 =>
  (Option.bind
  (cond (!(r25.1 == r26.1))
  (some true)
  (Option.bind (granarylaw03_num r25.2.1) fun r28 =>
  (some (!(decide (r28 = r26.2.1))))))
  fun r30 =>
  (cond r30
  (some false)
  (Option.bind (granarylaw03_lent N x.2.2) fun r31 =>
  (cond (fits 24 ((List.length r31) + (List.length r19.2.2.2)))
  ((let v32 : List (List Int) := (r31 ++ r19.2.2.2)
  (Option.bind (rs_Code_Check_v1 N (v32, r25.2.2.1, r25.2.2.2.1, r25.2.2.2.2)) fun r33 =>
  (Option.bind (granaryref03_Code_Check_v1 N (v32, r26.2.2.1, r26.2.2.2)) fun r34 =>
  (Option.bind (granarylaw03_spoil N r18.2.2.2.2) fun r35 =>
  (Option.bind
  (cond (r33.1 == r34.1)
  (Option.bind (granarylaw03_num r33.2.1) fun r37 =>
  (cond (decide (r37 = r34.2.1))
  (Option.bind (granaryref03_Same_v1 N (r17, x.2.2)) fun r39 =>
  (cond r39
  (Option.bind (granarylaw03_live N ()) fun r40 =>
  (some r40))
  (some false)))
  (some false)))
  (some false))
  fun r41 =>
  (some r41)))))))
  none))))))))))))))))))
end Go.Rf.W
