/-
  The law's function, printed.
-/
import Derived.Test.YtmkpcnmjhmdndaaGfF0
set_option linter.unusedVariables false
set_option maxRecDepth 100000
namespace Go.Rf.W
open Go Go.Rf
def granarylaw02_GfPowers (N : Nat) (x : Int × Int × Int × Int) : Option (Bool) :=
  (Option.bind (gf_Add (x.1, x.2.1)) fun r1 =>
  (Option.bind
  (Option.bind (gf_Mul N (r1, r1)) fun r2 =>
  (Option.bind (gf_Mul N (x.1, x.1)) fun r3 =>
  (Option.bind (gf_Mul N (x.2.1, x.2.1)) fun r4 =>
  (Option.bind (gf_Add (r3, r4)) fun r5 =>
  (cond (!(decide (r2 = r5)))
  (some true)
  (Option.bind (gf_Pow N (r1, (2 : Int))) fun r7 =>
  (Option.bind (gf_Mul N (r1, r1)) fun r8 =>
  (cond (!(decide (r7 = r8)))
  (some true)
  (Option.bind (gf_Pow N (x.1, (0 : Int))) fun r10 =>
  (some (!(decide (r10 = (1 : Int))))))))))))))
  fun r12 =>
  (cond r12
  (some false)
  (Option.bind
  (cond (decide (x.1 = (0 : Int)))
  (some true)
  (cond (decide ((2305843009213693952 : Int) < x.2.2.1))
  (some true)
  (cond (decide (x.2.2.1 < (-2305843009213693952 : Int)))
  (some true)
  (cond (decide ((2305843009213693952 : Int) < x.2.2.2))
  (some true)
  (some (decide (x.2.2.2 < (-2305843009213693952 : Int))))))))
  fun r18 =>
  (cond r18
  (Option.bind (granarylaw02_live N ()) fun r19 =>
  (some r19))
  (Option.bind (gf_Log N x.1) fun r20 =>
  (Option.bind
  (Option.bind (gf_Pow N (x.1, x.2.2.1)) fun r21 =>
  (Option.bind (gf_Pow N (x.1, x.2.2.2)) fun r22 =>
  (Option.bind (gf_Mul N (r21, r22)) fun r23 =>
  (Option.bind (gf_Pow N (x.1, (wrapF .i64 (x.2.2.1 + x.2.2.2)))) fun r25 =>
  (cond (decide (r23 = r25))
  (Option.bind (gf_Pow N (x.1, (255 : Int))) fun r27 =>
  (cond (decide (r27 = (1 : Int)))
  (Option.bind (granarylaw02_num r20.2) fun r29 =>
  (cond (decide (r29 = (0 : Int)))
  (cond (decide ((0 : Int) ≤ r20.1))
  (cond (decide (r20.1 < (255 : Int)))
  (Option.bind (gf_Exp N r20.1) fun r33 =>
  (cond (decide (r33 = x.1))
  (Option.bind (granarylaw02_live N ()) fun r35 =>
  (some r35))
  (some false)))
  (some false))
  (some false))
  (some false)))
  (some false)))
  (some false))))))
  fun r36 =>
  (some r36))))))))
end Go.Rf.W
