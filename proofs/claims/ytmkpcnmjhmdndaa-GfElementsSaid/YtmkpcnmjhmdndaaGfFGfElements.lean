/-
  The law's function, printed.
-/
import Derived.Test.YtmkpcnmjhmdndaaGfF0
set_option linter.unusedVariables false
set_option maxRecDepth 100000
namespace Go.Rf.W
open Go Go.Rf
def granarylaw02_GfElements (N : Nat) (x : Int × Int × Int) : Option (Bool) :=
  (Option.bind (gf_Div N (x.1, x.2.1)) fun r1 =>
  (Option.bind (granaryref02_Div N (x.1, x.2.1)) fun r2 =>
  (Option.bind (gf_Inv N x.1) fun r3 =>
  (Option.bind (granaryref02_Inv N x.1) fun r4 =>
  (Option.bind (gf_Log N x.1) fun r5 =>
  (Option.bind (granaryref02_Log N x.1) fun r6 =>
  (Option.bind
  (Option.bind (gf_Add (x.1, x.2.1)) fun r7 =>
  (cond (decide (r7 = (xorF .u8 x.1 x.2.1)))
  (Option.bind (gf_Mul N (x.1, x.2.1)) fun r10 =>
  (Option.bind (granaryref02_Mul N (x.1, x.2.1)) fun r11 =>
  (cond (decide (r10 = r11))
  (cond (decide (r1.1 = r2.1))
  (Option.bind (granarylaw02_num r1.2) fun r14 =>
  (cond (decide (r14 = r2.2))
  (cond (decide (r3.1 = r4.1))
  (Option.bind (granarylaw02_num r3.2) fun r17 =>
  (cond (decide (r17 = r4.2))
  (cond (decide (r5.1 = r6.1))
  (Option.bind (granarylaw02_num r5.2) fun r20 =>
  (cond (decide (r20 = r6.2))
  (Option.bind (gf_Pow N (x.1, x.2.2)) fun r22 =>
  (Option.bind (granaryref02_Pow N (x.1, x.2.2)) fun r23 =>
  (cond (decide (r22 = r23))
  (Option.bind (gf_Exp N x.2.2) fun r25 =>
  (Option.bind (granaryref02_Pow N ((2 : Int), x.2.2)) fun r26 =>
  (cond (decide (r25 = r26))
  (Option.bind (granarylaw02_live N ()) fun r28 =>
  (some r28))
  (some false))))
  (some false))))
  (some false)))
  (some false))
  (some false)))
  (some false))
  (some false)))
  (some false))
  (some false))))
  (some false)))
  fun r29 =>
  (some r29))))))))
end Go.Rf.W
