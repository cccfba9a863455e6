/-
  The law's function, printed.
-/
import Derived.Test.YtmkpcnmjhmdndaaGfF0
set_option linter.unusedVariables false
set_option maxRecDepth 100000
namespace Go.Rf.W
open Go Go.Rf
def granarylaw02_GfField (N : Nat) (x : Int × Int × Int) : Option (Bool) :=
  (Option.bind
  (Option.bind (gf_Mul N (x.1, x.2.1)) fun r1 =>
  (Option.bind (gf_Mul N (x.2.1, x.1)) fun r2 =>
  (cond (!(decide (r1 = r2)))
  (some true)
  (Option.bind (gf_Mul N (x.1, x.2.1)) fun r4 =>
  (Option.bind (gf_Mul N (r4, x.2.2)) fun r5 =>
  (Option.bind (gf_Mul N (x.2.1, x.2.2)) fun r6 =>
  (Option.bind (gf_Mul N (x.1, r6)) fun r7 =>
  (cond (!(decide (r5 = r7)))
  (some true)
  (Option.bind (gf_Add (x.2.1, x.2.2)) fun r9 =>
  (Option.bind (gf_Mul N (x.1, r9)) fun r10 =>
  (Option.bind (gf_Mul N (x.1, x.2.1)) fun r11 =>
  (Option.bind (gf_Mul N (x.1, x.2.2)) fun r12 =>
  (Option.bind (gf_Add (r11, r12)) fun r13 =>
  (cond (!(decide (r10 = r13)))
  (some true)
  (Option.bind (gf_Mul N (x.1, (1 : Int))) fun r15 =>
  (cond (!(decide (r15 = x.1)))
  (some true)
  (Option.bind (gf_Add (x.1, (0 : Int))) fun r17 =>
  (cond (!(decide (r17 = x.1)))
  (some true)
  (Option.bind (gf_Add (x.1, x.1)) fun r19 =>
  (some (!(decide (r19 = (0 : Int))))))))))))))))))))))))
  fun r21 =>
  (cond r21
  (some false)
  (Option.bind (gf_Inv N x.1) fun r22 =>
  (Option.bind
  (Option.bind (granarylaw02_num r22.2) fun r23 =>
  (cond (!((decide (r23 = (0 : Int))) == (!(decide (x.1 = (0 : Int))))))
  (some true)
  (cond (!(decide (x.1 = (0 : Int))))
  (Option.bind (gf_Mul N (x.1, r22.1)) fun r28 =>
  (cond (!(decide (r28 = (1 : Int))))
  (some true)
  (Option.bind (gf_Mul N (x.1, x.2.1)) fun r30 =>
  (let v31 : Bool := (decide (r30 = (0 : Int)))
  (cond (decide (x.1 = (0 : Int)))
  (some (!(v31 == true)))
  (some (!(v31 == (decide (x.2.1 = (0 : Int)))))))))))
  (Option.bind (gf_Mul N (x.1, x.2.1)) fun r36 =>
  (let v37 : Bool := (decide (r36 = (0 : Int)))
  (cond (decide (x.1 = (0 : Int)))
  (some (!(v37 == true)))
  (some (!(v37 == (decide (x.2.1 = (0 : Int))))))))))))
  fun r42 =>
  (cond r42
  (some false)
  (Option.bind (granarylaw02_live N ()) fun r43 =>
  (some r43)))))))
end Go.Rf.W
