/-
  The law's function, printed.
-/
import Derived.Test.YtmkpcnmjhmdndaaGfF0
set_option linter.unusedVariables false
set_option maxRecDepth 100000
namespace Go.Rf.W
open Go Go.Rf
def granarylaw02_GfInverses (N : Nat) (x : Int × Int × (List Int) × Int × Int × (List Int)) : Option (Bool) :=
  (Option.bind
  (Option.bind (granarylaw02_wide (x.1, x.2.1, x.2.2.1)) fun r1 =>
  (cond r1
  (some true)
  (Option.bind (granarylaw02_wide (x.2.2.2.1, x.2.2.2.2.1, x.2.2.2.2.2)) fun r2 =>
  (cond r2
  (some true)
  (Option.bind (granaryref02_Check (x.1, x.2.1, x.2.2.1)) fun r3 =>
  (cond (!(decide (r3 = (0 : Int))))
  (some true)
  (Option.bind (granaryref02_Check (x.2.2.2.1, x.2.2.2.2.1, x.2.2.2.2.2)) fun r5 =>
  (some (!(decide (r5 = (0 : Int))))))))))))
  fun r7 =>
  (cond r7
  (Option.bind (granarylaw02_live N ()) fun r8 =>
  (some r8))
  (Option.bind (granarylaw02_own (x.1, x.2.1, x.2.2.1)) fun r9 =>
  (Option.bind (gf_Rank N (r9.1, r9.2.1, r9.2.2)) fun r10 =>
  (Option.bind (granarylaw02_own (x.1, x.2.1, x.2.2.1)) fun r11 =>
  (Option.bind (gf_Turn N (r11.1, r11.2.1, r11.2.2)) fun r12 =>
  (Option.bind (gf_Rank N (r12.1, r12.2.1, r12.2.2.2)) fun r13 =>
  (Option.bind
  (Option.bind (granarylaw02_num r10.2) fun r14 =>
  (cond (!(decide (r14 = (0 : Int))))
  (some true)
  (Option.bind (granarylaw02_num r12.2.2.1) fun r16 =>
  (cond (!(decide (r16 = (0 : Int))))
  (some true)
  (Option.bind (granarylaw02_num r13.2) fun r18 =>
  (cond (!(decide (r18 = (0 : Int))))
  (some true)
  (cond (!(decide (r10.1 = r13.1)))
  (some true)
  (cond (decide (x.1 < r10.1))
  (some true)
  (some (decide (x.2.1 < r10.1)))))))))))
  fun r23 =>
  (cond r23
  (some false)
  (Option.bind (granarylaw02_own (x.1, x.2.1, x.2.2.1)) fun r24 =>
  (Option.bind (granarylaw02_own (x.2.2.2.1, x.2.2.2.2.1, x.2.2.2.2.2)) fun r25 =>
  (Option.bind (gf_Product N (r24.1, r24.2.1, r24.2.2, r25.1, r25.2.1, r25.2.2)) fun r26 =>
  (Option.bind (granarylaw02_num r26.2.2.1) fun r27 =>
  (Option.bind
  ((cond (decide (r27 = (0 : Int)))
  (Option.bind (gf_Rank N (r26.1, r26.2.1, r26.2.2.2)) fun r29 =>
  (Option.bind (granarylaw02_own (x.2.2.2.1, x.2.2.2.2.1, x.2.2.2.2.2)) fun r30 =>
  (Option.bind (gf_Rank N (r30.1, r30.2.1, r30.2.2)) fun r31 =>
  (Option.bind
  (cond (decide (r10.1 < r29.1))
  (some true)
  (some (decide (r31.1 < r29.1))))
  fun r34 =>
  (cond r34
  (some (.inr (())))
  (some (.inl ())))))))
  (some (.inl ()))) : Option ((Unit) ⊕ (Unit)))
  fun r35 =>
  (match r35 with
  | .inl y36 =>
  (Option.bind (granarylaw02_own (x.1, x.2.1, x.2.2.1)) fun r38 =>
  (Option.bind (gf_Inverse N (r38.1, r38.2.1, r38.2.2)) fun r39 =>
  (Option.bind
  (Option.bind (granarylaw02_num r39.2.2.1) fun r40 =>
  (let v41 : Bool := (decide (r40 = (0 : Int)))
  (cond (decide (x.1 = x.2.1))
  (some (!(v41 == (decide (r10.1 = x.1)))))
  (some (!(v41 == false))))))
  fun r46 =>
  (cond r46
  (some false)
  (Option.bind (granarylaw02_num r39.2.2.1) fun r47 =>
  (cond (!(decide (r47 = (0 : Int))))
  (Option.bind (granarylaw02_live N ()) fun r49 =>
  (some r49))
  (Option.bind (gf_Inverse N (r39.1, r39.2.1, r39.2.2.2)) fun r50 =>
  (Option.bind
  (Option.bind (granarylaw02_num r50.2.2.1) fun r51 =>
  (cond (!(decide (r51 = (0 : Int))))
  (some true)
  (Option.bind (granaryref02_Same_v2 (r50.1, r50.2.1, r50.2.2.2, x.1, x.2.1, x.2.2.1)) fun r53 =>
  (some (!r53)))))
  fun r55 =>
  (cond r55
  (some false)
  (Option.bind (granarylaw02_own (x.2.2.2.1, x.2.2.2.2.1, x.2.2.2.2.2)) fun r56 =>
  (Option.bind (gf_Inverse N (r56.1, r56.2.1, r56.2.2)) fun r57 =>
  (Option.bind
  (Option.bind (granarylaw02_num r57.2.2.1) fun r58 =>
  (cond (!(decide (r58 = (0 : Int))))
  (some true)
  (Option.bind (granarylaw02_num r26.2.2.1) fun r60 =>
  (some (!(decide (r60 = (0 : Int))))))))
  fun r62 =>
  (cond r62
  (Option.bind (granarylaw02_live N ()) fun r63 =>
  (some r63))
  (Option.bind (gf_Inverse N (r26.1, r26.2.1, r26.2.2.2)) fun r64 =>
  (Option.bind (gf_Product N (r57.1, r57.2.1, r57.2.2.2, r39.1, r39.2.1, r39.2.2.2)) fun r65 =>
  (Option.bind
  (Option.bind (granarylaw02_num r64.2.2.1) fun r66 =>
  (cond (decide (r66 = (0 : Int)))
  (Option.bind (granarylaw02_num r65.2.2.1) fun r68 =>
  (cond (decide (r68 = (0 : Int)))
  (Option.bind (granaryref02_Same (r64.1, r64.2.1, r64.2.2.2, r65.1, r65.2.1, r65.2.2.2)) fun r70 =>
  (cond r70
  (Option.bind (granarylaw02_live N ()) fun r71 =>
  (some r71))
  (some false)))
  (some false)))
  (some false)))
  fun r72 =>
  (some r72)))))))))))))))))
  | .inr z37 =>
  (some false))))))))))))))))
end Go.Rf.W
