/-
  The law's function, printed.
-/
import Derived.Test.YtmkpcnmjhmdndaaGfF0
set_option linter.unusedVariables false
set_option maxRecDepth 100000
namespace Go.Rf.W
open Go Go.Rf
noncomputable def granarylaw02_GfMatrices_b0 (N : Nat) (next : Int × (List Int) × Int × Int → Option (((List Int) × Int × Int))) (x : Int × (List Int) × Int × Int) : Option (((List Int) × Int × Int)) :=
  (cond (decide (x.1 < (((List.length x.2.1) : Nat) : Int)))
  (cond ((decide ((0 : Int) ≤ x.1)) && (decide (x.1 < (((List.length x.2.1) : Nat) : Int))))
  ((let v3 : Nat := (Int.toNat x.1)
  (cond (decide (v3 < (List.length x.2.1)))
  ((next ((wrapF .i64 (x.1 + (1 : Int))), (List.set x.2.1 v3 (238 : Int)), x.2.2.1, x.2.2.2)))
  none)))
  none)
  (some (x.2.1, x.2.2.1, x.2.2.2)))
noncomputable def granarylaw02_GfMatrices_l0 (N : Nat) : Int × (List Int) × Int × Int → Option (((List Int) × Int × Int)) := loopF (granarylaw02_GfMatrices_b0 N) N
noncomputable def granarylaw02_GfMatrices (N : Nat) (x : Int × Int × (List Int) × Int × Int × (List Int) × (List Int) × (List Int)) : Option (Bool) :=
  (Option.bind
  (Option.bind (granarylaw02_wide (x.1, x.2.1, x.2.2.1)) fun r1 =>
  (cond r1
  (some true)
  (Option.bind (granarylaw02_wide (x.2.2.2.1, x.2.2.2.2.1, x.2.2.2.2.2.1)) fun r2 =>
  (cond r2
  (some true)
  (cond (decide ((100 : Int) < (((List.length x.2.2.2.2.2.2.1) : Nat) : Int)))
  (some true)
  (some (decide ((4000 : Int) < (((List.length x.2.2.2.2.2.2.2) : Nat) : Int)))))))))
  fun r7 =>
  (cond r7
  (Option.bind (granarylaw02_live N ()) fun r8 =>
  (some r8))
  (Option.bind (granarylaw02_own (x.1, x.2.1, x.2.2.1)) fun r9 =>
  (Option.bind (granarylaw02_own (x.2.2.2.1, x.2.2.2.2.1, x.2.2.2.2.2.1)) fun r10 =>
  (Option.bind (gf_Product N (r9.1, r9.2.1, r9.2.2, r10.1, r10.2.1, r10.2.2)) fun r11 =>
  (Option.bind (granaryref02_Product N (x.1, x.2.1, x.2.2.1, x.2.2.2.1, x.2.2.2.2.1, x.2.2.2.2.2.1)) fun r12 =>
  (Option.bind (gf_Inverse N (r9.1, r9.2.1, r9.2.2)) fun r13 =>
  (Option.bind (granaryref02_Inverse N (x.1, x.2.1, x.2.2.1)) fun r14 =>
  (Option.bind
  (Option.bind (granarylaw02_same (r11.1, r11.2.1, r11.2.2.2, r11.2.2.1, r12.1, r12.2.1, r12.2.2.2, r12.2.2.1)) fun r15 =>
  (cond (!r15)
  (some true)
  (Option.bind (granarylaw02_same (r13.1, r13.2.1, r13.2.2.2, r13.2.2.1, r14.1, r14.2.1, r14.2.2.2, r14.2.2.1)) fun r17 =>
  (cond (!r17)
  (some true)
  (Option.bind (gf_Check_v1 (r9.1, r9.2.1, r9.2.2)) fun r19 =>
  (Option.bind (granarylaw02_num r19) fun r20 =>
  (Option.bind (granaryref02_Check (x.1, x.2.1, x.2.2.1)) fun r21 =>
  (some (!(decide (r20 = r21)))))))))))
  fun r23 =>
  (cond r23
  (some false)
  (cond (fits 8 (List.length x.2.2.2.2.2.2.1))
  ((Option.bind (gf_Rows N (r9.1, r9.2.1, r9.2.2, x.2.2.2.2.2.2.1)) fun r25 =>
  (Option.bind (granaryref02_Rows N (x.1, x.2.1, x.2.2.1, x.2.2.2.2.2.2.1)) fun r26 =>
  (Option.bind (gf_Turn N (r9.1, r9.2.1, r9.2.2)) fun r27 =>
  (Option.bind (granaryref02_Turn N (x.1, x.2.1, x.2.2.1)) fun r28 =>
  (Option.bind
  (Option.bind (granarylaw02_same (r25.1, r25.2.1, r25.2.2.2, r25.2.2.1, r26.1, r26.2.1, r26.2.2.2, r26.2.2.1)) fun r29 =>
  (cond (!r29)
  (some true)
  (Option.bind (granarylaw02_same (r27.1, r27.2.1, r27.2.2.2, r27.2.2.1, r28.1, r28.2.1, r28.2.2.2, r28.2.2.1)) fun r31 =>
  (some (!r31)))))
  fun r33 =>
  (cond r33
  (some false)
  (Option.bind (gf_Rank N (r9.1, r9.2.1, r9.2.2)) fun r34 =>
  (Option.bind (granaryref02_Rank N (x.1, x.2.1, x.2.2.1)) fun r35 =>
  (cond (fits 1 (List.length x.2.2.2.2.2.2.2))
  ((Option.bind (gf_Solve N (r9.1, r9.2.1, r9.2.2, x.2.2.2.2.2.2.2)) fun r37 =>
  (Option.bind (granaryref02_Solve N (x.1, x.2.1, x.2.2.1, x.2.2.2.2.2.2.2)) fun r38 =>
  (Option.bind
  (cond (!(decide (r34.1 = r35.1)))
  (some true)
  (Option.bind (granarylaw02_num r34.2) fun r40 =>
  (cond (!(decide (r40 = r35.2)))
  (some true)
  (cond (!(decide ((List.map (fun (n : Int) => UInt8.ofNat n.toNat) r37.2) = (List.map (fun (n : Int) => UInt8.ofNat n.toNat) r38.2))))
  (some true)
  (Option.bind (granarylaw02_num r37.1) fun r45 =>
  (some (!(decide (r45 = r38.1)))))))))
  fun r47 =>
  (cond r47
  (some false)
  (Option.bind (gf_Make (x.1, x.2.1, r9.2.2)) fun r48 =>
  (Option.bind
  (Option.bind (granarylaw02_num r48.2.2.1) fun r49 =>
  (Option.bind (granaryref02_Check (x.1, x.2.1, x.2.2.1)) fun r50 =>
  (cond (!(decide (r49 = r50)))
  (some true)
  (Option.bind (granaryref02_Check (x.1, x.2.1, x.2.2.1)) fun r52 =>
  (cond (decide (r52 = (0 : Int)))
  (Option.bind (granaryref02_Same_v2 (r48.1, r48.2.1, r48.2.2.2, x.1, x.2.1, x.2.2.1)) fun r54 =>
  (cond (!r54)
  (some true)
  (Option.bind (granaryref02_Check (x.1, x.2.1, x.2.2.1)) fun r56 =>
  (cond (!(decide (r56 = (0 : Int))))
  (Option.bind (granaryref02_Same_v2 (r48.1, r48.2.1, r48.2.2.2, (0 : Int), (0 : Int), ([] : List Int))) fun r58 =>
  (some (!r58)))
  (some false)))))
  (Option.bind (granaryref02_Check (x.1, x.2.1, x.2.2.1)) fun r60 =>
  (cond (!(decide (r60 = (0 : Int))))
  (Option.bind (granaryref02_Same_v2 (r48.1, r48.2.1, r48.2.2.2, (0 : Int), (0 : Int), ([] : List Int))) fun r62 =>
  (some (!r62)))
  (some false))))))))
  fun r64 =>
  (cond r64
  (some false)
  (Option.bind (granarylaw02_GfMatrices_l0 N ((0 : Int), r48.2.2.2, r48.1, r48.2.1)) fun r65 =>
  (Option.bind
  (Option.bind (granaryref02_Same_v2 (r9.1, r9.2.1, r9.2.2, x.1, x.2.1, x.2.2.1)) fun r66 =>
  (cond r66
  (Option.bind (granaryref02_Same_v2 (r10.1, r10.2.1, r10.2.2, x.2.2.2.1, x.2.2.2.2.1, x.2.2.2.2.2.1)) fun r67 =>
  (cond r67
  (Option.bind (granarylaw02_live N ()) fun r68 =>
  (some r68))
  (some false)))
  (some false)))
  fun r69 =>
  (some r69)))))))))))
  none))))))))))
  none)))))))))))
end Go.Rf.W
