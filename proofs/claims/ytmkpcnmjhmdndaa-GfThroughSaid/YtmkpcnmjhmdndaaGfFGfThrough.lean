/-
  The law's function, printed.
-/
import Derived.Test.YtmkpcnmjhmdndaaGfF0
set_option linter.unusedVariables false
set_option maxRecDepth 100000
namespace Go.Rf.W
open Go Go.Rf
noncomputable def granarylaw02_GfThrough_b0 (N : Nat) (next : (List Int) × (List Int) × (List Int) × Int × (List Int) × (List Int) → Option (((List Int)) ⊕ ((List Int) × (List Int)))) (x : (List Int) × (List Int) × (List Int) × Int × (List Int) × (List Int)) : Option (((List Int)) ⊕ ((List Int) × (List Int))) :=
  (cond (decide (x.2.2.2.1 < (((List.length x.1) : Nat) : Int)))
  (cond ((decide ((0 : Int) ≤ x.2.2.2.1)) && (decide (x.2.2.2.1 < (((List.length x.1) : Nat) : Int))))
  ((Option.bind (gf_Eval N (x.2.2.2.2.1, (List.getD x.1 (Int.toNat x.2.2.2.1) (EK.dflt (.int .u8))))) fun r4 =>
  (cond ((decide ((0 : Int) ≤ x.2.2.2.1)) && (decide (x.2.2.2.1 < (((List.length x.2.1) : Nat) : Int))))
  ((cond (!(decide (r4 = (List.getD x.2.1 (Int.toNat x.2.2.2.1) (EK.dflt (.int .u8))))))
  (some (.inl x.2.2.2.2.1))
  (cond (fits 1 (List.length x.2.2.1))
  ((cond ((decide ((0 : Int) ≤ x.2.2.2.1)) && (decide (x.2.2.2.1 < (((List.length x.1) : Nat) : Int))))
  ((Option.bind (gf_Eval N (x.2.2.1, (List.getD x.1 (Int.toNat x.2.2.2.1) (EK.dflt (.int .u8))))) fun r9 =>
  (let v10 : List Int := ([r9] : List Int)
  (cond ((decide (1 ≤ (List.length v10))) && (fits 1 ((List.length x.2.2.2.2.2) + (List.length (List.take 1 (List.drop 0 v10))))))
  ((next (x.1, x.2.1, x.2.2.1, (wrapF .i64 (x.2.2.2.1 + (1 : Int))), x.2.2.2.2.1, (x.2.2.2.2.2 ++ (List.take 1 (List.drop 0 v10))))))
  none))))
  none))
  none)))
  none)))
  none)
  (some (.inr ((x.2.2.2.2.1, x.2.2.2.2.2)))))
noncomputable def granarylaw02_GfThrough_l0 (N : Nat) : (List Int) × (List Int) × (List Int) × Int × (List Int) × (List Int) → Option (((List Int)) ⊕ ((List Int) × (List Int))) := loopF (granarylaw02_GfThrough_b0 N) N
noncomputable def granarylaw02_GfThrough_b2 (N : Nat) (next : (List Int) × Int × (List Int) → Option (((List Int)) ⊕ ((List Int)))) (x : (List Int) × Int × (List Int)) : Option (((List Int)) ⊕ ((List Int))) :=
  (cond (decide (x.2.1 < (((List.length x.2.2) : Nat) : Int)))
  (Option.bind
  (cond (decide (x.2.1 < (((List.length x.1) : Nat) : Int)))
  (cond ((decide ((0 : Int) ≤ x.2.1)) && (decide (x.2.1 < (((List.length x.1) : Nat) : Int))))
  ((some (List.getD x.1 (Int.toNat x.2.1) (EK.dflt (.int .u8)))))
  none)
  (some (0 : Int)))
  fun r6 =>
  (cond ((decide ((0 : Int) ≤ x.2.1)) && (decide (x.2.1 < (((List.length x.2.2) : Nat) : Int))))
  ((let v7 : Nat := (Int.toNat x.2.1)
  (cond (decide (v7 < (List.length x.2.2)))
  ((cond (!(decide ((List.getD x.2.2 v7 (EK.dflt (.int .u8))) = r6)))
  (some (.inl x.2.2))
  (next (x.1, (wrapF .i64 (x.2.1 + (1 : Int))), x.2.2))))
  none)))
  none))
  (some (.inr (x.2.2))))
noncomputable def granarylaw02_GfThrough_l2 (N : Nat) : (List Int) × Int × (List Int) → Option (((List Int)) ⊕ ((List Int))) := loopF (granarylaw02_GfThrough_b2 N) N
noncomputable def granarylaw02_GfThrough (N : Nat) (x : (List Int) × (List Int) × (List Int)) : Option (Bool) :=
  (Option.bind
  (cond (decide ((60 : Int) < (((List.length x.1) : Nat) : Int)))
  (some true)
  (cond (decide ((60 : Int) < (((List.length x.2.1) : Nat) : Int)))
  (some true)
  (some (decide ((60 : Int) < (((List.length x.2.2) : Nat) : Int))))))
  fun r7 =>
  (cond r7
  (Option.bind (granarylaw02_live N ()) fun r8 =>
  (some r8))
  (cond (fits 1 (List.length x.1))
  ((cond (fits 1 (List.length x.2.1))
  ((Option.bind (gf_Through N (x.1, x.2.1)) fun r11 =>
  (Option.bind (granarylaw02_num r11.1) fun r12 =>
  (cond (!(decide (r12 = (0 : Int))))
  (Option.bind (granarylaw02_live N ()) fun r14 =>
  (some r14))
  (cond (!(decide ((((List.length r11.2) : Nat) : Int) = (((List.length x.1) : Nat) : Int))))
  (some false)
  (Option.bind (granarylaw02_GfThrough_l0 N (x.1, x.2.1, x.2.2, (0 : Int), r11.2, ([] : List Int))) fun r18 =>
  (match r18 with
  | .inl y19 =>
  (some false)
  | .inr z20 =>
  (cond (decide ((((List.length x.1) : Nat) : Int) < (((List.length x.2.2) : Nat) : Int)))
  (Option.bind (granarylaw02_live N ()) fun r24 =>
  (some r24))
  (cond (fits 1 (List.length x.1))
  ((Option.bind (gf_Through N (x.1, z20.2)) fun r26 =>
  (Option.bind
  (Option.bind (granarylaw02_num r26.1) fun r27 =>
  (cond (!(decide (r27 = (0 : Int))))
  (some true)
  (some (!(decide ((((List.length r26.2) : Nat) : Int) = (((List.length x.1) : Nat) : Int)))))))
  fun r32 =>
  (cond r32
  (some false)
  (Option.bind (granarylaw02_GfThrough_l2 N (x.2.2, (0 : Int), r26.2)) fun r33 =>
  (match r33 with
  | .inl y34 =>
  (some false)
  | .inr z35 =>
  (Option.bind (granarylaw02_live N ()) fun r36 =>
  (some r36))))))))
  none)))))))))
  none))
  none)))
end Go.Rf.W
