/-
  The law's function, printed.
-/
import Derived.Test.YtmkpcnmjhmdndaaGfF0
set_option linter.unusedVariables false
set_option maxRecDepth 100000
namespace Go.Rf.W
open Go Go.Rf
noncomputable def granarylaw02_GfVandermonde_b2 (N : Nat) (next : (List Int) × Int × Int → Option (Bool ⊕ Unit)) (x : (List Int) × Int × Int) : Option (Bool ⊕ Unit) :=
  (cond (decide (x.2.2 < x.2.1))
  (cond ((decide ((0 : Int) ≤ x.2.2)) && (decide (x.2.2 < (((List.length x.1) : Nat) : Int))))
  ((cond ((decide ((0 : Int) ≤ x.2.1)) && (decide (x.2.1 < (((List.length x.1) : Nat) : Int))))
  ((cond (decide ((List.getD x.1 (Int.toNat x.2.2) (EK.dflt (.int .i64))) = (List.getD x.1 (Int.toNat x.2.1) (EK.dflt (.int .i64)))))
  (Option.bind (granarylaw02_live N ()) fun r5 =>
  (some (.inl r5)))
  (next (x.1, x.2.1, (wrapF .i64 (x.2.2 + (1 : Int)))))))
  none))
  none)
  (some (.inr (()))))
noncomputable def granarylaw02_GfVandermonde_l2 (N : Nat) : (List Int) × Int × Int → Option (Bool ⊕ Unit) := loopF (granarylaw02_GfVandermonde_b2 N) N
noncomputable def granarylaw02_GfVandermonde_b0 (N : Nat) (next : (List Int) × Int → Option (Bool ⊕ Unit)) (x : (List Int) × Int) : Option (Bool ⊕ Unit) :=
  (cond (decide (x.2 < (((List.length x.1) : Nat) : Int)))
  (Option.bind
  (cond ((decide ((0 : Int) ≤ x.2)) && (decide (x.2 < (((List.length x.1) : Nat) : Int))))
  ((cond (decide ((List.getD x.1 (Int.toNat x.2) (EK.dflt (.int .i64))) < (0 : Int)))
  (some true)
  (cond ((decide ((0 : Int) ≤ x.2)) && (decide (x.2 < (((List.length x.1) : Nat) : Int))))
  ((some (decide ((64 : Int) ≤ (List.getD x.1 (Int.toNat x.2) (EK.dflt (.int .i64)))))))
  none)))
  none)
  fun r7 =>
  (cond r7
  (Option.bind (granarylaw02_live N ()) fun r8 =>
  (some (.inl r8)))
  (Option.bind (granarylaw02_GfVandermonde_l2 N (x.1, x.2, (0 : Int))) fun r9 =>
  (match r9 with
  | .inl y10 =>
  (some (.inl y10))
  | .inr z11 =>
  (next (x.1, (wrapF .i64 (x.2 + (1 : Int)))))))))
  (some (.inr (()))))
noncomputable def granarylaw02_GfVandermonde_l0 (N : Nat) : (List Int) × Int → Option (Bool ⊕ Unit) := loopF (granarylaw02_GfVandermonde_b0 N) N
noncomputable def granarylaw02_GfVandermonde (N : Nat) (x : (List Int)) : Option (Bool) :=
  (Option.bind
  (cond (decide ((((List.length x) : Nat) : Int) < (1 : Int)))
  (some true)
  (some (decide ((16 : Int) < (((List.length x) : Nat) : Int)))))
  fun r5 =>
  (cond r5
  (Option.bind (granarylaw02_live N ()) fun r6 =>
  (some r6))
  (Option.bind (granarylaw02_GfVandermonde_l0 N (x, (0 : Int))) fun r7 =>
  (match r7 with
  | .inl y8 =>
  (some y8)
  | .inr z9 =>
  (Option.bind (gf_Powers N ((64 : Int), (((List.length x) : Nat) : Int))) fun r11 =>
  (cond (fits 8 (List.length x))
  ((Option.bind (gf_Rows N (r11.1, r11.2.1, r11.2.2.2, x)) fun r13 =>
  (Option.bind (gf_Inverse N (r13.1, r13.2.1, r13.2.2.2)) fun r14 =>
  (Option.bind (gf_Product N (r13.1, r13.2.1, r13.2.2.2, r14.1, r14.2.1, r14.2.2.2)) fun r15 =>
  (Option.bind (granaryref02_Identity N (((List.length x) : Nat) : Int)) fun r17 =>
  (Option.bind (gf_Rank N (r13.1, r13.2.1, r13.2.2.2)) fun r18 =>
  (Option.bind
  (Option.bind (granarylaw02_num r11.2.2.1) fun r19 =>
  (cond (decide (r19 = (0 : Int)))
  (Option.bind (granarylaw02_num r13.2.2.1) fun r21 =>
  (cond (decide (r21 = (0 : Int)))
  (Option.bind (granarylaw02_num r14.2.2.1) fun r23 =>
  (cond (decide (r23 = (0 : Int)))
  (Option.bind (granarylaw02_num r15.2.2.1) fun r25 =>
  (cond (decide (r25 = (0 : Int)))
  (Option.bind (granaryref02_Same (r15.1, r15.2.1, r15.2.2.2, r17.1, r17.2.1, r17.2.2.2)) fun r27 =>
  (cond r27
  (cond (decide (r18.1 = (((List.length x) : Nat) : Int)))
  (Option.bind (granarylaw02_num r18.2) fun r30 =>
  (cond (decide (r30 = (0 : Int)))
  (Option.bind (granarylaw02_live N ()) fun r32 =>
  (some r32))
  (some false)))
  (some false))
  (some false)))
  (some false)))
  (some false)))
  (some false)))
  (some false)))
  fun r33 =>
  (some r33))))))))
  none))))))
end Go.Rf.W
