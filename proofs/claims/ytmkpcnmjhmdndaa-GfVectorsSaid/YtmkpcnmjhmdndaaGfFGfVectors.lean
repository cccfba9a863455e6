/-
  The law's function, printed.
-/
import Derived.Test.YtmkpcnmjhmdndaaGfF0
set_option linter.unusedVariables false
set_option maxRecDepth 100000
namespace Go.Rf.W
open Go Go.Rf
noncomputable def granarylaw02_GfVectors (N : Nat) (x : Int × (List Int) × (List Int)) : Option (Bool) :=
  (Option.bind
  (cond (decide ((200 : Int) < (((List.length x.2.1) : Nat) : Int)))
  (some true)
  (some (decide ((200 : Int) < (((List.length x.2.2) : Nat) : Int)))))
  fun r5 =>
  (cond r5
  (Option.bind (granarylaw02_live N ()) fun r6 =>
  (some r6))
  (cond (fits 1 (List.length x.2.1))
  ((cond (fits 1 (List.length x.2.2))
  ((Option.bind (gf_Sum N (x.2.1, x.2.2)) fun r9 =>
  (Option.bind (granaryref02_Sum N (x.2.1, x.2.2)) fun r10 =>
  (Option.bind (gf_Through N (x.2.1, x.2.2)) fun r11 =>
  (Option.bind (granaryref02_Through N (x.2.1, x.2.2)) fun r12 =>
  (Option.bind
  (Option.bind (gf_Scale N (x.1, x.2.1)) fun r13 =>
  (Option.bind (granaryref02_Scale N (x.1, x.2.1)) fun r15 =>
  (cond (decide ((List.map (fun (n : Int) => UInt8.ofNat n.toNat) r13) = (List.map (fun (n : Int) => UInt8.ofNat n.toNat) r15)))
  (cond (decide ((List.map (fun (n : Int) => UInt8.ofNat n.toNat) r9.2) = (List.map (fun (n : Int) => UInt8.ofNat n.toNat) r10.2)))
  (Option.bind (granarylaw02_num r9.1) fun r21 =>
  (cond (decide (r21 = r10.1))
  (cond (decide ((List.map (fun (n : Int) => UInt8.ofNat n.toNat) r11.2) = (List.map (fun (n : Int) => UInt8.ofNat n.toNat) r12.2)))
  (Option.bind (granarylaw02_num r11.1) fun r26 =>
  (cond (decide (r26 = r12.1))
  (Option.bind (gf_Eval N (x.2.1, x.1)) fun r28 =>
  (Option.bind (granaryref02_Eval N (x.2.1, x.1)) fun r29 =>
  (cond (decide (r28 = r29))
  (cond (decide ((List.map (fun (n : Int) => UInt8.ofNat n.toNat) x.2.1) = (List.map (fun (n : Int) => UInt8.ofNat n.toNat) x.2.1)))
  (cond (decide ((List.map (fun (n : Int) => UInt8.ofNat n.toNat) x.2.2) = (List.map (fun (n : Int) => UInt8.ofNat n.toNat) x.2.2)))
  (Option.bind (granarylaw02_live N ()) fun r37 =>
  (some r37))
  (some false))
  (some false))
  (some false))))
  (some false)))
  (some false))
  (some false)))
  (some false))
  (some false))))
  fun r38 =>
  (some r38)))))))
  none))
  none)))
end Go.Rf.W
