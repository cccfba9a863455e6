/-
  The law's function, printed.
-/
import Derived.Test.YtoabbnfjnjbjfaaRsF0
set_option linter.unusedVariables false
set_option maxRecDepth 100000
namespace Go.Rf.W
open Go Go.Rf
noncomputable def granarylaw03_RsRows (N : Nat) (x : Int × Int × Int) : Option (Bool) :=
  (Option.bind (granarylaw03_both N (x.1, x.2.1)) fun r1 =>
  (match r1 with
  | .inl y2 =>
  (cond (!y2)
  (some false)
  (Option.bind (granarylaw03_live N ()) fun r5 =>
  (some r5)))
  | .inr z3 =>
  (match z3 with
  | .inl y6 =>
  (some false)
  | .inr z7 =>
  (match z7 with
  | .inl y8 =>
  (some false)
  | .inr z9 =>
  (cond (!z9.1)
  (some false)
  (Option.bind
  (Option.bind (rs_Code_Data_v1 (z9.2.1, z9.2.2.1, z9.2.2.2.2.2)) fun r11 =>
  (cond (decide (r11.1 = x.1))
  (Option.bind (rs_Code_Parity_v1 (r11.2.1, r11.2.2.1, r11.2.2.2)) fun r13 =>
  (cond (decide (r13.1 = x.2.1))
  (Option.bind (rs_Code_Row (x.2.2, r13.2.1, r13.2.2.1, r13.2.2.2)) fun r15 =>
  (Option.bind (granaryref03_Code_Row N (x.2.2, z9.2.2.2.1, z9.2.2.2.2.1)) fun r17 =>
  (cond (decide ((List.map (fun (n : Int) => UInt8.ofNat n.toNat) r15.2.2.2) = (List.map (fun (n : Int) => UInt8.ofNat n.toNat) r17.2.2)))
  (Option.bind (granarylaw03_live N ()) fun r20 =>
  (some (r20, r15.1, r15.2.1, r17.1, r17.2.1, r15.2.2.1)))
  (some (false, r15.1, r15.2.1, r17.1, r17.2.1, r15.2.2.1)))))
  (some (false, r13.2.1, r13.2.2.1, z9.2.2.2.1, z9.2.2.2.2.1, r13.2.2.2))))
  (some (false, r11.2.1, r11.2.2.1, z9.2.2.2.1, z9.2.2.2.2.1, r11.2.2.2))))
  fun r21 =>
  (some r21.1)))))))
end Go.Rf.W
