/-
  The law's function, printed.
-/
import Derived.Test.YtokfelhleojnjaaShaF0
set_option linter.unusedVariables false
set_option maxRecDepth 100000
namespace Go.Rf.W
open Go Go.Rf
noncomputable def granarylaw05_ShaSums (N : Nat) (x : (List Int) × Int) : Option (Bool) :=
  (cond (decide ((9000 : Int) < (((List.length x.1) : Nat) : Int)))
  (Option.bind (granarylaw05_live N ()) fun r3 =>
  (some r3))
  (cond (fits 1 (List.length x.1))
  ((Option.bind
  (Option.bind (sha_Sum N x.1) fun r5 =>
  (Option.bind (granaryref05_Sum N x.1) fun r6 =>
  (cond (decide (r5 = r6))
  (Option.bind (sha_Crc N x.1) fun r8 =>
  (Option.bind (granaryref05_Crc N x.1) fun r9 =>
  (cond (decide (r8 = r9))
  (Option.bind (sha_More_v1 N (x.2, x.1)) fun r11 =>
  (Option.bind (granaryref05_More N (x.2, x.1)) fun r12 =>
  (cond (decide (r11 = r12))
  (cond (decide ((List.map (fun (n : Int) => UInt8.ofNat n.toNat) x.1) = (List.map (fun (n : Int) => UInt8.ofNat n.toNat) x.1)))
  (Option.bind (granarylaw05_live N ()) fun r17 =>
  (some r17))
  (some false))
  (some false))))
  (some false))))
  (some false))))
  fun r18 =>
  (some r18)))
  none))
end Go.Rf.W
