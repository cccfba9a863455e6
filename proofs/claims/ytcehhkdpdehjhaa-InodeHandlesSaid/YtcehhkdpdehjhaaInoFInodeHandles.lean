/-
  The law's function, printed.
-/
import Derived.Test.YtcehhkdpdehjhaaInoF0
set_option linter.unusedVariables false
set_option maxRecDepth 100000
namespace Go.Rf.W
open Go Go.Rf
def granarylaw12_InodeHandles (N : Nat) (x : Int × Int × Int × (List Int)) : Option (Bool) :=
  (cond (decide ((2000 : Int) < (((List.length x.2.2.2) : Nat) : Int)))
  (Option.bind (granarylaw12_live N ()) fun r3 =>
  (some r3))
  (Option.bind (inode_PutHandle N (x.1, x.2.1, x.2.2.1)) fun r4 =>
  (Option.bind (granaryref12_PutHandle (x.1, x.2.1, x.2.2.1)) fun r5 =>
  (cond (fits 1 (List.length x.2.2.2))
  ((Option.bind (inode_GetHandle N x.2.2.2) fun r7 =>
  (Option.bind (granaryref12_GetHandle N x.2.2.2) fun r8 =>
  (Option.bind
  (cond (decide ((List.map (fun (n : Int) => UInt8.ofNat n.toNat) r4.2) = (List.map (fun (n : Int) => UInt8.ofNat n.toNat) r5.2)))
  (Option.bind (granarylaw12_num r4.1) fun r12 =>
  (cond (decide (r12 = r5.1))
  (cond ((decide (r7.1 = r8.1)) && ((decide (r7.2.1 = r8.2.1)) && ((decide (r7.2.2.1 = r8.2.2.1)) && true)))
  (Option.bind (granarylaw12_num r7.2.2.2) fun r15 =>
  (cond (decide (r15 = r8.2.2.2))
  (cond (decide ((List.map (fun (n : Int) => UInt8.ofNat n.toNat) x.2.2.2) = (List.map (fun (n : Int) => UInt8.ofNat n.toNat) x.2.2.2)))
  (Option.bind (granarylaw12_live N ()) fun r20 =>
  (some r20))
  (some false))
  (some false)))
  (some false))
  (some false)))
  (some false))
  fun r21 =>
  (some r21)))))
  none))))
end Go.Rf.W
