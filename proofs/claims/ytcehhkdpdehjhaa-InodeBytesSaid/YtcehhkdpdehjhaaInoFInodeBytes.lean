/-
  The law's function, printed.
-/
import Derived.Test.YtcehhkdpdehjhaaInoF0
set_option linter.unusedVariables false
set_option maxRecDepth 100000
namespace Go.Rf.W
open Go Go.Rf
def granarylaw12_InodeBytes (N : Nat) (x : Int × Int × Int × Int × Int × Int × Int × Int × Int × Int × Int × Int × Int × (List UInt8) × (List Int)) : Option (Bool) :=
  (Option.bind
  (Option.bind (granarylaw12_long (x.1, x.2.1, x.2.2.1, x.2.2.2.1, x.2.2.2.2.1, x.2.2.2.2.2.1, x.2.2.2.2.2.2.1, x.2.2.2.2.2.2.2.1, x.2.2.2.2.2.2.2.2.1, x.2.2.2.2.2.2.2.2.2.1, x.2.2.2.2.2.2.2.2.2.2.1, x.2.2.2.2.2.2.2.2.2.2.2.1, x.2.2.2.2.2.2.2.2.2.2.2.2.1, x.2.2.2.2.2.2.2.2.2.2.2.2.2.1)) fun r1 =>
  (cond r1
  (some true)
  (some (decide ((2000 : Int) < (((List.length x.2.2.2.2.2.2.2.2.2.2.2.2.2.2) : Nat) : Int))))))
  fun r4 =>
  (cond r4
  (Option.bind (granarylaw12_live N ()) fun r5 =>
  (some r5))
  (Option.bind (inode_Put N (x.1, x.2.1, x.2.2.1, x.2.2.2.1, x.2.2.2.2.1, x.2.2.2.2.2.1, x.2.2.2.2.2.2.1, x.2.2.2.2.2.2.2.1, x.2.2.2.2.2.2.2.2.1, x.2.2.2.2.2.2.2.2.2.1, x.2.2.2.2.2.2.2.2.2.2.1, x.2.2.2.2.2.2.2.2.2.2.2.1, x.2.2.2.2.2.2.2.2.2.2.2.2.1, x.2.2.2.2.2.2.2.2.2.2.2.2.2.1)) fun r6 =>
  (Option.bind (granaryref12_Put N (x.1, x.2.1, x.2.2.1, x.2.2.2.1, x.2.2.2.2.1, x.2.2.2.2.2.1, x.2.2.2.2.2.2.1, x.2.2.2.2.2.2.2.1, x.2.2.2.2.2.2.2.2.1, x.2.2.2.2.2.2.2.2.2.1, x.2.2.2.2.2.2.2.2.2.2.1, x.2.2.2.2.2.2.2.2.2.2.2.1, x.2.2.2.2.2.2.2.2.2.2.2.2.1, x.2.2.2.2.2.2.2.2.2.2.2.2.2.1)) fun r7 =>
  (cond (fits 1 (List.length x.2.2.2.2.2.2.2.2.2.2.2.2.2.2))
  ((Option.bind (inode_Get N x.2.2.2.2.2.2.2.2.2.2.2.2.2.2) fun r9 =>
  (Option.bind (granaryref12_Get N x.2.2.2.2.2.2.2.2.2.2.2.2.2.2) fun r11 =>
  (Option.bind
  (cond (decide ((List.map (fun (n : Int) => UInt8.ofNat n.toNat) r6.2) = (List.map (fun (n : Int) => UInt8.ofNat n.toNat) r7.2)))
  (Option.bind (granarylaw12_num r6.1) fun r16 =>
  (cond (decide (r16 = r7.1))
  (cond ((decide (r9.1 = r11.1)) && ((decide (r9.2.1 = r11.2.1)) && ((decide (r9.2.2.1 = r11.2.2.1)) && ((decide (r9.2.2.2.1 = r11.2.2.2.1)) && ((decide (r9.2.2.2.2.1 = r11.2.2.2.2.1)) && ((decide (r9.2.2.2.2.2.1 = r11.2.2.2.2.2.1)) && ((decide (r9.2.2.2.2.2.2.1 = r11.2.2.2.2.2.2.1)) && ((decide (r9.2.2.2.2.2.2.2.1 = r11.2.2.2.2.2.2.2.1)) && ((decide (r9.2.2.2.2.2.2.2.2.1 = r11.2.2.2.2.2.2.2.2.1)) && ((decide (r9.2.2.2.2.2.2.2.2.2.1 = r11.2.2.2.2.2.2.2.2.2.1)) && ((decide (r9.2.2.2.2.2.2.2.2.2.2.1 = r11.2.2.2.2.2.2.2.2.2.2.1)) && ((decide (r9.2.2.2.2.2.2.2.2.2.2.2.1 = r11.2.2.2.2.2.2.2.2.2.2.2.1)) && ((decide (r9.2.2.2.2.2.2.2.2.2.2.2.2.1 = r11.2.2.2.2.2.2.2.2.2.2.2.2.1)) && ((decide (r9.2.2.2.2.2.2.2.2.2.2.2.2.2.1 = r11.2.2.2.2.2.2.2.2.2.2.2.2.2.1)) && true))))))))))))))
  (Option.bind (granarylaw12_num r9.2.2.2.2.2.2.2.2.2.2.2.2.2.2) fun r19 =>
  (cond (decide (r19 = r11.2.2.2.2.2.2.2.2.2.2.2.2.2.2))
  (Option.bind (inode_Check (x.1, x.2.1, x.2.2.1, x.2.2.2.1, x.2.2.2.2.1, x.2.2.2.2.2.1, x.2.2.2.2.2.2.1, x.2.2.2.2.2.2.2.1, x.2.2.2.2.2.2.2.2.1, x.2.2.2.2.2.2.2.2.2.1, x.2.2.2.2.2.2.2.2.2.2.1, x.2.2.2.2.2.2.2.2.2.2.2.1, x.2.2.2.2.2.2.2.2.2.2.2.2.1, x.2.2.2.2.2.2.2.2.2.2.2.2.2.1)) fun r21 =>
  (Option.bind (granarylaw12_num r21) fun r22 =>
  (Option.bind (granaryref12_Check (x.1, x.2.1, x.2.2.1, x.2.2.2.1, x.2.2.2.2.1, x.2.2.2.2.2.1, x.2.2.2.2.2.2.1, x.2.2.2.2.2.2.2.1, x.2.2.2.2.2.2.2.2.1, x.2.2.2.2.2.2.2.2.2.1, x.2.2.2.2.2.2.2.2.2.2.1, x.2.2.2.2.2.2.2.2.2.2.2.1, x.2.2.2.2.2.2.2.2.2.2.2.2.1, x.2.2.2.2.2.2.2.2.2.2.2.2.2.1)) fun r23 =>
  (cond (decide (r22 = r23))
  (cond (decide ((List.map (fun (n : Int) => UInt8.ofNat n.toNat) x.2.2.2.2.2.2.2.2.2.2.2.2.2.2) = (List.map (fun (n : Int) => UInt8.ofNat n.toNat) x.2.2.2.2.2.2.2.2.2.2.2.2.2.2)))
  (Option.bind (granarylaw12_live N ()) fun r28 =>
  (some r28))
  (some false))
  (some false)))))
  (some false)))
  (some false))
  (some false)))
  (some false))
  fun r29 =>
  (some r29)))))
  none)))))
end Go.Rf.W
