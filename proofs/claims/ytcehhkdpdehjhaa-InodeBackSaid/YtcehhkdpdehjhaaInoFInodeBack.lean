/-
  The law's function, printed.
-/
import Derived.Test.YtcehhkdpdehjhaaInoF0
set_option linter.unusedVariables false
set_option maxRecDepth 100000
namespace Go.Rf.W
open Go Go.Rf
def granarylaw12_InodeBack (N : Nat) (x : Int × Int × Int × Int × Int × Int × Int × Int × Int × Int × Int × Int × Int × (List UInt8) × Int × Int × Int × (List Int)) : Option (Bool) :=
  (Option.bind
  (Option.bind (granarylaw12_long (x.1, x.2.1, x.2.2.1, x.2.2.2.1, x.2.2.2.2.1, x.2.2.2.2.2.1, x.2.2.2.2.2.2.1, x.2.2.2.2.2.2.2.1, x.2.2.2.2.2.2.2.2.1, x.2.2.2.2.2.2.2.2.2.1, x.2.2.2.2.2.2.2.2.2.2.1, x.2.2.2.2.2.2.2.2.2.2.2.1, x.2.2.2.2.2.2.2.2.2.2.2.2.1, x.2.2.2.2.2.2.2.2.2.2.2.2.2.1)) fun r1 =>
  (cond r1
  (some true)
  (some (decide ((2000 : Int) < (((List.length x.2.2.2.2.2.2.2.2.2.2.2.2.2.2.2.2.2) : Nat) : Int))))))
  fun r4 =>
  (cond r4
  (Option.bind (granarylaw12_live N ()) fun r5 =>
  (some r5))
  (Option.bind (inode_Put N (x.1, x.2.1, x.2.2.1, x.2.2.2.1, x.2.2.2.2.1, x.2.2.2.2.2.1, x.2.2.2.2.2.2.1, x.2.2.2.2.2.2.2.1, x.2.2.2.2.2.2.2.2.1, x.2.2.2.2.2.2.2.2.2.1, x.2.2.2.2.2.2.2.2.2.2.1, x.2.2.2.2.2.2.2.2.2.2.2.1, x.2.2.2.2.2.2.2.2.2.2.2.2.1, x.2.2.2.2.2.2.2.2.2.2.2.2.2.1)) fun r6 =>
  (Option.bind (granarylaw12_num r6.1) fun r7 =>
  (Option.bind
  ((cond (decide (r7 = (0 : Int)))
  (Option.bind (inode_Get N r6.2) fun r9 =>
  (Option.bind
  (Option.bind (granarylaw12_num r9.2.2.2.2.2.2.2.2.2.2.2.2.2.2) fun r11 =>
  (cond (!(decide (r11 = (0 : Int))))
  (some true)
  (cond (!((decide (r9.1 = x.1)) && ((decide (r9.2.1 = x.2.1)) && ((decide (r9.2.2.1 = x.2.2.1)) && ((decide (r9.2.2.2.1 = x.2.2.2.1)) && ((decide (r9.2.2.2.2.1 = x.2.2.2.2.1)) && ((decide (r9.2.2.2.2.2.1 = x.2.2.2.2.2.1)) && ((decide (r9.2.2.2.2.2.2.1 = x.2.2.2.2.2.2.1)) && ((decide (r9.2.2.2.2.2.2.2.1 = x.2.2.2.2.2.2.2.1)) && ((decide (r9.2.2.2.2.2.2.2.2.1 = x.2.2.2.2.2.2.2.2.1)) && ((decide (r9.2.2.2.2.2.2.2.2.2.1 = x.2.2.2.2.2.2.2.2.2.1)) && ((decide (r9.2.2.2.2.2.2.2.2.2.2.1 = x.2.2.2.2.2.2.2.2.2.2.1)) && ((decide (r9.2.2.2.2.2.2.2.2.2.2.2.1 = x.2.2.2.2.2.2.2.2.2.2.2.1)) && ((decide (r9.2.2.2.2.2.2.2.2.2.2.2.2.1 = x.2.2.2.2.2.2.2.2.2.2.2.2.1)) && ((decide (r9.2.2.2.2.2.2.2.2.2.2.2.2.2.1 = x.2.2.2.2.2.2.2.2.2.2.2.2.2.1)) && true)))))))))))))))
  (some true)
  (some (!(decide ((Int.tmod (((List.length r6.2) : Nat) : Int) (4 : Int)) = (0 : Int))))))))
  fun r17 =>
  (cond r17
  (some (.inr (())))
  (some (.inl ())))))
  (some (.inl ()))) : Option ((Unit) ⊕ (Unit)))
  fun r18 =>
  (match r18 with
  | .inl y19 =>
  (cond (fits 1 (List.length x.2.2.2.2.2.2.2.2.2.2.2.2.2.2.2.2.2))
  ((Option.bind (inode_Get N x.2.2.2.2.2.2.2.2.2.2.2.2.2.2.2.2.2) fun r22 =>
  (Option.bind (granarylaw12_num r22.2.2.2.2.2.2.2.2.2.2.2.2.2.2) fun r24 =>
  (Option.bind
  ((cond (decide (r24 = (0 : Int)))
  (Option.bind (inode_Put N (r22.1, r22.2.1, r22.2.2.1, r22.2.2.2.1, r22.2.2.2.2.1, r22.2.2.2.2.2.1, r22.2.2.2.2.2.2.1, r22.2.2.2.2.2.2.2.1, r22.2.2.2.2.2.2.2.2.1, r22.2.2.2.2.2.2.2.2.2.1, r22.2.2.2.2.2.2.2.2.2.2.1, r22.2.2.2.2.2.2.2.2.2.2.2.1, r22.2.2.2.2.2.2.2.2.2.2.2.2.1, r22.2.2.2.2.2.2.2.2.2.2.2.2.2.1)) fun r26 =>
  (Option.bind
  (Option.bind (granarylaw12_num r26.1) fun r27 =>
  (cond (!(decide (r27 = (0 : Int))))
  (some true)
  (some (!(decide ((List.map (fun (n : Int) => UInt8.ofNat n.toNat) r26.2) = (List.map (fun (n : Int) => UInt8.ofNat n.toNat) x.2.2.2.2.2.2.2.2.2.2.2.2.2.2.2.2.2)))))))
  fun r32 =>
  (cond r32
  (some (.inr (())))
  (some (.inl ())))))
  (some (.inl ()))) : Option ((Unit) ⊕ (Unit)))
  fun r33 =>
  (match r33 with
  | .inl y34 =>
  (Option.bind (inode_PutHandle N (x.2.2.2.2.2.2.2.2.2.2.2.2.2.2.1, x.2.2.2.2.2.2.2.2.2.2.2.2.2.2.2.1, x.2.2.2.2.2.2.2.2.2.2.2.2.2.2.2.2.1)) fun r36 =>
  (Option.bind (granarylaw12_num r36.1) fun r37 =>
  (Option.bind
  ((cond (decide (r37 = (0 : Int)))
  (Option.bind (inode_GetHandle N r36.2) fun r39 =>
  (Option.bind
  (Option.bind (granarylaw12_num r39.2.2.2) fun r40 =>
  (cond (!(decide (r40 = (0 : Int))))
  (some true)
  (some (!((decide (r39.1 = x.2.2.2.2.2.2.2.2.2.2.2.2.2.2.1)) && ((decide (r39.2.1 = x.2.2.2.2.2.2.2.2.2.2.2.2.2.2.2.1)) && ((decide (r39.2.2.1 = x.2.2.2.2.2.2.2.2.2.2.2.2.2.2.2.2.1)) && true)))))))
  fun r43 =>
  (cond r43
  (some (.inr (())))
  (some (.inl ())))))
  (some (.inl ()))) : Option ((Unit) ⊕ (Unit)))
  fun r44 =>
  (match r44 with
  | .inl y45 =>
  (cond (fits 1 (List.length x.2.2.2.2.2.2.2.2.2.2.2.2.2.2.2.2.2))
  ((Option.bind (inode_GetHandle N x.2.2.2.2.2.2.2.2.2.2.2.2.2.2.2.2.2) fun r48 =>
  (Option.bind (granarylaw12_num r48.2.2.2) fun r49 =>
  (Option.bind
  ((cond (decide (r49 = (0 : Int)))
  (Option.bind (inode_PutHandle N (r48.1, r48.2.1, r48.2.2.1)) fun r51 =>
  (Option.bind
  (Option.bind (granarylaw12_num r51.1) fun r52 =>
  (cond (!(decide (r52 = (0 : Int))))
  (some true)
  (some (!(decide ((List.map (fun (n : Int) => UInt8.ofNat n.toNat) r51.2) = (List.map (fun (n : Int) => UInt8.ofNat n.toNat) x.2.2.2.2.2.2.2.2.2.2.2.2.2.2.2.2.2)))))))
  fun r57 =>
  (cond r57
  (some (.inr (())))
  (some (.inl ())))))
  (some (.inl ()))) : Option ((Unit) ⊕ (Unit)))
  fun r58 =>
  (match r58 with
  | .inl y59 =>
  (Option.bind (granarylaw12_live N ()) fun r61 =>
  (some r61))
  | .inr z60 =>
  (some false))))))
  none)
  | .inr z46 =>
  (some false)))))
  | .inr z35 =>
  (some false))))))
  none)
  | .inr z20 =>
  (some false)))))))
end Go.Rf.W
