/-
  The law's function, printed.
-/
import Derived.Test.YtoabbnfjnjbjfaaRsF0
set_option linter.unusedVariables false
set_option maxRecDepth 100000
namespace Go.Rf.W
open Go Go.Rf
noncomputable def granarylaw03_RsSplits (N : Nat) (x : Int × Int × (List Int) × (List (List Int)) × Int) : Option (Bool) :=
  (Option.bind (granarylaw03_both N (x.1, x.2.1)) fun r1 =>
  (match r1 with
  | .inl y2 =>
  (cond (!y2)
  (cond y2
  (Option.bind (granarylaw03_live N ()) fun r5 =>
  (some r5))
  (some false))
  (Option.bind (granarylaw03_huge N x.2.2.2.1) fun r6 =>
  (cond r6
  (cond y2
  (Option.bind (granarylaw03_live N ()) fun r7 =>
  (some r7))
  (some false))
  (cond (decide ((69632 : Int) < (((List.length x.2.2.1) : Nat) : Int)))
  (cond y2
  (Option.bind (granarylaw03_live N ()) fun r10 =>
  (some r10))
  (some false))
  (cond y2
  (Option.bind (granarylaw03_live N ()) fun r11 =>
  (some r11))
  (some false))))))
  | .inr z3 =>
  (match z3 with
  | .inl y12 =>
  (some false)
  | .inr z13 =>
  (match z13 with
  | .inl y14 =>
  (some false)
  | .inr z15 =>
  (cond (!z15.1)
  (cond z15.1
  (Option.bind (granarylaw03_live N ()) fun r17 =>
  (some r17))
  (some false))
  (Option.bind (granarylaw03_huge N x.2.2.2.1) fun r18 =>
  (cond r18
  (cond z15.1
  (Option.bind (granarylaw03_live N ()) fun r19 =>
  (some r19))
  (some false))
  (cond (decide ((69632 : Int) < (((List.length x.2.2.1) : Nat) : Int)))
  (cond z15.1
  (Option.bind (granarylaw03_live N ()) fun r22 =>
  (some r22))
  (some false))
  (cond (fits 1 (List.length x.2.2.1))
  ((Option.bind (rs_Code_Split_v1 N (x.2.2.1, z15.2.1, z15.2.2.1, z15.2.2.2.2.2)) fun r24 =>
  (Option.bind (granaryref03_Code_Split N (x.2.2.1, z15.2.2.2.1, z15.2.2.2.2.1)) fun r25 =>
  (Option.bind
  (Option.bind (granaryref03_Same N (r24.2.2.2.2, r25.2.2.2)) fun r26 =>
  (cond (!r26)
  (some true)
  (Option.bind (granarylaw03_num r24.1) fun r28 =>
  (some (!(decide (r28 = r25.1)))))))
  fun r30 =>
  (cond r30
  (some false)
  (Option.bind
  ((cond (decide (r25.1 = (0 : Int)))
  (Option.bind (rs_Code_Join_v1 N (r24.2.2.2.2, (((List.length x.2.2.1) : Nat) : Int), r24.2.1, r24.2.2.1, r24.2.2.2.1)) fun r33 =>
  (Option.bind
  (Option.bind (granarylaw03_num r33.2.2.1) fun r34 =>
  (cond (!(decide (r34 = (0 : Int))))
  (some true)
  (cond (decide ((r33.1 + r33.2.1) ≤ (List.length r33.2.2.2.2.2.2)))
  ((some (!(decide ((List.map (fun (n : Int) => UInt8.ofNat n.toNat) (List.take r33.2.1 (List.drop r33.1 r33.2.2.2.2.2.2))) = (List.map (fun (n : Int) => UInt8.ofNat n.toNat) x.2.2.1))))))
  none)))
  fun r39 =>
  (cond r39
  (some (.inr ((r33.2.2.2.1, r33.2.2.2.2.1, r33.2.2.2.2.2.1))))
  (some (.inl (r33.2.2.2.1, r33.2.2.2.2.1, r33.2.2.2.2.2.1))))))
  (some (.inl (r24.2.1, r24.2.2.1, r24.2.2.2.1)))) : Option ((Int × Int × (List Int)) ⊕ (Int × Int × (List Int))))
  fun r40 =>
  (match r40 with
  | .inl y41 =>
  (Option.bind (granarylaw03_lent N x.2.2.2.1) fun r43 =>
  (Option.bind (rs_Code_Join_v1 N (r43, x.2.2.2.2, y41.1, y41.2.1, y41.2.2)) fun r44 =>
  (Option.bind (granaryref03_Code_Join N (x.2.2.2.1, x.2.2.2.2, r25.2.1, r25.2.2.1)) fun r45 =>
  (Option.bind (granarylaw03_spoil N r24.2.2.2.2) fun r46 =>
  (Option.bind
  (cond (decide ((r44.1 + r44.2.1) ≤ (List.length r44.2.2.2.2.2.2)))
  ((cond (decide ((r45.1 + r45.2.1) ≤ (List.length r45.2.2.2.2.2)))
  ((cond (decide ((List.map (fun (n : Int) => UInt8.ofNat n.toNat) (List.take r44.2.1 (List.drop r44.1 r44.2.2.2.2.2.2))) = (List.map (fun (n : Int) => UInt8.ofNat n.toNat) (List.take r45.2.1 (List.drop r45.1 r45.2.2.2.2.2)))))
  (Option.bind (granarylaw03_num r44.2.2.1) fun r50 =>
  (cond (decide (r50 = r45.2.2.1))
  (cond (decide ((List.map (fun (n : Int) => UInt8.ofNat n.toNat) x.2.2.1) = (List.map (fun (n : Int) => UInt8.ofNat n.toNat) x.2.2.1)))
  (Option.bind (granarylaw03_live N ()) fun r55 =>
  (some r55))
  (some false))
  (some false)))
  (some false)))
  none))
  none)
  fun r56 =>
  (some r56))))))
  | .inr z42 =>
  (some false))))))))
  none)))))))))
end Go.Rf.W
