/-
  The law's function, printed.
-/
import Derived.Test.YtokfelhleojnjaaShaF0
set_option linter.unusedVariables false
set_option maxRecDepth 100000
namespace Go.Rf.W
open Go Go.Rf
noncomputable def granarylaw05_ShaBursts_b0 (N : Nat) (next : (List Int) × Int × Int × Bool × Int × (List Int) → Option ((Bool × (List Int)))) (x : (List Int) × Int × Int × Bool × Int × (List Int)) : Option ((Bool × (List Int))) :=
  (cond (decide (x.2.2.2.2.1 < (32 : Int)))
  (Option.bind
  (let v2 : Int := (wrapF .u64 x.2.2.2.2.1)
  (cond (decide ((0 : Int) ≤ v2))
  ((cond (decide ((andF .u32 (shrF .u32 x.2.2.1 v2) (1 : Int)) = (1 : Int)))
  (some (decide ((wrapF .i64 (x.2.1 + x.2.2.2.2.1)) < (wrapF .i64 ((8 : Int) * (((List.length x.1) : Nat) : Int))))))
  (some false)))
  none))
  fun r10 =>
  (Option.bind
  (cond r10
  (let v12 : Int := (wrapF .i64 (Int.tdiv (wrapF .i64 (x.2.1 + x.2.2.2.2.1)) (8 : Int)))
  (let v14 : Int := (wrapF .i64 (Int.tdiv (wrapF .i64 (x.2.1 + x.2.2.2.2.1)) (8 : Int)))
  (cond ((decide ((0 : Int) ≤ v14)) && (decide (v14 < (((List.length x.2.2.2.2.2) : Nat) : Int))))
  ((let v15 : Nat := (Int.toNat v14)
  (cond (decide (v15 < (List.length x.2.2.2.2.2)))
  ((let v19 : Int := (wrapF .u64 (Int.tmod (wrapF .i64 (x.2.1 + x.2.2.2.2.1)) (8 : Int)))
  (cond (decide ((0 : Int) ≤ v19))
  ((cond ((decide ((0 : Int) ≤ v12)) && (decide (v12 < (((List.length x.2.2.2.2.2) : Nat) : Int))))
  ((let v22 : Nat := (Int.toNat v12)
  (cond (decide (v22 < (List.length x.2.2.2.2.2)))
  ((some (true, (List.set x.2.2.2.2.2 v22 (xorF .u8 (List.getD x.2.2.2.2.2 v15 (EK.dflt (.int .u8))) (shlF .u8 (1 : Int) v19))))))
  none)))
  none))
  none)))
  none)))
  none)))
  (some (x.2.2.2.1, x.2.2.2.2.2)))
  fun r24 =>
  (next (x.1, x.2.1, x.2.2.1, r24.1, (wrapF .i64 (x.2.2.2.2.1 + (1 : Int))), r24.2))))
  (some (x.2.2.2.1, x.2.2.2.2.2)))
noncomputable def granarylaw05_ShaBursts_l0 (N : Nat) : (List Int) × Int × Int × Bool × Int × (List Int) → Option ((Bool × (List Int))) := loopF (granarylaw05_ShaBursts_b0 N) N
noncomputable def granarylaw05_ShaBursts (N : Nat) (x : (List Int) × Int × Int) : Option (Bool) :=
  (Option.bind
  (cond (decide ((9000 : Int) < (((List.length x.1) : Nat) : Int)))
  (some true)
  (cond (decide ((((List.length x.1) : Nat) : Int) = (0 : Int)))
  (some true)
  (cond (decide (x.2.1 < (0 : Int)))
  (some true)
  (some (decide ((wrapF .i64 ((8 : Int) * (((List.length x.1) : Nat) : Int))) ≤ x.2.1))))))
  fun r9 =>
  (cond r9
  (Option.bind (granarylaw05_live N ()) fun r10 =>
  (some r10))
  (cond (fits 1 (List.length x.1))
  ((Option.bind (granarylaw05_ShaBursts_l0 N (x.1, x.2.1, x.2.2, false, (0 : Int), x.1)) fun r12 =>
  (Option.bind
  (Option.bind (sha_Crc N r12.2) fun r13 =>
  (Option.bind (sha_Crc_v1 N x.1) fun r14 =>
  (cond ((!(decide (r13 = r14))) == r12.1)
  (Option.bind (granarylaw05_live N ()) fun r17 =>
  (some r17))
  (some false))))
  fun r18 =>
  (some r18))))
  none)))
end Go.Rf.W
