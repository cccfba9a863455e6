/-
  The law's function, printed.
-/
import Derived.Test.YtlkaggfhkfnhbaaGreatDoorNfsF1
set_option linter.unusedVariables false
set_option maxRecDepth 100000
namespace Go.Rf.W
open Go Go.Rf
noncomputable section
abbrev Ty119 : Type := Int × Int → Option (Int × Nat)
def granarylaw22_NfsStatus_a (N : Nat) (f0 : Unit → Option (Bool)) (f1 : Int → Option (Int)) (f2 : Int → Option (Int)) (f3 : Ty119) (f4 : Unit → Option (Int)) (f5 : Int × Nat → Option (Int)) (f6 : Int × Nat → Option (Int)) (x : Int × Int) : Option (Bool) :=
  (Option.bind
  (cond (decide (x.2 < (0 : Int)))
  (some true)
  (some (decide ((20 : Int) < x.2))))
  fun b =>
  (cond b
  (Option.bind (f0 ()) fun c =>
  (some c))
  (Option.bind
  (Option.bind (f1 x.1) fun d =>
  (Option.bind (f2 x.1) fun e =>
  (cond (decide (d = e))
  (Option.bind (f3 (x.1, x.2)) fun a =>
  (Option.bind (f5 (a.1, a.2)) fun f =>
  (Option.bind (f2 x.1) fun g =>
  (cond (decide (f = g))
  (Option.bind (f4 ()) fun h =>
  (cond (decide (h = (0 : Int)))
  (Option.bind (f6 ((0 : Int), 0)) fun i =>
  (cond (decide (i = (10006 : Int)))
  (Option.bind (f6 ((0 : Int), 1)) fun j =>
  (cond (decide (j = (10006 : Int)))
  (Option.bind (f0 ()) fun k =>
  (some k))
  (some false)))
  (some false)))
  (some false)))
  (some false)))))
  (some false))))
  fun l =>
  (some l))))
def granarylaw22_NfsStatus (N : Nat) (x : Int × Int) : Option (Bool) := granarylaw22_NfsStatus_a N (granarylaw22_live N) nfs_Status granaryref22_Status (granarylaw22_wrapped N) (nfs_StatusOf_v1 N) (nfs_StatusOf N) (nfs_StatusOf_v2 N) x
end
end Go.Rf.W
