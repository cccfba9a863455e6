/-
  The law's function, printed.
-/
import Derived.Test.YtokfelhleojnjaaShaF0
set_option linter.unusedVariables false
set_option maxRecDepth 100000
namespace Go.Rf.W
open Go Go.Rf
noncomputable def granarylaw05_ShaHex (N : Nat) (x : (List Int) × (List UInt8)) : Option (Bool) :=
  (cond (decide ((9000 : Int) < (((List.length x.2) : Nat) : Int)))
  (Option.bind (granarylaw05_live N ()) fun r3 =>
  (some r3))
  (Option.bind (sha_Parse N x.2) fun r4 =>
  (Option.bind (granaryref05_Parse N x.2) fun r6 =>
  (Option.bind (sha_Hex N x.1) fun r8 =>
  (Option.bind (sha_Parse N r8) fun r9 =>
  (Option.bind
  (Option.bind (sha_Hex N x.1) fun r11 =>
  (Option.bind (granaryref05_Hex N x.1) fun r12 =>
  (cond (decide (r11 = r12))
  (cond (decide (r4.1 = r6.1))
  (Option.bind (granarylaw05_num r4.2.1) fun r15 =>
  (cond (decide (r15 = r6.2.1))
  (cond (decide (r4.2.2 = r6.2.2))
  (Option.bind (granarylaw05_num r9.2.1) fun r18 =>
  (cond (decide (r18 = (0 : Int)))
  (cond (decide (r9.1 = x.1))
  (Option.bind (granarylaw05_live N ()) fun r21 =>
  (some r21))
  (some false))
  (some false)))
  (some false))
  (some false)))
  (some false))
  (some false))))
  fun r22 =>
  (some r22)))))))
end Go.Rf.W
