/-
  The law's function, printed.
-/
import Derived.Test.YtngehbaakpkoiaaRpcF0
set_option linter.unusedVariables false
set_option maxRecDepth 100000
namespace Go.Rf.W
open Go Go.Rf
noncomputable def granarylaw21_RpcFrames (N : Nat) (x : (List Int) × (List Int)) : Option (Bool) :=
  (Option.bind
  (cond (decide ((20000 : Int) < (((List.length x.1) : Nat) : Int)))
  (some true)
  (some (decide ((60 : Int) < (((List.length x.2) : Nat) : Int)))))
  fun r5 =>
  (cond r5
  (Option.bind (granarylaw21_live N ()) fun r6 =>
  (some r6))
  (cond (fits 1 (List.length x.1))
  ((Option.bind
  (cond (fits 8 (List.length x.2))
  ((Option.bind (rpc_Frame N (x.1, x.2)) fun r9 =>
  (Option.bind (granaryref21_Frame N (x.1, x.2)) fun r11 =>
  (cond (decide ((List.map (fun (n : Int) => UInt8.ofNat n.toNat) r9) = (List.map (fun (n : Int) => UInt8.ofNat n.toNat) r11)))
  (cond (decide ((List.map (fun (n : Int) => UInt8.ofNat n.toNat) x.1) = (List.map (fun (n : Int) => UInt8.ofNat n.toNat) x.1)))
  (Option.bind (granarylaw21_live N ()) fun r17 =>
  (some r17))
  (some false))
  (some false)))))
  none)
  fun r18 =>
  (some r18)))
  none)))
end Go.Rf.W
