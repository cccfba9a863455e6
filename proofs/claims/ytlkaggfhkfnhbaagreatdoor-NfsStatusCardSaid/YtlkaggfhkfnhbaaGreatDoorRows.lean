/-
  NARROWER THAN 'FOR EVERY INPUT', by the rows' own cells (each row's printed sentence says how): NfsArgs: laid · NfsStatus: laid · NfsResults: laid · NfsBack: laid · NfsWhole: laid · NfsMounts: laid.
  DERIVED. THE GIVEN ROWS OF THIS SEAT. 6 by the template 'for every input the law returns true; each argument reads behind the call as it read before'; 0 by the template 'total and deterministic' (their statements: YtlkaggfhkfnhbaaGreatDoorTotals.lean).
  GIVEN WITH THE SEED: the statements are not yours to turn. If you find one false, say at which input.
  Laid BY PROGRAM, IN A SANDBOX (cutbox-rows.mjs): the forced cells as the released guide's own fill.sh prints them over the translation 9418c5b45055f181… (all of the seat's roots in one cut). By AI agents, Wed Nov 11 2026. No macro, syntax, notation, axiom, sorry.
-/
import Derived.Test.YtlkaggfhkfnhbaaGreatDoorChecked
import GoSem.Claim
import GoSem.ClaimJoined
import GoSem.ClaimMapViews
import Derived.JoinedTies
import Derived.KernelRfl
namespace Go.Proofs.YtlkaggfhkfnhbaaGreatDoor
/- THE CELL 'sum', in the pinned program and in every row, IS THE sha256 OF THE DUMP (.gsa) THAT YtlkaggfhkfnhbaaGreatDoorProg.lean LOADS. Nothing in Lean hashes anything: it is a label: what it is worth is what the hold of that sum in a sandbox is worth. -/
noncomputable def Tryz.pinned : Pinned := { name := "ytlkaggfhkfnhbaagreatdoor", sum := "9418c5b45055f1817309d53ca6d6fd891156d0ea7e63ecada07a2104cd3c2980", checked := Tryz.checked }
namespace Rows
def none {H : Type} : Left H := { results := [], args := [] }

/- WHAT THE LISTED PACKAGE-LEVEL VARIABLES READ AS WHEN THE CALL BEGINS. Each datum BY PROGRAM (the guide's laid-datum.mjs) off the statement by which the dump's own 'gosem.cut.vars' lays the variable. In a bare row this is a premise. The card (YtlkaggfhkfnhbaaGreatDoorCards.lean) ties it to the program's text. -/
def laid_errors_errorType {H : Type} : DataW H := .iface "internal/reflectlite.rtype" (.agg [.ptr (.lit (.string [101, 114, 114, 111, 114]))])

/-- 'granarylaw22.NfsArgs': WHATEVER THE INPUT: true; the input reads as it did. -/
def nfsArgsSpec : ChangeSpec := { name := "nfsArgs", fn := fun _ => fun
  | [d1, d2, d3] => { results := [.lit (.bool true)], args := [d1, d2, d3] }
  | _ => none }
def nfsArgsRow : OpenClaim := { program := "ytlkaggfhkfnhbaagreatdoor", sum := "9418c5b45055f1817309d53ca6d6fd891156d0ea7e63ecada07a2104cd3c2980", func := "granary/granarylaw22.NfsArgs", spec := "nfsArgs", inPlace := ["internal/reflectlite.ValueOf", "(internal/reflectlite.Value).Type", "(internal/reflectlite.Value).IsNil", "internal/reflectlite.TypeOf", "(internal/reflectlite.Value).Elem", "(internal/reflectlite.Value).Set"], unfollowed := true, recurses := true, named := ["errors.errorType"], apart := false, laid := [("errors.errorType", laid_errors_errorType)] }
def NfsArgsSaid : Prop := nfsArgsRow.holds Tryz.pinned (OpenSpec.ofChange nfsArgsSpec)

/-- ITS FALSE NEIGHBOUR: 'it returns false'. Refute it at one input. -/
def nfsArgsWrong : ChangeSpec := { name := "nfsArgs", fn := fun _ => fun
  | [d1, d2, d3] => { results := [.lit (.bool false)], args := [d1, d2, d3] }
  | _ => none }
def NfsArgsWrongFalsely : Prop := nfsArgsRow.holds Tryz.pinned (OpenSpec.ofChange nfsArgsWrong)

/-- 'granarylaw22.NfsStatus': WHATEVER THE INPUT: true; the input reads as it did. -/
def nfsStatusSpec : ChangeSpec := { name := "nfsStatus", fn := fun _ => fun
  | [d1, d2] => { results := [.lit (.bool true)], args := [d1, d2] }
  | _ => none }
def nfsStatusRow : OpenClaim := { program := "ytlkaggfhkfnhbaagreatdoor", sum := "9418c5b45055f1817309d53ca6d6fd891156d0ea7e63ecada07a2104cd3c2980", func := "granary/granarylaw22.NfsStatus", spec := "nfsStatus", inPlace := ["internal/reflectlite.ValueOf", "(internal/reflectlite.Value).Type", "(internal/reflectlite.Value).IsNil", "internal/reflectlite.TypeOf", "(internal/reflectlite.Value).Elem", "(internal/reflectlite.Value).Set"], unfollowed := true, recurses := true, named := ["errors.errorType"], apart := false, laid := [("errors.errorType", laid_errors_errorType)] }
def NfsStatusSaid : Prop := nfsStatusRow.holds Tryz.pinned (OpenSpec.ofChange nfsStatusSpec)

/-- ITS FALSE NEIGHBOUR: 'it returns false'. Refute it at one input. -/
def nfsStatusWrong : ChangeSpec := { name := "nfsStatus", fn := fun _ => fun
  | [d1, d2] => { results := [.lit (.bool false)], args := [d1, d2] }
  | _ => none }
def NfsStatusWrongFalsely : Prop := nfsStatusRow.holds Tryz.pinned (OpenSpec.ofChange nfsStatusWrong)

/-- 'granarylaw22.NfsResults': WHATEVER THE INPUT: true; the input reads as it did. -/
def nfsResultsSpec : ChangeSpec := { name := "nfsResults", fn := fun _ => fun
  | [d1, d2, d3] => { results := [.lit (.bool true)], args := [d1, d2, d3] }
  | _ => none }
def nfsResultsRow : OpenClaim := { program := "ytlkaggfhkfnhbaagreatdoor", sum := "9418c5b45055f1817309d53ca6d6fd891156d0ea7e63ecada07a2104cd3c2980", func := "granary/granarylaw22.NfsResults", spec := "nfsResults", inPlace := ["internal/reflectlite.ValueOf", "(internal/reflectlite.Value).Type", "(internal/reflectlite.Value).IsNil", "internal/reflectlite.TypeOf", "(internal/reflectlite.Value).Elem", "(internal/reflectlite.Value).Set"], unfollowed := true, recurses := true, named := ["errors.errorType"], apart := false, laid := [("errors.errorType", laid_errors_errorType)] }
def NfsResultsSaid : Prop := nfsResultsRow.holds Tryz.pinned (OpenSpec.ofChange nfsResultsSpec)

/-- ITS FALSE NEIGHBOUR: 'it returns false'. Refute it at one input. -/
def nfsResultsWrong : ChangeSpec := { name := "nfsResults", fn := fun _ => fun
  | [d1, d2, d3] => { results := [.lit (.bool false)], args := [d1, d2, d3] }
  | _ => none }
def NfsResultsWrongFalsely : Prop := nfsResultsRow.holds Tryz.pinned (OpenSpec.ofChange nfsResultsWrong)

/-- 'granarylaw22.NfsBack': WHATEVER THE INPUT: true; the input reads as it did. -/
def nfsBackSpec : ChangeSpec := { name := "nfsBack", fn := fun _ => fun
  | [d] => { results := [.lit (.bool true)], args := [d] }
  | _ => none }
def nfsBackRow : OpenClaim := { program := "ytlkaggfhkfnhbaagreatdoor", sum := "9418c5b45055f1817309d53ca6d6fd891156d0ea7e63ecada07a2104cd3c2980", func := "granary/granarylaw22.NfsBack", spec := "nfsBack", inPlace := ["internal/reflectlite.ValueOf", "(internal/reflectlite.Value).Type", "(internal/reflectlite.Value).IsNil", "internal/reflectlite.TypeOf", "(internal/reflectlite.Value).Elem", "(internal/reflectlite.Value).Set"], unfollowed := true, recurses := true, named := ["errors.errorType"], apart := false, laid := [("errors.errorType", laid_errors_errorType)] }
def NfsBackSaid : Prop := nfsBackRow.holds Tryz.pinned (OpenSpec.ofChange nfsBackSpec)

/-- ITS FALSE NEIGHBOUR: 'it returns false'. Refute it at one input. -/
def nfsBackWrong : ChangeSpec := { name := "nfsBack", fn := fun _ => fun
  | [d] => { results := [.lit (.bool false)], args := [d] }
  | _ => none }
def NfsBackWrongFalsely : Prop := nfsBackRow.holds Tryz.pinned (OpenSpec.ofChange nfsBackWrong)

/-- 'granarylaw22.NfsWhole': WHATEVER THE INPUT: true; the input reads as it did. -/
def nfsWholeSpec : ChangeSpec := { name := "nfsWhole", fn := fun _ => fun
  | [d] => { results := [.lit (.bool true)], args := [d] }
  | _ => none }
def nfsWholeRow : OpenClaim := { program := "ytlkaggfhkfnhbaagreatdoor", sum := "9418c5b45055f1817309d53ca6d6fd891156d0ea7e63ecada07a2104cd3c2980", func := "granary/granarylaw22.NfsWhole", spec := "nfsWhole", inPlace := ["internal/reflectlite.ValueOf", "(internal/reflectlite.Value).Type", "(internal/reflectlite.Value).IsNil", "internal/reflectlite.TypeOf", "(internal/reflectlite.Value).Elem", "(internal/reflectlite.Value).Set"], unfollowed := true, recurses := true, named := ["errors.errorType"], apart := false, laid := [("errors.errorType", laid_errors_errorType)] }
def NfsWholeSaid : Prop := nfsWholeRow.holds Tryz.pinned (OpenSpec.ofChange nfsWholeSpec)

/-- ITS FALSE NEIGHBOUR: 'it returns false'. Refute it at one input. -/
def nfsWholeWrong : ChangeSpec := { name := "nfsWhole", fn := fun _ => fun
  | [d] => { results := [.lit (.bool false)], args := [d] }
  | _ => none }
def NfsWholeWrongFalsely : Prop := nfsWholeRow.holds Tryz.pinned (OpenSpec.ofChange nfsWholeWrong)

/-- 'granarylaw22.NfsMounts': WHATEVER THE INPUT: true; the input reads as it did. -/
def nfsMountsSpec : ChangeSpec := { name := "nfsMounts", fn := fun _ => fun
  | [d1, d2, d3] => { results := [.lit (.bool true)], args := [d1, d2, d3] }
  | _ => none }
def nfsMountsRow : OpenClaim := { program := "ytlkaggfhkfnhbaagreatdoor", sum := "9418c5b45055f1817309d53ca6d6fd891156d0ea7e63ecada07a2104cd3c2980", func := "granary/granarylaw22.NfsMounts", spec := "nfsMounts", inPlace := ["internal/reflectlite.ValueOf", "(internal/reflectlite.Value).Type", "(internal/reflectlite.Value).IsNil", "internal/reflectlite.TypeOf", "(internal/reflectlite.Value).Elem", "(internal/reflectlite.Value).Set"], unfollowed := true, recurses := true, named := ["errors.errorType"], apart := false, laid := [("errors.errorType", laid_errors_errorType)] }
def NfsMountsSaid : Prop := nfsMountsRow.holds Tryz.pinned (OpenSpec.ofChange nfsMountsSpec)

/-- ITS FALSE NEIGHBOUR: 'it returns false'. Refute it at one input. -/
def nfsMountsWrong : ChangeSpec := { name := "nfsMounts", fn := fun _ => fun
  | [d1, d2, d3] => { results := [.lit (.bool false)], args := [d1, d2, d3] }
  | _ => none }
def NfsMountsWrongFalsely : Prop := nfsMountsRow.holds Tryz.pinned (OpenSpec.ofChange nfsMountsWrong)

/- THE SECOND FORM. 'bulk': how many values and letters a reading holds, each counted each time it is reached (what is shared counts as often as it is met; a slice's spare places count too). A statement '..UptoSaid' is the law's where the arguments, and the package variables that the reading takes, are together of bulk at most 1048576: NARROWER than '..Said'. Prove '..Said' where nothing that the law and all that it calls make is longer than what came in: it says more and counts as full. Else prove '..UptoSaid'. A law counts once. -/
mutual
def uptoBulk {H : Type} : DataW H → Nat
  | .lit (.string bytes) => bytes.length + 1
  | .lit _ => 1
  | .nil => 1
  | .ptr d => uptoBulk d + 1
  | .slice elems spare => uptoBulkAll elems + uptoBulkAll spare + 1
  | .agg parts => uptoBulkAll parts + 1
  | .iface _ d => uptoBulk d + 1
  | .map entries => uptoBulkEntries entries + 1
  | .held _ => 1
def uptoBulkAll {H : Type} : List (DataW H) → Nat
  | [] => 0
  | d :: r => uptoBulk d + uptoBulkAll r
def uptoBulkEntries {H : Type} : List (Lit × DataW H) → Nat
  | [] => 0
  | x :: r => uptoBulkEntry x + uptoBulkEntries r
def uptoBulkEntry {H : Type} : Lit × DataW H → Nat
  | (.string bytes, d) => bytes.length + uptoBulk d + 1
  | (_, d) => uptoBulk d + 1
 end
def uptoSmall : (H : Type) → List (DataW H) → Bool := fun _ ds => decide (uptoBulkAll ds ≤ 1048576)
def OpenSpec.upto (s : _root_.Go.ChangeSpec) : _root_.Go.OpenSpec := { _root_.Go.OpenSpec.ofChange s with cond := some uptoSmall }

/-- 'granarylaw22.NfsArgs', WHERE WHAT IT READS IS OF BULK AT MOST 1048576: true; the input reads as it did. -/
def nfsArgsUptoRow : OpenClaim := { program := "ytlkaggfhkfnhbaagreatdoor", sum := "9418c5b45055f1817309d53ca6d6fd891156d0ea7e63ecada07a2104cd3c2980", func := "granary/granarylaw22.NfsArgs", spec := "nfsArgs", inPlace := ["internal/reflectlite.ValueOf", "(internal/reflectlite.Value).Type", "(internal/reflectlite.Value).IsNil", "internal/reflectlite.TypeOf", "(internal/reflectlite.Value).Elem", "(internal/reflectlite.Value).Set"], unfollowed := true, recurses := true, named := ["errors.errorType"], apart := false, laid := [("errors.errorType", laid_errors_errorType)], narrowed := true }
def NfsArgsUptoSaid : Prop := nfsArgsUptoRow.holds Tryz.pinned (OpenSpec.upto nfsArgsSpec)

/-- 'granarylaw22.NfsStatus', WHERE WHAT IT READS IS OF BULK AT MOST 1048576: true; the input reads as it did. -/
def nfsStatusUptoRow : OpenClaim := { program := "ytlkaggfhkfnhbaagreatdoor", sum := "9418c5b45055f1817309d53ca6d6fd891156d0ea7e63ecada07a2104cd3c2980", func := "granary/granarylaw22.NfsStatus", spec := "nfsStatus", inPlace := ["internal/reflectlite.ValueOf", "(internal/reflectlite.Value).Type", "(internal/reflectlite.Value).IsNil", "internal/reflectlite.TypeOf", "(internal/reflectlite.Value).Elem", "(internal/reflectlite.Value).Set"], unfollowed := true, recurses := true, named := ["errors.errorType"], apart := false, laid := [("errors.errorType", laid_errors_errorType)], narrowed := true }
def NfsStatusUptoSaid : Prop := nfsStatusUptoRow.holds Tryz.pinned (OpenSpec.upto nfsStatusSpec)

/-- 'granarylaw22.NfsResults', WHERE WHAT IT READS IS OF BULK AT MOST 1048576: true; the input reads as it did. -/
def nfsResultsUptoRow : OpenClaim := { program := "ytlkaggfhkfnhbaagreatdoor", sum := "9418c5b45055f1817309d53ca6d6fd891156d0ea7e63ecada07a2104cd3c2980", func := "granary/granarylaw22.NfsResults", spec := "nfsResults", inPlace := ["internal/reflectlite.ValueOf", "(internal/reflectlite.Value).Type", "(internal/reflectlite.Value).IsNil", "internal/reflectlite.TypeOf", "(internal/reflectlite.Value).Elem", "(internal/reflectlite.Value).Set"], unfollowed := true, recurses := true, named := ["errors.errorType"], apart := false, laid := [("errors.errorType", laid_errors_errorType)], narrowed := true }
def NfsResultsUptoSaid : Prop := nfsResultsUptoRow.holds Tryz.pinned (OpenSpec.upto nfsResultsSpec)

/-- 'granarylaw22.NfsBack', WHERE WHAT IT READS IS OF BULK AT MOST 1048576: true; the input reads as it did. -/
def nfsBackUptoRow : OpenClaim := { program := "ytlkaggfhkfnhbaagreatdoor", sum := "9418c5b45055f1817309d53ca6d6fd891156d0ea7e63ecada07a2104cd3c2980", func := "granary/granarylaw22.NfsBack", spec := "nfsBack", inPlace := ["internal/reflectlite.ValueOf", "(internal/reflectlite.Value).Type", "(internal/reflectlite.Value).IsNil", "internal/reflectlite.TypeOf", "(internal/reflectlite.Value).Elem", "(internal/reflectlite.Value).Set"], unfollowed := true, recurses := true, named := ["errors.errorType"], apart := false, laid := [("errors.errorType", laid_errors_errorType)], narrowed := true }
def NfsBackUptoSaid : Prop := nfsBackUptoRow.holds Tryz.pinned (OpenSpec.upto nfsBackSpec)

/-- 'granarylaw22.NfsWhole', WHERE WHAT IT READS IS OF BULK AT MOST 1048576: true; the input reads as it did. -/
def nfsWholeUptoRow : OpenClaim := { program := "ytlkaggfhkfnhbaagreatdoor", sum := "9418c5b45055f1817309d53ca6d6fd891156d0ea7e63ecada07a2104cd3c2980", func := "granary/granarylaw22.NfsWhole", spec := "nfsWhole", inPlace := ["internal/reflectlite.ValueOf", "(internal/reflectlite.Value).Type", "(internal/reflectlite.Value).IsNil", "internal/reflectlite.TypeOf", "(internal/reflectlite.Value).Elem", "(internal/reflectlite.Value).Set"], unfollowed := true, recurses := true, named := ["errors.errorType"], apart := false, laid := [("errors.errorType", laid_errors_errorType)], narrowed := true }
def NfsWholeUptoSaid : Prop := nfsWholeUptoRow.holds Tryz.pinned (OpenSpec.upto nfsWholeSpec)

/-- 'granarylaw22.NfsMounts', WHERE WHAT IT READS IS OF BULK AT MOST 1048576: true; the input reads as it did. -/
def nfsMountsUptoRow : OpenClaim := { program := "ytlkaggfhkfnhbaagreatdoor", sum := "9418c5b45055f1817309d53ca6d6fd891156d0ea7e63ecada07a2104cd3c2980", func := "granary/granarylaw22.NfsMounts", spec := "nfsMounts", inPlace := ["internal/reflectlite.ValueOf", "(internal/reflectlite.Value).Type", "(internal/reflectlite.Value).IsNil", "internal/reflectlite.TypeOf", "(internal/reflectlite.Value).Elem", "(internal/reflectlite.Value).Set"], unfollowed := true, recurses := true, named := ["errors.errorType"], apart := false, laid := [("errors.errorType", laid_errors_errorType)], narrowed := true }
def NfsMountsUptoSaid : Prop := nfsMountsUptoRow.holds Tryz.pinned (OpenSpec.upto nfsMountsSpec)

end Rows
end Go.Proofs.YtlkaggfhkfnhbaaGreatDoor
