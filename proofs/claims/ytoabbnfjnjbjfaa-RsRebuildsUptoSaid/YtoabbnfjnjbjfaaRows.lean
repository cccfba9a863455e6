/-
  No cell of these rows narrows 'for every input' (looked for: loops, veiled, ifaces, maps, wideKeys, modest, calm, conditions, laid).
  DERIVED. THE GIVEN ROWS OF THIS SEAT. 8 by the template 'for every input the law returns true; each argument reads behind the call as it read before'; 0 by the template 'total and deterministic' (their statements: YtoabbnfjnjbjfaaTotals.lean).
  GIVEN WITH THE SEED: the statements are not yours to turn. If you find one false, say at which input.
  Laid BY PROGRAM, IN A SANDBOX (cutbox-rows.mjs): the forced cells as the released guide's own fill.sh prints them over the translation 52f436c050b846f5… (all of the seat's roots in one cut). By AI agents, Wed Nov 11 2026. No macro, syntax, notation, axiom, sorry.
-/
import Derived.Test.YtoabbnfjnjbjfaaChecked
import GoSem.Claim
import GoSem.ClaimJoined
import GoSem.ClaimMapViews
import Derived.JoinedTies
import Derived.KernelRfl
namespace Go.Proofs.Ytoabbnfjnjbjfaa
/- THE CELL 'sum', in the pinned program and in every row, IS THE sha256 OF THE DUMP (.gsa) THAT YtoabbnfjnjbjfaaProg.lean LOADS. Nothing in Lean hashes anything: it is a label: what it is worth is what the hold of that sum in a sandbox is worth. -/
noncomputable def Try.pinned : Pinned := { name := "ytoabbnfjnjbjfaa", sum := "52f436c050b846f53f81adadb8f474103b27a08bb8e283c2fa7301b92bf61023", checked := Try.checked }
namespace Rows
def none {H : Type} : Left H := { results := [], args := [] }

/-- 'granarylaw03.RsRebuilds': WHATEVER THE INPUT: true; the input reads as it did. -/
def rsRebuildsSpec : ChangeSpec := { name := "rsRebuilds", fn := fun _ => fun
  | [d1, d2, d3, d4] => { results := [.lit (.bool true)], args := [d1, d2, d3, d4] }
  | _ => none }
def rsRebuildsRow : OpenClaim := { program := "ytoabbnfjnjbjfaa", sum := "52f436c050b846f53f81adadb8f474103b27a08bb8e283c2fa7301b92bf61023", func := "granary/granarylaw03.RsRebuilds", spec := "rsRebuilds", apart := false }
def RsRebuildsSaid : Prop := rsRebuildsRow.holds Try.pinned (OpenSpec.ofChange rsRebuildsSpec)

/-- ITS FALSE NEIGHBOUR: 'it returns false'. Refute it at one input. -/
def rsRebuildsWrong : ChangeSpec := { name := "rsRebuilds", fn := fun _ => fun
  | [d1, d2, d3, d4] => { results := [.lit (.bool false)], args := [d1, d2, d3, d4] }
  | _ => none }
def RsRebuildsWrongFalsely : Prop := rsRebuildsRow.holds Try.pinned (OpenSpec.ofChange rsRebuildsWrong)

/-- 'granarylaw03.RsRows': WHATEVER THE INPUT: true; the input reads as it did. -/
def rsRowsSpec : ChangeSpec := { name := "rsRows", fn := fun _ => fun
  | [d1, d2, d3] => { results := [.lit (.bool true)], args := [d1, d2, d3] }
  | _ => none }
def rsRowsRow : OpenClaim := { program := "ytoabbnfjnjbjfaa", sum := "52f436c050b846f53f81adadb8f474103b27a08bb8e283c2fa7301b92bf61023", func := "granary/granarylaw03.RsRows", spec := "rsRows", apart := false }
def RsRowsSaid : Prop := rsRowsRow.holds Try.pinned (OpenSpec.ofChange rsRowsSpec)

/-- ITS FALSE NEIGHBOUR: 'it returns false'. Refute it at one input. -/
def rsRowsWrong : ChangeSpec := { name := "rsRows", fn := fun _ => fun
  | [d1, d2, d3] => { results := [.lit (.bool false)], args := [d1, d2, d3] }
  | _ => none }
def RsRowsWrongFalsely : Prop := rsRowsRow.holds Try.pinned (OpenSpec.ofChange rsRowsWrong)

/-- 'granarylaw03.RsEncodes': WHATEVER THE INPUT: true; the input reads as it did. -/
def rsEncodesSpec : ChangeSpec := { name := "rsEncodes", fn := fun _ => fun
  | [d1, d2, d3] => { results := [.lit (.bool true)], args := [d1, d2, d3] }
  | _ => none }
def rsEncodesRow : OpenClaim := { program := "ytoabbnfjnjbjfaa", sum := "52f436c050b846f53f81adadb8f474103b27a08bb8e283c2fa7301b92bf61023", func := "granary/granarylaw03.RsEncodes", spec := "rsEncodes", apart := false }
def RsEncodesSaid : Prop := rsEncodesRow.holds Try.pinned (OpenSpec.ofChange rsEncodesSpec)

/-- ITS FALSE NEIGHBOUR: 'it returns false'. Refute it at one input. -/
def rsEncodesWrong : ChangeSpec := { name := "rsEncodes", fn := fun _ => fun
  | [d1, d2, d3] => { results := [.lit (.bool false)], args := [d1, d2, d3] }
  | _ => none }
def RsEncodesWrongFalsely : Prop := rsEncodesRow.holds Try.pinned (OpenSpec.ofChange rsEncodesWrong)

/-- 'granarylaw03.RsAny': WHATEVER THE INPUT: true; the input reads as it did. -/
def rsAnySpec : ChangeSpec := { name := "rsAny", fn := fun _ => fun
  | [d1, d2, d3, d4] => { results := [.lit (.bool true)], args := [d1, d2, d3, d4] }
  | _ => none }
def rsAnyRow : OpenClaim := { program := "ytoabbnfjnjbjfaa", sum := "52f436c050b846f53f81adadb8f474103b27a08bb8e283c2fa7301b92bf61023", func := "granary/granarylaw03.RsAny", spec := "rsAny", apart := false }
def RsAnySaid : Prop := rsAnyRow.holds Try.pinned (OpenSpec.ofChange rsAnySpec)

/-- ITS FALSE NEIGHBOUR: 'it returns false'. Refute it at one input. -/
def rsAnyWrong : ChangeSpec := { name := "rsAny", fn := fun _ => fun
  | [d1, d2, d3, d4] => { results := [.lit (.bool false)], args := [d1, d2, d3, d4] }
  | _ => none }
def RsAnyWrongFalsely : Prop := rsAnyRow.holds Try.pinned (OpenSpec.ofChange rsAnyWrong)

/-- 'granarylaw03.RsUpdates': WHATEVER THE INPUT: true; the input reads as it did. -/
def rsUpdatesSpec : ChangeSpec := { name := "rsUpdates", fn := fun _ => fun
  | [d1, d2, d3, d4, d5, d6] => { results := [.lit (.bool true)], args := [d1, d2, d3, d4, d5, d6] }
  | _ => none }
def rsUpdatesRow : OpenClaim := { program := "ytoabbnfjnjbjfaa", sum := "52f436c050b846f53f81adadb8f474103b27a08bb8e283c2fa7301b92bf61023", func := "granary/granarylaw03.RsUpdates", spec := "rsUpdates", apart := false }
def RsUpdatesSaid : Prop := rsUpdatesRow.holds Try.pinned (OpenSpec.ofChange rsUpdatesSpec)

/-- ITS FALSE NEIGHBOUR: 'it returns false'. Refute it at one input. -/
def rsUpdatesWrong : ChangeSpec := { name := "rsUpdates", fn := fun _ => fun
  | [d1, d2, d3, d4, d5, d6] => { results := [.lit (.bool false)], args := [d1, d2, d3, d4, d5, d6] }
  | _ => none }
def RsUpdatesWrongFalsely : Prop := rsUpdatesRow.holds Try.pinned (OpenSpec.ofChange rsUpdatesWrong)

/-- 'granarylaw03.RsSplits': WHATEVER THE INPUT: true; the input reads as it did. -/
def rsSplitsSpec : ChangeSpec := { name := "rsSplits", fn := fun _ => fun
  | [d1, d2, d3, d4, d5] => { results := [.lit (.bool true)], args := [d1, d2, d3, d4, d5] }
  | _ => none }
def rsSplitsRow : OpenClaim := { program := "ytoabbnfjnjbjfaa", sum := "52f436c050b846f53f81adadb8f474103b27a08bb8e283c2fa7301b92bf61023", func := "granary/granarylaw03.RsSplits", spec := "rsSplits", apart := false }
def RsSplitsSaid : Prop := rsSplitsRow.holds Try.pinned (OpenSpec.ofChange rsSplitsSpec)

/-- ITS FALSE NEIGHBOUR: 'it returns false'. Refute it at one input. -/
def rsSplitsWrong : ChangeSpec := { name := "rsSplits", fn := fun _ => fun
  | [d1, d2, d3, d4, d5] => { results := [.lit (.bool false)], args := [d1, d2, d3, d4, d5] }
  | _ => none }
def RsSplitsWrongFalsely : Prop := rsSplitsRow.holds Try.pinned (OpenSpec.ofChange rsSplitsWrong)

/-- 'granarylaw03.RsChanges': WHATEVER THE INPUT: true; the input reads as it did. -/
def rsChangesSpec : ChangeSpec := { name := "rsChanges", fn := fun _ => fun
  | [d1, d2, d3, d4, d5, d6] => { results := [.lit (.bool true)], args := [d1, d2, d3, d4, d5, d6] }
  | _ => none }
def rsChangesRow : OpenClaim := { program := "ytoabbnfjnjbjfaa", sum := "52f436c050b846f53f81adadb8f474103b27a08bb8e283c2fa7301b92bf61023", func := "granary/granarylaw03.RsChanges", spec := "rsChanges", apart := false }
def RsChangesSaid : Prop := rsChangesRow.holds Try.pinned (OpenSpec.ofChange rsChangesSpec)

/-- ITS FALSE NEIGHBOUR: 'it returns false'. Refute it at one input. -/
def rsChangesWrong : ChangeSpec := { name := "rsChanges", fn := fun _ => fun
  | [d1, d2, d3, d4, d5, d6] => { results := [.lit (.bool false)], args := [d1, d2, d3, d4, d5, d6] }
  | _ => none }
def RsChangesWrongFalsely : Prop := rsChangesRow.holds Try.pinned (OpenSpec.ofChange rsChangesWrong)

/-- 'granarylaw03.RsNil': WHATEVER THE INPUT: true; the input reads as it did. -/
def rsNilSpec : ChangeSpec := { name := "rsNil", fn := fun _ => fun
  | [d1, d2] => { results := [.lit (.bool true)], args := [d1, d2] }
  | _ => none }
def rsNilRow : OpenClaim := { program := "ytoabbnfjnjbjfaa", sum := "52f436c050b846f53f81adadb8f474103b27a08bb8e283c2fa7301b92bf61023", func := "granary/granarylaw03.RsNil", spec := "rsNil", apart := false }
def RsNilSaid : Prop := rsNilRow.holds Try.pinned (OpenSpec.ofChange rsNilSpec)

/-- ITS FALSE NEIGHBOUR: 'it returns false'. Refute it at one input. -/
def rsNilWrong : ChangeSpec := { name := "rsNil", fn := fun _ => fun
  | [d1, d2] => { results := [.lit (.bool false)], args := [d1, d2] }
  | _ => none }
def RsNilWrongFalsely : Prop := rsNilRow.holds Try.pinned (OpenSpec.ofChange rsNilWrong)

/- THE SECOND FORM. 'bulk': how many values and letters a reading holds, each counted each time it is reached (what is shared counts as often as it is met; a slice's spare places count too). A statement '..UptoSaid' is the law's where the arguments, and the package variables that the reading takes, are together of bulk at most 1048576: NARROWER than '..Said'. Prove '..Said' where nothing that the law and all that it calls make is longer than what came in: it says more and counts as full. Else prove '..UptoSaid'. A law counts once. -/
mutual
def uptoBulk {H : Type} : DataW H → Nat
  | .lit (.string bytes) => bytes.length + 1
  | .lit _ => 1
  | .nil => 1
  | .ptr d => uptoBulk d + 1
  | .slice elems spare => uptoBulkAll elems + uptoBulkAll spare + 1
  | .agg parts => uptoBulkAll parts + 1
  | .iface _ d => uptoBulk d + 1
  | .map entries => uptoBulkEntries entries + 1
  | .held _ => 1
def uptoBulkAll {H : Type} : List (DataW H) → Nat
  | [] => 0
  | d :: r => uptoBulk d + uptoBulkAll r
def uptoBulkEntries {H : Type} : List (Lit × DataW H) → Nat
  | [] => 0
  | x :: r => uptoBulkEntry x + uptoBulkEntries r
def uptoBulkEntry {H : Type} : Lit × DataW H → Nat
  | (.string bytes, d) => bytes.length + uptoBulk d + 1
  | (_, d) => uptoBulk d + 1
 end
def uptoSmall : (H : Type) → List (DataW H) → Bool := fun _ ds => decide (uptoBulkAll ds ≤ 1048576)
def OpenSpec.upto (s : _root_.Go.ChangeSpec) : _root_.Go.OpenSpec := { _root_.Go.OpenSpec.ofChange s with cond := some uptoSmall }

/-- 'granarylaw03.RsRebuilds', WHERE WHAT IT READS IS OF BULK AT MOST 1048576: true; the input reads as it did. -/
def rsRebuildsUptoRow : OpenClaim := { program := "ytoabbnfjnjbjfaa", sum := "52f436c050b846f53f81adadb8f474103b27a08bb8e283c2fa7301b92bf61023", func := "granary/granarylaw03.RsRebuilds", spec := "rsRebuilds", apart := false, narrowed := true }
def RsRebuildsUptoSaid : Prop := rsRebuildsUptoRow.holds Try.pinned (OpenSpec.upto rsRebuildsSpec)

/-- 'granarylaw03.RsRows', WHERE WHAT IT READS IS OF BULK AT MOST 1048576: true; the input reads as it did. -/
def rsRowsUptoRow : OpenClaim := { program := "ytoabbnfjnjbjfaa", sum := "52f436c050b846f53f81adadb8f474103b27a08bb8e283c2fa7301b92bf61023", func := "granary/granarylaw03.RsRows", spec := "rsRows", apart := false, narrowed := true }
def RsRowsUptoSaid : Prop := rsRowsUptoRow.holds Try.pinned (OpenSpec.upto rsRowsSpec)

/-- 'granarylaw03.RsEncodes', WHERE WHAT IT READS IS OF BULK AT MOST 1048576: true; the input reads as it did. -/
def rsEncodesUptoRow : OpenClaim := { program := "ytoabbnfjnjbjfaa", sum := "52f436c050b846f53f81adadb8f474103b27a08bb8e283c2fa7301b92bf61023", func := "granary/granarylaw03.RsEncodes", spec := "rsEncodes", apart := false, narrowed := true }
def RsEncodesUptoSaid : Prop := rsEncodesUptoRow.holds Try.pinned (OpenSpec.upto rsEncodesSpec)

/-- 'granarylaw03.RsAny', WHERE WHAT IT READS IS OF BULK AT MOST 1048576: true; the input reads as it did. -/
def rsAnyUptoRow : OpenClaim := { program := "ytoabbnfjnjbjfaa", sum := "52f436c050b846f53f81adadb8f474103b27a08bb8e283c2fa7301b92bf61023", func := "granary/granarylaw03.RsAny", spec := "rsAny", apart := false, narrowed := true }
def RsAnyUptoSaid : Prop := rsAnyUptoRow.holds Try.pinned (OpenSpec.upto rsAnySpec)

/-- 'granarylaw03.RsUpdates', WHERE WHAT IT READS IS OF BULK AT MOST 1048576: true; the input reads as it did. -/
def rsUpdatesUptoRow : OpenClaim := { program := "ytoabbnfjnjbjfaa", sum := "52f436c050b846f53f81adadb8f474103b27a08bb8e283c2fa7301b92bf61023", func := "granary/granarylaw03.RsUpdates", spec := "rsUpdates", apart := false, narrowed := true }
def RsUpdatesUptoSaid : Prop := rsUpdatesUptoRow.holds Try.pinned (OpenSpec.upto rsUpdatesSpec)

/-- 'granarylaw03.RsSplits', WHERE WHAT IT READS IS OF BULK AT MOST 1048576: true; the input reads as it did. -/
def rsSplitsUptoRow : OpenClaim := { program := "ytoabbnfjnjbjfaa", sum := "52f436c050b846f53f81adadb8f474103b27a08bb8e283c2fa7301b92bf61023", func := "granary/granarylaw03.RsSplits", spec := "rsSplits", apart := false, narrowed := true }
def RsSplitsUptoSaid : Prop := rsSplitsUptoRow.holds Try.pinned (OpenSpec.upto rsSplitsSpec)

/-- 'granarylaw03.RsChanges', WHERE WHAT IT READS IS OF BULK AT MOST 1048576: true; the input reads as it did. -/
def rsChangesUptoRow : OpenClaim := { program := "ytoabbnfjnjbjfaa", sum := "52f436c050b846f53f81adadb8f474103b27a08bb8e283c2fa7301b92bf61023", func := "granary/granarylaw03.RsChanges", spec := "rsChanges", apart := false, narrowed := true }
def RsChangesUptoSaid : Prop := rsChangesUptoRow.holds Try.pinned (OpenSpec.upto rsChangesSpec)

/-- 'granarylaw03.RsNil', WHERE WHAT IT READS IS OF BULK AT MOST 1048576: true; the input reads as it did. -/
def rsNilUptoRow : OpenClaim := { program := "ytoabbnfjnjbjfaa", sum := "52f436c050b846f53f81adadb8f474103b27a08bb8e283c2fa7301b92bf61023", func := "granary/granarylaw03.RsNil", spec := "rsNil", apart := false, narrowed := true }
def RsNilUptoSaid : Prop := rsNilUptoRow.holds Try.pinned (OpenSpec.upto rsNilSpec)

end Rows
end Go.Proofs.Ytoabbnfjnjbjfaa
