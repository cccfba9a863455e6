/-
  No cell of these rows narrows 'for every input' (looked for: loops, veiled, ifaces, maps, wideKeys, modest, calm, conditions, laid).
  DERIVED. THE GIVEN ROWS OF THIS SEAT. 4 by the template 'for every input the law returns true; each argument reads behind the call as it read before'; 0 by the template 'total and deterministic' (their statements: YtabkbpilajgcnaaTotals.lean).
  GIVEN WITH THE SEED: the statements are not yours to turn. If you find one false, say at which input.
  Laid BY PROGRAM, IN A SANDBOX (cutbox-rows.mjs): the forced cells as the released guide's own fill.sh prints them over the translation 941983a07bbd12ac… (all of the seat's roots in one cut). By AI agents, Wed Nov 11 2026. No macro, syntax, notation, axiom, sorry.
-/
import Derived.Test.YtabkbpilajgcnaaChecked
import GoSem.Claim
import GoSem.ClaimJoined
import GoSem.ClaimMapViews
import Derived.JoinedTies
import Derived.KernelRfl
namespace Go.Proofs.Ytabkbpilajgcnaa
/- THE CELL 'sum', in the pinned program and in every row, IS THE sha256 OF THE DUMP (.gsa) THAT YtabkbpilajgcnaaProg.lean LOADS. Nothing in Lean hashes anything: it is a label: what it is worth is what the hold of that sum in a sandbox is worth. -/
noncomputable def Try.pinned : Pinned := { name := "ytabkbpilajgcnaa", sum := "941983a07bbd12acc55ead2a27c6ffc89532b0c0bc0a6e7e4a93099b7227170b", checked := Try.checked }
namespace Rows
def none {H : Type} : Left H := { results := [], args := [] }

/-- 'granarylaw01.XdrWrites': WHATEVER THE INPUT: true; the input reads as it did. -/
def xdrWritesSpec : ChangeSpec := { name := "xdrWrites", fn := fun _ => fun
  | [d] => { results := [.lit (.bool true)], args := [d] }
  | _ => none }
def xdrWritesRow : OpenClaim := { program := "ytabkbpilajgcnaa", sum := "941983a07bbd12acc55ead2a27c6ffc89532b0c0bc0a6e7e4a93099b7227170b", func := "granary/granarylaw01.XdrWrites", spec := "xdrWrites", unfollowed := true, recurses := true, apart := false }
def XdrWritesSaid : Prop := xdrWritesRow.holds Try.pinned (OpenSpec.ofChange xdrWritesSpec)

/-- ITS FALSE NEIGHBOUR: 'it returns false'. Refute it at one input. -/
def xdrWritesWrong : ChangeSpec := { name := "xdrWrites", fn := fun _ => fun
  | [d] => { results := [.lit (.bool false)], args := [d] }
  | _ => none }
def XdrWritesWrongFalsely : Prop := xdrWritesRow.holds Try.pinned (OpenSpec.ofChange xdrWritesWrong)

/-- 'granarylaw01.XdrOne': WHATEVER THE INPUT: true; the input reads as it did. -/
def xdrOneSpec : ChangeSpec := { name := "xdrOne", fn := fun _ => fun
  | [d1, d2] => { results := [.lit (.bool true)], args := [d1, d2] }
  | _ => none }
def xdrOneRow : OpenClaim := { program := "ytabkbpilajgcnaa", sum := "941983a07bbd12acc55ead2a27c6ffc89532b0c0bc0a6e7e4a93099b7227170b", func := "granary/granarylaw01.XdrOne", spec := "xdrOne", unfollowed := true, recurses := true, apart := false }
def XdrOneSaid : Prop := xdrOneRow.holds Try.pinned (OpenSpec.ofChange xdrOneSpec)

/-- ITS FALSE NEIGHBOUR: 'it returns false'. Refute it at one input. -/
def xdrOneWrong : ChangeSpec := { name := "xdrOne", fn := fun _ => fun
  | [d1, d2] => { results := [.lit (.bool false)], args := [d1, d2] }
  | _ => none }
def XdrOneWrongFalsely : Prop := xdrOneRow.holds Try.pinned (OpenSpec.ofChange xdrOneWrong)

/-- 'granarylaw01.XdrBack': WHATEVER THE INPUT: true; the input reads as it did. -/
def xdrBackSpec : ChangeSpec := { name := "xdrBack", fn := fun _ => fun
  | [d1, d2, d3, d4, d5, d6, d7] => { results := [.lit (.bool true)], args := [d1, d2, d3, d4, d5, d6, d7] }
  | _ => none }
def xdrBackRow : OpenClaim := { program := "ytabkbpilajgcnaa", sum := "941983a07bbd12acc55ead2a27c6ffc89532b0c0bc0a6e7e4a93099b7227170b", func := "granary/granarylaw01.XdrBack", spec := "xdrBack", unfollowed := true, recurses := true, apart := false }
def XdrBackSaid : Prop := xdrBackRow.holds Try.pinned (OpenSpec.ofChange xdrBackSpec)

/-- ITS FALSE NEIGHBOUR: 'it returns false'. Refute it at one input. -/
def xdrBackWrong : ChangeSpec := { name := "xdrBack", fn := fun _ => fun
  | [d1, d2, d3, d4, d5, d6, d7] => { results := [.lit (.bool false)], args := [d1, d2, d3, d4, d5, d6, d7] }
  | _ => none }
def XdrBackWrongFalsely : Prop := xdrBackRow.holds Try.pinned (OpenSpec.ofChange xdrBackWrong)

/-- 'granarylaw01.XdrNil': WHATEVER THE INPUT: true; the input reads as it did. -/
def xdrNilSpec : ChangeSpec := { name := "xdrNil", fn := fun _ => fun
  | [d1, d2] => { results := [.lit (.bool true)], args := [d1, d2] }
  | _ => none }
def xdrNilRow : OpenClaim := { program := "ytabkbpilajgcnaa", sum := "941983a07bbd12acc55ead2a27c6ffc89532b0c0bc0a6e7e4a93099b7227170b", func := "granary/granarylaw01.XdrNil", spec := "xdrNil", unfollowed := true, recurses := true, apart := false }
def XdrNilSaid : Prop := xdrNilRow.holds Try.pinned (OpenSpec.ofChange xdrNilSpec)

/-- ITS FALSE NEIGHBOUR: 'it returns false'. Refute it at one input. -/
def xdrNilWrong : ChangeSpec := { name := "xdrNil", fn := fun _ => fun
  | [d1, d2] => { results := [.lit (.bool false)], args := [d1, d2] }
  | _ => none }
def XdrNilWrongFalsely : Prop := xdrNilRow.holds Try.pinned (OpenSpec.ofChange xdrNilWrong)

/- THE SECOND FORM. 'bulk': how many values and letters a reading holds, each counted each time it is reached (what is shared counts as often as it is met; a slice's spare places count too). A statement '..UptoSaid' is the law's where the arguments, and the package variables that the reading takes, are together of bulk at most 1048576: NARROWER than '..Said'. Prove '..Said' where nothing that the law and all that it calls make is longer than what came in: it says more and counts as full. Else prove '..UptoSaid'. A law counts once. -/
mutual
def uptoBulk {H : Type} : DataW H → Nat
  | .lit (.string bytes) => bytes.length + 1
  | .lit _ => 1
  | .nil => 1
  | .ptr d => uptoBulk d + 1
  | .slice elems spare => uptoBulkAll elems + uptoBulkAll spare + 1
  | .agg parts => uptoBulkAll parts + 1
  | .iface _ d => uptoBulk d + 1
  | .map entries => uptoBulkEntries entries + 1
  | .held _ => 1
def uptoBulkAll {H : Type} : List (DataW H) → Nat
  | [] => 0
  | d :: r => uptoBulk d + uptoBulkAll r
def uptoBulkEntries {H : Type} : List (Lit × DataW H) → Nat
  | [] => 0
  | x :: r => uptoBulkEntry x + uptoBulkEntries r
def uptoBulkEntry {H : Type} : Lit × DataW H → Nat
  | (.string bytes, d) => bytes.length + uptoBulk d + 1
  | (_, d) => uptoBulk d + 1
 end
def uptoSmall : (H : Type) → List (DataW H) → Bool := fun _ ds => decide (uptoBulkAll ds ≤ 1048576)
def OpenSpec.upto (s : _root_.Go.ChangeSpec) : _root_.Go.OpenSpec := { _root_.Go.OpenSpec.ofChange s with cond := some uptoSmall }

/-- 'granarylaw01.XdrWrites', WHERE WHAT IT READS IS OF BULK AT MOST 1048576: true; the input reads as it did. -/
def xdrWritesUptoRow : OpenClaim := { program := "ytabkbpilajgcnaa", sum := "941983a07bbd12acc55ead2a27c6ffc89532b0c0bc0a6e7e4a93099b7227170b", func := "granary/granarylaw01.XdrWrites", spec := "xdrWrites", unfollowed := true, recurses := true, apart := false, narrowed := true }
def XdrWritesUptoSaid : Prop := xdrWritesUptoRow.holds Try.pinned (OpenSpec.upto xdrWritesSpec)

/-- 'granarylaw01.XdrOne', WHERE WHAT IT READS IS OF BULK AT MOST 1048576: true; the input reads as it did. -/
def xdrOneUptoRow : OpenClaim := { program := "ytabkbpilajgcnaa", sum := "941983a07bbd12acc55ead2a27c6ffc89532b0c0bc0a6e7e4a93099b7227170b", func := "granary/granarylaw01.XdrOne", spec := "xdrOne", unfollowed := true, recurses := true, apart := false, narrowed := true }
def XdrOneUptoSaid : Prop := xdrOneUptoRow.holds Try.pinned (OpenSpec.upto xdrOneSpec)

/-- 'granarylaw01.XdrBack', WHERE WHAT IT READS IS OF BULK AT MOST 1048576: true; the input reads as it did. -/
def xdrBackUptoRow : OpenClaim := { program := "ytabkbpilajgcnaa", sum := "941983a07bbd12acc55ead2a27c6ffc89532b0c0bc0a6e7e4a93099b7227170b", func := "granary/granarylaw01.XdrBack", spec := "xdrBack", unfollowed := true, recurses := true, apart := false, narrowed := true }
def XdrBackUptoSaid : Prop := xdrBackUptoRow.holds Try.pinned (OpenSpec.upto xdrBackSpec)

/-- 'granarylaw01.XdrNil', WHERE WHAT IT READS IS OF BULK AT MOST 1048576: true; the input reads as it did. -/
def xdrNilUptoRow : OpenClaim := { program := "ytabkbpilajgcnaa", sum := "941983a07bbd12acc55ead2a27c6ffc89532b0c0bc0a6e7e4a93099b7227170b", func := "granary/granarylaw01.XdrNil", spec := "xdrNil", unfollowed := true, recurses := true, apart := false, narrowed := true }
def XdrNilUptoSaid : Prop := xdrNilUptoRow.holds Try.pinned (OpenSpec.upto xdrNilSpec)

end Rows
end Go.Proofs.Ytabkbpilajgcnaa
