/-
  No cell of these rows narrows 'for every input' (looked for: loops, veiled, ifaces, maps, wideKeys, modest, calm, conditions, laid).
  DERIVED. THE GIVEN ROWS OF THIS SEAT. 6 by the template 'for every input the law returns true; each argument reads behind the call as it read before'; 0 by the template 'total and deterministic' (their statements: YtokfelhleojnjaaTotals.lean).
  GIVEN WITH THE SEED: the statements are not yours to turn. If you find one false, say at which input.
  Laid BY PROGRAM, IN A SANDBOX (cutbox-rows.mjs): the forced cells as the released guide's own fill.sh prints them over the translation 553442da10c3cfaa… (all of the seat's roots in one cut). By AI agents, Wed Nov 11 2026. No macro, syntax, notation, axiom, sorry.
-/
import Derived.Test.YtokfelhleojnjaaChecked
import GoSem.Claim
import GoSem.ClaimJoined
import GoSem.ClaimMapViews
import Derived.JoinedTies
import Derived.KernelRfl
namespace Go.Proofs.Ytokfelhleojnjaa
/- THE CELL 'sum', in the pinned program and in every row, IS THE sha256 OF THE DUMP (.gsa) THAT YtokfelhleojnjaaProg.lean LOADS. Nothing in Lean hashes anything: it is a label: what it is worth is what the hold of that sum in a sandbox is worth. -/
noncomputable def Try.pinned : Pinned := { name := "ytokfelhleojnjaa", sum := "553442da10c3cfaa3c38f2011a96493750486ecbbec9788b4256d79bf82ccf10", checked := Try.checked }
namespace Rows
def none {H : Type} : Left H := { results := [], args := [] }

/-- 'granarylaw05.ShaSums': WHATEVER THE INPUT: true; the input reads as it did. -/
def shaSumsSpec : ChangeSpec := { name := "shaSums", fn := fun _ => fun
  | [d1, d2] => { results := [.lit (.bool true)], args := [d1, d2] }
  | _ => none }
def shaSumsRow : OpenClaim := { program := "ytokfelhleojnjaa", sum := "553442da10c3cfaa3c38f2011a96493750486ecbbec9788b4256d79bf82ccf10", func := "granary/granarylaw05.ShaSums", spec := "shaSums", recurses := true, apart := false }
def ShaSumsSaid : Prop := shaSumsRow.holds Try.pinned (OpenSpec.ofChange shaSumsSpec)

/-- ITS FALSE NEIGHBOUR: 'it returns false'. Refute it at one input. -/
def shaSumsWrong : ChangeSpec := { name := "shaSums", fn := fun _ => fun
  | [d1, d2] => { results := [.lit (.bool false)], args := [d1, d2] }
  | _ => none }
def ShaSumsWrongFalsely : Prop := shaSumsRow.holds Try.pinned (OpenSpec.ofChange shaSumsWrong)

/-- 'granarylaw05.ShaHex': WHATEVER THE INPUT: true; the input reads as it did. -/
def shaHexSpec : ChangeSpec := { name := "shaHex", fn := fun _ => fun
  | [d1, d2] => { results := [.lit (.bool true)], args := [d1, d2] }
  | _ => none }
def shaHexRow : OpenClaim := { program := "ytokfelhleojnjaa", sum := "553442da10c3cfaa3c38f2011a96493750486ecbbec9788b4256d79bf82ccf10", func := "granary/granarylaw05.ShaHex", spec := "shaHex", recurses := true, apart := false }
def ShaHexSaid : Prop := shaHexRow.holds Try.pinned (OpenSpec.ofChange shaHexSpec)

/-- ITS FALSE NEIGHBOUR: 'it returns false'. Refute it at one input. -/
def shaHexWrong : ChangeSpec := { name := "shaHex", fn := fun _ => fun
  | [d1, d2] => { results := [.lit (.bool false)], args := [d1, d2] }
  | _ => none }
def ShaHexWrongFalsely : Prop := shaHexRow.holds Try.pinned (OpenSpec.ofChange shaHexWrong)

/-- 'granarylaw05.ShaBursts': WHATEVER THE INPUT: true; the input reads as it did. -/
def shaBurstsSpec : ChangeSpec := { name := "shaBursts", fn := fun _ => fun
  | [d1, d2, d3] => { results := [.lit (.bool true)], args := [d1, d2, d3] }
  | _ => none }
def shaBurstsRow : OpenClaim := { program := "ytokfelhleojnjaa", sum := "553442da10c3cfaa3c38f2011a96493750486ecbbec9788b4256d79bf82ccf10", func := "granary/granarylaw05.ShaBursts", spec := "shaBursts", recurses := true, apart := false }
def ShaBurstsSaid : Prop := shaBurstsRow.holds Try.pinned (OpenSpec.ofChange shaBurstsSpec)

/-- ITS FALSE NEIGHBOUR: 'it returns false'. Refute it at one input. -/
def shaBurstsWrong : ChangeSpec := { name := "shaBursts", fn := fun _ => fun
  | [d1, d2, d3] => { results := [.lit (.bool false)], args := [d1, d2, d3] }
  | _ => none }
def ShaBurstsWrongFalsely : Prop := shaBurstsRow.holds Try.pinned (OpenSpec.ofChange shaBurstsWrong)

/-- 'granarylaw05.ShaNil': WHATEVER THE INPUT: true; the input reads as it did. -/
def shaNilSpec : ChangeSpec := { name := "shaNil", fn := fun _ => fun
  | [d] => { results := [.lit (.bool true)], args := [d] }
  | _ => none }
def shaNilRow : OpenClaim := { program := "ytokfelhleojnjaa", sum := "553442da10c3cfaa3c38f2011a96493750486ecbbec9788b4256d79bf82ccf10", func := "granary/granarylaw05.ShaNil", spec := "shaNil", recurses := true, apart := false }
def ShaNilSaid : Prop := shaNilRow.holds Try.pinned (OpenSpec.ofChange shaNilSpec)

/-- ITS FALSE NEIGHBOUR: 'it returns false'. Refute it at one input. -/
def shaNilWrong : ChangeSpec := { name := "shaNil", fn := fun _ => fun
  | [d] => { results := [.lit (.bool false)], args := [d] }
  | _ => none }
def ShaNilWrongFalsely : Prop := shaNilRow.holds Try.pinned (OpenSpec.ofChange shaNilWrong)

/-- 'granarylaw05.ShaTrees': WHATEVER THE INPUT: true; the input reads as it did. -/
def shaTreesSpec : ChangeSpec := { name := "shaTrees", fn := fun _ => fun
  | [d1, d2, d3, d4, d5] => { results := [.lit (.bool true)], args := [d1, d2, d3, d4, d5] }
  | _ => none }
def shaTreesRow : OpenClaim := { program := "ytokfelhleojnjaa", sum := "553442da10c3cfaa3c38f2011a96493750486ecbbec9788b4256d79bf82ccf10", func := "granary/granarylaw05.ShaTrees", spec := "shaTrees", recurses := true, apart := false }
def ShaTreesSaid : Prop := shaTreesRow.holds Try.pinned (OpenSpec.ofChange shaTreesSpec)

/-- ITS FALSE NEIGHBOUR: 'it returns false'. Refute it at one input. -/
def shaTreesWrong : ChangeSpec := { name := "shaTrees", fn := fun _ => fun
  | [d1, d2, d3, d4, d5] => { results := [.lit (.bool false)], args := [d1, d2, d3, d4, d5] }
  | _ => none }
def ShaTreesWrongFalsely : Prop := shaTreesRow.holds Try.pinned (OpenSpec.ofChange shaTreesWrong)

/-- 'granarylaw05.ShaPieces': WHATEVER THE INPUT: true; the input reads as it did. -/
def shaPiecesSpec : ChangeSpec := { name := "shaPieces", fn := fun _ => fun
  | [d1, d2, d3, d4] => { results := [.lit (.bool true)], args := [d1, d2, d3, d4] }
  | _ => none }
def shaPiecesRow : OpenClaim := { program := "ytokfelhleojnjaa", sum := "553442da10c3cfaa3c38f2011a96493750486ecbbec9788b4256d79bf82ccf10", func := "granary/granarylaw05.ShaPieces", spec := "shaPieces", recurses := true, apart := false }
def ShaPiecesSaid : Prop := shaPiecesRow.holds Try.pinned (OpenSpec.ofChange shaPiecesSpec)

/-- ITS FALSE NEIGHBOUR: 'it returns false'. Refute it at one input. -/
def shaPiecesWrong : ChangeSpec := { name := "shaPieces", fn := fun _ => fun
  | [d1, d2, d3, d4] => { results := [.lit (.bool false)], args := [d1, d2, d3, d4] }
  | _ => none }
def ShaPiecesWrongFalsely : Prop := shaPiecesRow.holds Try.pinned (OpenSpec.ofChange shaPiecesWrong)

/- THE SECOND FORM. 'bulk': how many values and letters a reading holds, each counted each time it is reached (what is shared counts as often as it is met; a slice's spare places count too). A statement '..UptoSaid' is the law's where the arguments, and the package variables that the reading takes, are together of bulk at most 1048576: NARROWER than '..Said'. Prove '..Said' where nothing that the law and all that it calls make is longer than what came in: it says more and counts as full. Else prove '..UptoSaid'. A law counts once. -/
mutual
def uptoBulk {H : Type} : DataW H → Nat
  | .lit (.string bytes) => bytes.length + 1
  | .lit _ => 1
  | .nil => 1
  | .ptr d => uptoBulk d + 1
  | .slice elems spare => uptoBulkAll elems + uptoBulkAll spare + 1
  | .agg parts => uptoBulkAll parts + 1
  | .iface _ d => uptoBulk d + 1
  | .map entries => uptoBulkEntries entries + 1
  | .held _ => 1
def uptoBulkAll {H : Type} : List (DataW H) → Nat
  | [] => 0
  | d :: r => uptoBulk d + uptoBulkAll r
def uptoBulkEntries {H : Type} : List (Lit × DataW H) → Nat
  | [] => 0
  | x :: r => uptoBulkEntry x + uptoBulkEntries r
def uptoBulkEntry {H : Type} : Lit × DataW H → Nat
  | (.string bytes, d) => bytes.length + uptoBulk d + 1
  | (_, d) => uptoBulk d + 1
 end
def uptoSmall : (H : Type) → List (DataW H) → Bool := fun _ ds => decide (uptoBulkAll ds ≤ 1048576)
def OpenSpec.upto (s : _root_.Go.ChangeSpec) : _root_.Go.OpenSpec := { _root_.Go.OpenSpec.ofChange s with cond := some uptoSmall }

/-- 'granarylaw05.ShaSums', WHERE WHAT IT READS IS OF BULK AT MOST 1048576: true; the input reads as it did. -/
def shaSumsUptoRow : OpenClaim := { program := "ytokfelhleojnjaa", sum := "553442da10c3cfaa3c38f2011a96493750486ecbbec9788b4256d79bf82ccf10", func := "granary/granarylaw05.ShaSums", spec := "shaSums", recurses := true, apart := false, narrowed := true }
def ShaSumsUptoSaid : Prop := shaSumsUptoRow.holds Try.pinned (OpenSpec.upto shaSumsSpec)

/-- 'granarylaw05.ShaHex', WHERE WHAT IT READS IS OF BULK AT MOST 1048576: true; the input reads as it did. -/
def shaHexUptoRow : OpenClaim := { program := "ytokfelhleojnjaa", sum := "553442da10c3cfaa3c38f2011a96493750486ecbbec9788b4256d79bf82ccf10", func := "granary/granarylaw05.ShaHex", spec := "shaHex", recurses := true, apart := false, narrowed := true }
def ShaHexUptoSaid : Prop := shaHexUptoRow.holds Try.pinned (OpenSpec.upto shaHexSpec)

/-- 'granarylaw05.ShaBursts', WHERE WHAT IT READS IS OF BULK AT MOST 1048576: true; the input reads as it did. -/
def shaBurstsUptoRow : OpenClaim := { program := "ytokfelhleojnjaa", sum := "553442da10c3cfaa3c38f2011a96493750486ecbbec9788b4256d79bf82ccf10", func := "granary/granarylaw05.ShaBursts", spec := "shaBursts", recurses := true, apart := false, narrowed := true }
def ShaBurstsUptoSaid : Prop := shaBurstsUptoRow.holds Try.pinned (OpenSpec.upto shaBurstsSpec)

/-- 'granarylaw05.ShaNil', WHERE WHAT IT READS IS OF BULK AT MOST 1048576: true; the input reads as it did. -/
def shaNilUptoRow : OpenClaim := { program := "ytokfelhleojnjaa", sum := "553442da10c3cfaa3c38f2011a96493750486ecbbec9788b4256d79bf82ccf10", func := "granary/granarylaw05.ShaNil", spec := "shaNil", recurses := true, apart := false, narrowed := true }
def ShaNilUptoSaid : Prop := shaNilUptoRow.holds Try.pinned (OpenSpec.upto shaNilSpec)

/-- 'granarylaw05.ShaTrees', WHERE WHAT IT READS IS OF BULK AT MOST 1048576: true; the input reads as it did. -/
def shaTreesUptoRow : OpenClaim := { program := "ytokfelhleojnjaa", sum := "553442da10c3cfaa3c38f2011a96493750486ecbbec9788b4256d79bf82ccf10", func := "granary/granarylaw05.ShaTrees", spec := "shaTrees", recurses := true, apart := false, narrowed := true }
def ShaTreesUptoSaid : Prop := shaTreesUptoRow.holds Try.pinned (OpenSpec.upto shaTreesSpec)

/-- 'granarylaw05.ShaPieces', WHERE WHAT IT READS IS OF BULK AT MOST 1048576: true; the input reads as it did. -/
def shaPiecesUptoRow : OpenClaim := { program := "ytokfelhleojnjaa", sum := "553442da10c3cfaa3c38f2011a96493750486ecbbec9788b4256d79bf82ccf10", func := "granary/granarylaw05.ShaPieces", spec := "shaPieces", recurses := true, apart := false, narrowed := true }
def ShaPiecesUptoSaid : Prop := shaPiecesUptoRow.holds Try.pinned (OpenSpec.upto shaPiecesSpec)

end Rows
end Go.Proofs.Ytokfelhleojnjaa
