/-
  No cell of these rows narrows 'for every input' (looked for: loops, veiled, ifaces, maps, wideKeys, modest, calm, conditions, laid).
  DERIVED. THE GIVEN ROWS OF THIS SEAT. 9 by the template 'for every input the law returns true; each argument reads behind the call as it read before'; 0 by the template 'total and deterministic' (their statements: YtmkpcnmjhmdndaaTotals.lean).
  GIVEN WITH THE SEED: the statements are not yours to turn. If you find one false, say at which input.
  Laid BY PROGRAM, IN A SANDBOX (cutbox-rows.mjs): the forced cells as the released guide's own fill.sh prints them over the translation c797da0dd9ad42dc… (all of the seat's roots in one cut). By AI agents, Wed Nov 11 2026. No macro, syntax, notation, axiom, sorry.
-/
import Derived.Test.YtmkpcnmjhmdndaaChecked
import GoSem.Claim
import GoSem.ClaimJoined
import GoSem.ClaimMapViews
import Derived.JoinedTies
import Derived.KernelRfl
namespace Go.Proofs.Ytmkpcnmjhmdndaa
/- THE CELL 'sum', in the pinned program and in every row, IS THE sha256 OF THE DUMP (.gsa) THAT YtmkpcnmjhmdndaaProg.lean LOADS. Nothing in Lean hashes anything: it is a label: what it is worth is what the hold of that sum in a sandbox is worth. -/
noncomputable def Try.pinned : Pinned := { name := "ytmkpcnmjhmdndaa", sum := "c797da0dd9ad42dcd3e3af887d82920c8ac276dcfa5e136c58d9efd8aa1d8323", checked := Try.checked }
namespace Rows
def none {H : Type} : Left H := { results := [], args := [] }

/-- 'granarylaw02.GfField': WHATEVER THE INPUT: true; the input reads as it did. -/
def gfFieldSpec : ChangeSpec := { name := "gfField", fn := fun _ => fun
  | [d1, d2, d3] => { results := [.lit (.bool true)], args := [d1, d2, d3] }
  | _ => none }
def gfFieldRow : OpenClaim := { program := "ytmkpcnmjhmdndaa", sum := "c797da0dd9ad42dcd3e3af887d82920c8ac276dcfa5e136c58d9efd8aa1d8323", func := "granary/granarylaw02.GfField", spec := "gfField", apart := false }
def GfFieldSaid : Prop := gfFieldRow.holds Try.pinned (OpenSpec.ofChange gfFieldSpec)

/-- ITS FALSE NEIGHBOUR: 'it returns false'. Refute it at one input. -/
def gfFieldWrong : ChangeSpec := { name := "gfField", fn := fun _ => fun
  | [d1, d2, d3] => { results := [.lit (.bool false)], args := [d1, d2, d3] }
  | _ => none }
def GfFieldWrongFalsely : Prop := gfFieldRow.holds Try.pinned (OpenSpec.ofChange gfFieldWrong)

/-- 'granarylaw02.GfMakes': WHATEVER THE INPUT: true; the input reads as it did. -/
def gfMakesSpec : ChangeSpec := { name := "gfMakes", fn := fun _ => fun
  | [d1, d2] => { results := [.lit (.bool true)], args := [d1, d2] }
  | _ => none }
def gfMakesRow : OpenClaim := { program := "ytmkpcnmjhmdndaa", sum := "c797da0dd9ad42dcd3e3af887d82920c8ac276dcfa5e136c58d9efd8aa1d8323", func := "granary/granarylaw02.GfMakes", spec := "gfMakes", apart := false }
def GfMakesSaid : Prop := gfMakesRow.holds Try.pinned (OpenSpec.ofChange gfMakesSpec)

/-- ITS FALSE NEIGHBOUR: 'it returns false'. Refute it at one input. -/
def gfMakesWrong : ChangeSpec := { name := "gfMakes", fn := fun _ => fun
  | [d1, d2] => { results := [.lit (.bool false)], args := [d1, d2] }
  | _ => none }
def GfMakesWrongFalsely : Prop := gfMakesRow.holds Try.pinned (OpenSpec.ofChange gfMakesWrong)

/-- 'granarylaw02.GfElements': WHATEVER THE INPUT: true; the input reads as it did. -/
def gfElementsSpec : ChangeSpec := { name := "gfElements", fn := fun _ => fun
  | [d1, d2, d3] => { results := [.lit (.bool true)], args := [d1, d2, d3] }
  | _ => none }
def gfElementsRow : OpenClaim := { program := "ytmkpcnmjhmdndaa", sum := "c797da0dd9ad42dcd3e3af887d82920c8ac276dcfa5e136c58d9efd8aa1d8323", func := "granary/granarylaw02.GfElements", spec := "gfElements", apart := false }
def GfElementsSaid : Prop := gfElementsRow.holds Try.pinned (OpenSpec.ofChange gfElementsSpec)

/-- ITS FALSE NEIGHBOUR: 'it returns false'. Refute it at one input. -/
def gfElementsWrong : ChangeSpec := { name := "gfElements", fn := fun _ => fun
  | [d1, d2, d3] => { results := [.lit (.bool false)], args := [d1, d2, d3] }
  | _ => none }
def GfElementsWrongFalsely : Prop := gfElementsRow.holds Try.pinned (OpenSpec.ofChange gfElementsWrong)

/-- 'granarylaw02.GfPowers': WHATEVER THE INPUT: true; the input reads as it did. -/
def gfPowersSpec : ChangeSpec := { name := "gfPowers", fn := fun _ => fun
  | [d] => { results := [.lit (.bool true)], args := [d] }
  | _ => none }
def gfPowersRow : OpenClaim := { program := "ytmkpcnmjhmdndaa", sum := "c797da0dd9ad42dcd3e3af887d82920c8ac276dcfa5e136c58d9efd8aa1d8323", func := "granary/granarylaw02.GfPowers", spec := "gfPowers", apart := false }
def GfPowersSaid : Prop := gfPowersRow.holds Try.pinned (OpenSpec.ofChange gfPowersSpec)

/-- ITS FALSE NEIGHBOUR: 'it returns false'. Refute it at one input. -/
def gfPowersWrong : ChangeSpec := { name := "gfPowers", fn := fun _ => fun
  | [d] => { results := [.lit (.bool false)], args := [d] }
  | _ => none }
def GfPowersWrongFalsely : Prop := gfPowersRow.holds Try.pinned (OpenSpec.ofChange gfPowersWrong)

/-- 'granarylaw02.GfInverses': WHATEVER THE INPUT: true; the input reads as it did. -/
def gfInversesSpec : ChangeSpec := { name := "gfInverses", fn := fun _ => fun
  | [d1, d2] => { results := [.lit (.bool true)], args := [d1, d2] }
  | _ => none }
def gfInversesRow : OpenClaim := { program := "ytmkpcnmjhmdndaa", sum := "c797da0dd9ad42dcd3e3af887d82920c8ac276dcfa5e136c58d9efd8aa1d8323", func := "granary/granarylaw02.GfInverses", spec := "gfInverses", apart := false }
def GfInversesSaid : Prop := gfInversesRow.holds Try.pinned (OpenSpec.ofChange gfInversesSpec)

/-- ITS FALSE NEIGHBOUR: 'it returns false'. Refute it at one input. -/
def gfInversesWrong : ChangeSpec := { name := "gfInverses", fn := fun _ => fun
  | [d1, d2] => { results := [.lit (.bool false)], args := [d1, d2] }
  | _ => none }
def GfInversesWrongFalsely : Prop := gfInversesRow.holds Try.pinned (OpenSpec.ofChange gfInversesWrong)

/-- 'granarylaw02.GfThrough': WHATEVER THE INPUT: true; the input reads as it did. -/
def gfThroughSpec : ChangeSpec := { name := "gfThrough", fn := fun _ => fun
  | [d1, d2, d3] => { results := [.lit (.bool true)], args := [d1, d2, d3] }
  | _ => none }
def gfThroughRow : OpenClaim := { program := "ytmkpcnmjhmdndaa", sum := "c797da0dd9ad42dcd3e3af887d82920c8ac276dcfa5e136c58d9efd8aa1d8323", func := "granary/granarylaw02.GfThrough", spec := "gfThrough", unfollowed := true, recurses := true, apart := false }
def GfThroughSaid : Prop := gfThroughRow.holds Try.pinned (OpenSpec.ofChange gfThroughSpec)

/-- ITS FALSE NEIGHBOUR: 'it returns false'. Refute it at one input. -/
def gfThroughWrong : ChangeSpec := { name := "gfThrough", fn := fun _ => fun
  | [d1, d2, d3] => { results := [.lit (.bool false)], args := [d1, d2, d3] }
  | _ => none }
def GfThroughWrongFalsely : Prop := gfThroughRow.holds Try.pinned (OpenSpec.ofChange gfThroughWrong)

/-- 'granarylaw02.GfVandermonde': WHATEVER THE INPUT: true; the input reads as it did. -/
def gfVandermondeSpec : ChangeSpec := { name := "gfVandermonde", fn := fun _ => fun
  | [d] => { results := [.lit (.bool true)], args := [d] }
  | _ => none }
def gfVandermondeRow : OpenClaim := { program := "ytmkpcnmjhmdndaa", sum := "c797da0dd9ad42dcd3e3af887d82920c8ac276dcfa5e136c58d9efd8aa1d8323", func := "granary/granarylaw02.GfVandermonde", spec := "gfVandermonde", apart := false }
def GfVandermondeSaid : Prop := gfVandermondeRow.holds Try.pinned (OpenSpec.ofChange gfVandermondeSpec)

/-- ITS FALSE NEIGHBOUR: 'it returns false'. Refute it at one input. -/
def gfVandermondeWrong : ChangeSpec := { name := "gfVandermonde", fn := fun _ => fun
  | [d] => { results := [.lit (.bool false)], args := [d] }
  | _ => none }
def GfVandermondeWrongFalsely : Prop := gfVandermondeRow.holds Try.pinned (OpenSpec.ofChange gfVandermondeWrong)

/-- 'granarylaw02.GfVectors': WHATEVER THE INPUT: true; the input reads as it did. -/
def gfVectorsSpec : ChangeSpec := { name := "gfVectors", fn := fun _ => fun
  | [d1, d2, d3] => { results := [.lit (.bool true)], args := [d1, d2, d3] }
  | _ => none }
def gfVectorsRow : OpenClaim := { program := "ytmkpcnmjhmdndaa", sum := "c797da0dd9ad42dcd3e3af887d82920c8ac276dcfa5e136c58d9efd8aa1d8323", func := "granary/granarylaw02.GfVectors", spec := "gfVectors", unfollowed := true, recurses := true, apart := false }
def GfVectorsSaid : Prop := gfVectorsRow.holds Try.pinned (OpenSpec.ofChange gfVectorsSpec)

/-- ITS FALSE NEIGHBOUR: 'it returns false'. Refute it at one input. -/
def gfVectorsWrong : ChangeSpec := { name := "gfVectors", fn := fun _ => fun
  | [d1, d2, d3] => { results := [.lit (.bool false)], args := [d1, d2, d3] }
  | _ => none }
def GfVectorsWrongFalsely : Prop := gfVectorsRow.holds Try.pinned (OpenSpec.ofChange gfVectorsWrong)

/-- 'granarylaw02.GfMatrices': WHATEVER THE INPUT: true; the input reads as it did. -/
def gfMatricesSpec : ChangeSpec := { name := "gfMatrices", fn := fun _ => fun
  | [d] => { results := [.lit (.bool true)], args := [d] }
  | _ => none }
def gfMatricesRow : OpenClaim := { program := "ytmkpcnmjhmdndaa", sum := "c797da0dd9ad42dcd3e3af887d82920c8ac276dcfa5e136c58d9efd8aa1d8323", func := "granary/granarylaw02.GfMatrices", spec := "gfMatrices", apart := false }
def GfMatricesSaid : Prop := gfMatricesRow.holds Try.pinned (OpenSpec.ofChange gfMatricesSpec)

/-- ITS FALSE NEIGHBOUR: 'it returns false'. Refute it at one input. -/
def gfMatricesWrong : ChangeSpec := { name := "gfMatrices", fn := fun _ => fun
  | [d] => { results := [.lit (.bool false)], args := [d] }
  | _ => none }
def GfMatricesWrongFalsely : Prop := gfMatricesRow.holds Try.pinned (OpenSpec.ofChange gfMatricesWrong)

/- THE SECOND FORM. 'bulk': how many values and letters a reading holds, each counted each time it is reached (what is shared counts as often as it is met; a slice's spare places count too). A statement '..UptoSaid' is the law's where the arguments, and the package variables that the reading takes, are together of bulk at most 1048576: NARROWER than '..Said'. Prove '..Said' where nothing that the law and all that it calls make is longer than what came in: it says more and counts as full. Else prove '..UptoSaid'. A law counts once. -/
mutual
def uptoBulk {H : Type} : DataW H → Nat
  | .lit (.string bytes) => bytes.length + 1
  | .lit _ => 1
  | .nil => 1
  | .ptr d => uptoBulk d + 1
  | .slice elems spare => uptoBulkAll elems + uptoBulkAll spare + 1
  | .agg parts => uptoBulkAll parts + 1
  | .iface _ d => uptoBulk d + 1
  | .map entries => uptoBulkEntries entries + 1
  | .held _ => 1
def uptoBulkAll {H : Type} : List (DataW H) → Nat
  | [] => 0
  | d :: r => uptoBulk d + uptoBulkAll r
def uptoBulkEntries {H : Type} : List (Lit × DataW H) → Nat
  | [] => 0
  | x :: r => uptoBulkEntry x + uptoBulkEntries r
def uptoBulkEntry {H : Type} : Lit × DataW H → Nat
  | (.string bytes, d) => bytes.length + uptoBulk d + 1
  | (_, d) => uptoBulk d + 1
 end
def uptoSmall : (H : Type) → List (DataW H) → Bool := fun _ ds => decide (uptoBulkAll ds ≤ 1048576)
def OpenSpec.upto (s : _root_.Go.ChangeSpec) : _root_.Go.OpenSpec := { _root_.Go.OpenSpec.ofChange s with cond := some uptoSmall }

/-- 'granarylaw02.GfField', WHERE WHAT IT READS IS OF BULK AT MOST 1048576: true; the input reads as it did. -/
def gfFieldUptoRow : OpenClaim := { program := "ytmkpcnmjhmdndaa", sum := "c797da0dd9ad42dcd3e3af887d82920c8ac276dcfa5e136c58d9efd8aa1d8323", func := "granary/granarylaw02.GfField", spec := "gfField", apart := false, narrowed := true }
def GfFieldUptoSaid : Prop := gfFieldUptoRow.holds Try.pinned (OpenSpec.upto gfFieldSpec)

/-- 'granarylaw02.GfMakes', WHERE WHAT IT READS IS OF BULK AT MOST 1048576: true; the input reads as it did. -/
def gfMakesUptoRow : OpenClaim := { program := "ytmkpcnmjhmdndaa", sum := "c797da0dd9ad42dcd3e3af887d82920c8ac276dcfa5e136c58d9efd8aa1d8323", func := "granary/granarylaw02.GfMakes", spec := "gfMakes", apart := false, narrowed := true }
def GfMakesUptoSaid : Prop := gfMakesUptoRow.holds Try.pinned (OpenSpec.upto gfMakesSpec)

/-- 'granarylaw02.GfElements', WHERE WHAT IT READS IS OF BULK AT MOST 1048576: true; the input reads as it did. -/
def gfElementsUptoRow : OpenClaim := { program := "ytmkpcnmjhmdndaa", sum := "c797da0dd9ad42dcd3e3af887d82920c8ac276dcfa5e136c58d9efd8aa1d8323", func := "granary/granarylaw02.GfElements", spec := "gfElements", apart := false, narrowed := true }
def GfElementsUptoSaid : Prop := gfElementsUptoRow.holds Try.pinned (OpenSpec.upto gfElementsSpec)

/-- 'granarylaw02.GfPowers', WHERE WHAT IT READS IS OF BULK AT MOST 1048576: true; the input reads as it did. -/
def gfPowersUptoRow : OpenClaim := { program := "ytmkpcnmjhmdndaa", sum := "c797da0dd9ad42dcd3e3af887d82920c8ac276dcfa5e136c58d9efd8aa1d8323", func := "granary/granarylaw02.GfPowers", spec := "gfPowers", apart := false, narrowed := true }
def GfPowersUptoSaid : Prop := gfPowersUptoRow.holds Try.pinned (OpenSpec.upto gfPowersSpec)

/-- 'granarylaw02.GfInverses', WHERE WHAT IT READS IS OF BULK AT MOST 1048576: true; the input reads as it did. -/
def gfInversesUptoRow : OpenClaim := { program := "ytmkpcnmjhmdndaa", sum := "c797da0dd9ad42dcd3e3af887d82920c8ac276dcfa5e136c58d9efd8aa1d8323", func := "granary/granarylaw02.GfInverses", spec := "gfInverses", apart := false, narrowed := true }
def GfInversesUptoSaid : Prop := gfInversesUptoRow.holds Try.pinned (OpenSpec.upto gfInversesSpec)

/-- 'granarylaw02.GfThrough', WHERE WHAT IT READS IS OF BULK AT MOST 1048576: true; the input reads as it did. -/
def gfThroughUptoRow : OpenClaim := { program := "ytmkpcnmjhmdndaa", sum := "c797da0dd9ad42dcd3e3af887d82920c8ac276dcfa5e136c58d9efd8aa1d8323", func := "granary/granarylaw02.GfThrough", spec := "gfThrough", unfollowed := true, recurses := true, apart := false, narrowed := true }
def GfThroughUptoSaid : Prop := gfThroughUptoRow.holds Try.pinned (OpenSpec.upto gfThroughSpec)

/-- 'granarylaw02.GfVandermonde', WHERE WHAT IT READS IS OF BULK AT MOST 1048576: true; the input reads as it did. -/
def gfVandermondeUptoRow : OpenClaim := { program := "ytmkpcnmjhmdndaa", sum := "c797da0dd9ad42dcd3e3af887d82920c8ac276dcfa5e136c58d9efd8aa1d8323", func := "granary/granarylaw02.GfVandermonde", spec := "gfVandermonde", apart := false, narrowed := true }
def GfVandermondeUptoSaid : Prop := gfVandermondeUptoRow.holds Try.pinned (OpenSpec.upto gfVandermondeSpec)

/-- 'granarylaw02.GfVectors', WHERE WHAT IT READS IS OF BULK AT MOST 1048576: true; the input reads as it did. -/
def gfVectorsUptoRow : OpenClaim := { program := "ytmkpcnmjhmdndaa", sum := "c797da0dd9ad42dcd3e3af887d82920c8ac276dcfa5e136c58d9efd8aa1d8323", func := "granary/granarylaw02.GfVectors", spec := "gfVectors", unfollowed := true, recurses := true, apart := false, narrowed := true }
def GfVectorsUptoSaid : Prop := gfVectorsUptoRow.holds Try.pinned (OpenSpec.upto gfVectorsSpec)

/-- 'granarylaw02.GfMatrices', WHERE WHAT IT READS IS OF BULK AT MOST 1048576: true; the input reads as it did. -/
def gfMatricesUptoRow : OpenClaim := { program := "ytmkpcnmjhmdndaa", sum := "c797da0dd9ad42dcd3e3af887d82920c8ac276dcfa5e136c58d9efd8aa1d8323", func := "granary/granarylaw02.GfMatrices", spec := "gfMatrices", apart := false, narrowed := true }
def GfMatricesUptoSaid : Prop := gfMatricesUptoRow.holds Try.pinned (OpenSpec.upto gfMatricesSpec)

end Rows
end Go.Proofs.Ytmkpcnmjhmdndaa
