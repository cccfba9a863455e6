/-
  No cell of these rows narrows 'for every input' (looked for: loops, veiled, ifaces, maps, wideKeys, modest, calm, conditions, laid).
  DERIVED. THE GIVEN ROWS OF THIS SEAT. 8 by the template 'for every input the law returns true; each argument reads behind the call as it read before'; 0 by the template 'total and deterministic' (their statements: YtcehhkdpdehjhaaTotals.lean).
  GIVEN WITH THE SEED: the statements are not yours to turn. If you find one false, say at which input.
  Laid BY PROGRAM, IN A SANDBOX (cutbox-rows.mjs): the forced cells as the released guide's own fill.sh prints them over the translation 564d76d69ccc1185… (all of the seat's roots in one cut). By AI agents, Wed Nov 11 2026. No macro, syntax, notation, axiom, sorry.
-/
import Derived.Test.YtcehhkdpdehjhaaChecked
import GoSem.Claim
import GoSem.ClaimJoined
import GoSem.ClaimMapViews
import Derived.JoinedTies
import Derived.KernelRfl
namespace Go.Proofs.Ytcehhkdpdehjhaa
/- THE CELL 'sum', in the pinned program and in every row, IS THE sha256 OF THE DUMP (.gsa) THAT YtcehhkdpdehjhaaProg.lean LOADS. Nothing in Lean hashes anything: it is a label: what it is worth is what the hold of that sum in a sandbox is worth. -/
noncomputable def Try.pinned : Pinned := { name := "ytcehhkdpdehjhaa", sum := "564d76d69ccc1185716963a4a5310a195b9f7b9b02e1986331aca9a41e39ab1c", checked := Try.checked }
namespace Rows
def none {H : Type} : Left H := { results := [], args := [] }

/-- 'granarylaw12.InodeBytes': WHATEVER THE INPUT: true; the input reads as it did. -/
def inodeBytesSpec : ChangeSpec := { name := "inodeBytes", fn := fun _ => fun
  | [d1, d2] => { results := [.lit (.bool true)], args := [d1, d2] }
  | _ => none }
def inodeBytesRow : OpenClaim := { program := "ytcehhkdpdehjhaa", sum := "564d76d69ccc1185716963a4a5310a195b9f7b9b02e1986331aca9a41e39ab1c", func := "granary/granarylaw12.InodeBytes", spec := "inodeBytes", unfollowed := true, recurses := true, apart := false }
def InodeBytesSaid : Prop := inodeBytesRow.holds Try.pinned (OpenSpec.ofChange inodeBytesSpec)

/-- ITS FALSE NEIGHBOUR: 'it returns false'. Refute it at one input. -/
def inodeBytesWrong : ChangeSpec := { name := "inodeBytes", fn := fun _ => fun
  | [d1, d2] => { results := [.lit (.bool false)], args := [d1, d2] }
  | _ => none }
def InodeBytesWrongFalsely : Prop := inodeBytesRow.holds Try.pinned (OpenSpec.ofChange inodeBytesWrong)

/-- 'granarylaw12.InodeApplies': WHATEVER THE INPUT: true; the input reads as it did. -/
def inodeAppliesSpec : ChangeSpec := { name := "inodeApplies", fn := fun _ => fun
  | [d1, d2, d3] => { results := [.lit (.bool true)], args := [d1, d2, d3] }
  | _ => none }
def inodeAppliesRow : OpenClaim := { program := "ytcehhkdpdehjhaa", sum := "564d76d69ccc1185716963a4a5310a195b9f7b9b02e1986331aca9a41e39ab1c", func := "granary/granarylaw12.InodeApplies", spec := "inodeApplies", unfollowed := true, recurses := true, apart := false }
def InodeAppliesSaid : Prop := inodeAppliesRow.holds Try.pinned (OpenSpec.ofChange inodeAppliesSpec)

/-- ITS FALSE NEIGHBOUR: 'it returns false'. Refute it at one input. -/
def inodeAppliesWrong : ChangeSpec := { name := "inodeApplies", fn := fun _ => fun
  | [d1, d2, d3] => { results := [.lit (.bool false)], args := [d1, d2, d3] }
  | _ => none }
def InodeAppliesWrongFalsely : Prop := inodeAppliesRow.holds Try.pinned (OpenSpec.ofChange inodeAppliesWrong)

/-- 'granarylaw12.InodeAccess': WHATEVER THE INPUT: true; the input reads as it did. -/
def inodeAccessSpec : ChangeSpec := { name := "inodeAccess", fn := fun _ => fun
  | [d] => { results := [.lit (.bool true)], args := [d] }
  | _ => none }
def inodeAccessRow : OpenClaim := { program := "ytcehhkdpdehjhaa", sum := "564d76d69ccc1185716963a4a5310a195b9f7b9b02e1986331aca9a41e39ab1c", func := "granary/granarylaw12.InodeAccess", spec := "inodeAccess", unfollowed := true, recurses := true, apart := false }
def InodeAccessSaid : Prop := inodeAccessRow.holds Try.pinned (OpenSpec.ofChange inodeAccessSpec)

/-- ITS FALSE NEIGHBOUR: 'it returns false'. Refute it at one input. -/
def inodeAccessWrong : ChangeSpec := { name := "inodeAccess", fn := fun _ => fun
  | [d] => { results := [.lit (.bool false)], args := [d] }
  | _ => none }
def InodeAccessWrongFalsely : Prop := inodeAccessRow.holds Try.pinned (OpenSpec.ofChange inodeAccessWrong)

/-- 'granarylaw12.InodeHandles': WHATEVER THE INPUT: true; the input reads as it did. -/
def inodeHandlesSpec : ChangeSpec := { name := "inodeHandles", fn := fun _ => fun
  | [d1, d2] => { results := [.lit (.bool true)], args := [d1, d2] }
  | _ => none }
def inodeHandlesRow : OpenClaim := { program := "ytcehhkdpdehjhaa", sum := "564d76d69ccc1185716963a4a5310a195b9f7b9b02e1986331aca9a41e39ab1c", func := "granary/granarylaw12.InodeHandles", spec := "inodeHandles", unfollowed := true, recurses := true, apart := false }
def InodeHandlesSaid : Prop := inodeHandlesRow.holds Try.pinned (OpenSpec.ofChange inodeHandlesSpec)

/-- ITS FALSE NEIGHBOUR: 'it returns false'. Refute it at one input. -/
def inodeHandlesWrong : ChangeSpec := { name := "inodeHandles", fn := fun _ => fun
  | [d1, d2] => { results := [.lit (.bool false)], args := [d1, d2] }
  | _ => none }
def InodeHandlesWrongFalsely : Prop := inodeHandlesRow.holds Try.pinned (OpenSpec.ofChange inodeHandlesWrong)

/-- 'granarylaw12.InodeBack': WHATEVER THE INPUT: true; the input reads as it did. -/
def inodeBackSpec : ChangeSpec := { name := "inodeBack", fn := fun _ => fun
  | [d1, d2, d3] => { results := [.lit (.bool true)], args := [d1, d2, d3] }
  | _ => none }
def inodeBackRow : OpenClaim := { program := "ytcehhkdpdehjhaa", sum := "564d76d69ccc1185716963a4a5310a195b9f7b9b02e1986331aca9a41e39ab1c", func := "granary/granarylaw12.InodeBack", spec := "inodeBack", unfollowed := true, recurses := true, apart := false }
def InodeBackSaid : Prop := inodeBackRow.holds Try.pinned (OpenSpec.ofChange inodeBackSpec)

/-- ITS FALSE NEIGHBOUR: 'it returns false'. Refute it at one input. -/
def inodeBackWrong : ChangeSpec := { name := "inodeBack", fn := fun _ => fun
  | [d1, d2, d3] => { results := [.lit (.bool false)], args := [d1, d2, d3] }
  | _ => none }
def InodeBackWrongFalsely : Prop := inodeBackRow.holds Try.pinned (OpenSpec.ofChange inodeBackWrong)

/-- 'granarylaw12.InodeNew': WHATEVER THE INPUT: true; the input reads as it did. -/
def inodeNewSpec : ChangeSpec := { name := "inodeNew", fn := fun _ => fun
  | [d1, d2, d3] => { results := [.lit (.bool true)], args := [d1, d2, d3] }
  | _ => none }
def inodeNewRow : OpenClaim := { program := "ytcehhkdpdehjhaa", sum := "564d76d69ccc1185716963a4a5310a195b9f7b9b02e1986331aca9a41e39ab1c", func := "granary/granarylaw12.InodeNew", spec := "inodeNew", unfollowed := true, recurses := true, apart := false }
def InodeNewSaid : Prop := inodeNewRow.holds Try.pinned (OpenSpec.ofChange inodeNewSpec)

/-- ITS FALSE NEIGHBOUR: 'it returns false'. Refute it at one input. -/
def inodeNewWrong : ChangeSpec := { name := "inodeNew", fn := fun _ => fun
  | [d1, d2, d3] => { results := [.lit (.bool false)], args := [d1, d2, d3] }
  | _ => none }
def InodeNewWrongFalsely : Prop := inodeNewRow.holds Try.pinned (OpenSpec.ofChange inodeNewWrong)

/-- 'granarylaw12.InodeChanges': WHATEVER THE INPUT: true; the input reads as it did. -/
def inodeChangesSpec : ChangeSpec := { name := "inodeChanges", fn := fun _ => fun
  | [d] => { results := [.lit (.bool true)], args := [d] }
  | _ => none }
def inodeChangesRow : OpenClaim := { program := "ytcehhkdpdehjhaa", sum := "564d76d69ccc1185716963a4a5310a195b9f7b9b02e1986331aca9a41e39ab1c", func := "granary/granarylaw12.InodeChanges", spec := "inodeChanges", unfollowed := true, recurses := true, apart := false }
def InodeChangesSaid : Prop := inodeChangesRow.holds Try.pinned (OpenSpec.ofChange inodeChangesSpec)

/-- ITS FALSE NEIGHBOUR: 'it returns false'. Refute it at one input. -/
def inodeChangesWrong : ChangeSpec := { name := "inodeChanges", fn := fun _ => fun
  | [d] => { results := [.lit (.bool false)], args := [d] }
  | _ => none }
def InodeChangesWrongFalsely : Prop := inodeChangesRow.holds Try.pinned (OpenSpec.ofChange inodeChangesWrong)

/-- 'granarylaw12.InodeKeeps': WHATEVER THE INPUT: true; the input reads as it did. -/
def inodeKeepsSpec : ChangeSpec := { name := "inodeKeeps", fn := fun _ => fun
  | [d1, d2] => { results := [.lit (.bool true)], args := [d1, d2] }
  | _ => none }
def inodeKeepsRow : OpenClaim := { program := "ytcehhkdpdehjhaa", sum := "564d76d69ccc1185716963a4a5310a195b9f7b9b02e1986331aca9a41e39ab1c", func := "granary/granarylaw12.InodeKeeps", spec := "inodeKeeps", unfollowed := true, recurses := true, apart := false }
def InodeKeepsSaid : Prop := inodeKeepsRow.holds Try.pinned (OpenSpec.ofChange inodeKeepsSpec)

/-- ITS FALSE NEIGHBOUR: 'it returns false'. Refute it at one input. -/
def inodeKeepsWrong : ChangeSpec := { name := "inodeKeeps", fn := fun _ => fun
  | [d1, d2] => { results := [.lit (.bool false)], args := [d1, d2] }
  | _ => none }
def InodeKeepsWrongFalsely : Prop := inodeKeepsRow.holds Try.pinned (OpenSpec.ofChange inodeKeepsWrong)

/- THE SECOND FORM. 'bulk': how many values and letters a reading holds, each counted each time it is reached (what is shared counts as often as it is met; a slice's spare places count too). A statement '..UptoSaid' is the law's where the arguments, and the package variables that the reading takes, are together of bulk at most 1048576: NARROWER than '..Said'. Prove '..Said' where nothing that the law and all that it calls make is longer than what came in: it says more and counts as full. Else prove '..UptoSaid'. A law counts once. -/
mutual
def uptoBulk {H : Type} : DataW H → Nat
  | .lit (.string bytes) => bytes.length + 1
  | .lit _ => 1
  | .nil => 1
  | .ptr d => uptoBulk d + 1
  | .slice elems spare => uptoBulkAll elems + uptoBulkAll spare + 1
  | .agg parts => uptoBulkAll parts + 1
  | .iface _ d => uptoBulk d + 1
  | .map entries => uptoBulkEntries entries + 1
  | .held _ => 1
def uptoBulkAll {H : Type} : List (DataW H) → Nat
  | [] => 0
  | d :: r => uptoBulk d + uptoBulkAll r
def uptoBulkEntries {H : Type} : List (Lit × DataW H) → Nat
  | [] => 0
  | x :: r => uptoBulkEntry x + uptoBulkEntries r
def uptoBulkEntry {H : Type} : Lit × DataW H → Nat
  | (.string bytes, d) => bytes.length + uptoBulk d + 1
  | (_, d) => uptoBulk d + 1
 end
def uptoSmall : (H : Type) → List (DataW H) → Bool := fun _ ds => decide (uptoBulkAll ds ≤ 1048576)
def OpenSpec.upto (s : _root_.Go.ChangeSpec) : _root_.Go.OpenSpec := { _root_.Go.OpenSpec.ofChange s with cond := some uptoSmall }

/-- 'granarylaw12.InodeBytes', WHERE WHAT IT READS IS OF BULK AT MOST 1048576: true; the input reads as it did. -/
def inodeBytesUptoRow : OpenClaim := { program := "ytcehhkdpdehjhaa", sum := "564d76d69ccc1185716963a4a5310a195b9f7b9b02e1986331aca9a41e39ab1c", func := "granary/granarylaw12.InodeBytes", spec := "inodeBytes", unfollowed := true, recurses := true, apart := false, narrowed := true }
def InodeBytesUptoSaid : Prop := inodeBytesUptoRow.holds Try.pinned (OpenSpec.upto inodeBytesSpec)

/-- 'granarylaw12.InodeApplies', WHERE WHAT IT READS IS OF BULK AT MOST 1048576: true; the input reads as it did. -/
def inodeAppliesUptoRow : OpenClaim := { program := "ytcehhkdpdehjhaa", sum := "564d76d69ccc1185716963a4a5310a195b9f7b9b02e1986331aca9a41e39ab1c", func := "granary/granarylaw12.InodeApplies", spec := "inodeApplies", unfollowed := true, recurses := true, apart := false, narrowed := true }
def InodeAppliesUptoSaid : Prop := inodeAppliesUptoRow.holds Try.pinned (OpenSpec.upto inodeAppliesSpec)

/-- 'granarylaw12.InodeAccess', WHERE WHAT IT READS IS OF BULK AT MOST 1048576: true; the input reads as it did. -/
def inodeAccessUptoRow : OpenClaim := { program := "ytcehhkdpdehjhaa", sum := "564d76d69ccc1185716963a4a5310a195b9f7b9b02e1986331aca9a41e39ab1c", func := "granary/granarylaw12.InodeAccess", spec := "inodeAccess", unfollowed := true, recurses := true, apart := false, narrowed := true }
def InodeAccessUptoSaid : Prop := inodeAccessUptoRow.holds Try.pinned (OpenSpec.upto inodeAccessSpec)

/-- 'granarylaw12.InodeHandles', WHERE WHAT IT READS IS OF BULK AT MOST 1048576: true; the input reads as it did. -/
def inodeHandlesUptoRow : OpenClaim := { program := "ytcehhkdpdehjhaa", sum := "564d76d69ccc1185716963a4a5310a195b9f7b9b02e1986331aca9a41e39ab1c", func := "granary/granarylaw12.InodeHandles", spec := "inodeHandles", unfollowed := true, recurses := true, apart := false, narrowed := true }
def InodeHandlesUptoSaid : Prop := inodeHandlesUptoRow.holds Try.pinned (OpenSpec.upto inodeHandlesSpec)

/-- 'granarylaw12.InodeBack', WHERE WHAT IT READS IS OF BULK AT MOST 1048576: true; the input reads as it did. -/
def inodeBackUptoRow : OpenClaim := { program := "ytcehhkdpdehjhaa", sum := "564d76d69ccc1185716963a4a5310a195b9f7b9b02e1986331aca9a41e39ab1c", func := "granary/granarylaw12.InodeBack", spec := "inodeBack", unfollowed := true, recurses := true, apart := false, narrowed := true }
def InodeBackUptoSaid : Prop := inodeBackUptoRow.holds Try.pinned (OpenSpec.upto inodeBackSpec)

/-- 'granarylaw12.InodeNew', WHERE WHAT IT READS IS OF BULK AT MOST 1048576: true; the input reads as it did. -/
def inodeNewUptoRow : OpenClaim := { program := "ytcehhkdpdehjhaa", sum := "564d76d69ccc1185716963a4a5310a195b9f7b9b02e1986331aca9a41e39ab1c", func := "granary/granarylaw12.InodeNew", spec := "inodeNew", unfollowed := true, recurses := true, apart := false, narrowed := true }
def InodeNewUptoSaid : Prop := inodeNewUptoRow.holds Try.pinned (OpenSpec.upto inodeNewSpec)

/-- 'granarylaw12.InodeChanges', WHERE WHAT IT READS IS OF BULK AT MOST 1048576: true; the input reads as it did. -/
def inodeChangesUptoRow : OpenClaim := { program := "ytcehhkdpdehjhaa", sum := "564d76d69ccc1185716963a4a5310a195b9f7b9b02e1986331aca9a41e39ab1c", func := "granary/granarylaw12.InodeChanges", spec := "inodeChanges", unfollowed := true, recurses := true, apart := false, narrowed := true }
def InodeChangesUptoSaid : Prop := inodeChangesUptoRow.holds Try.pinned (OpenSpec.upto inodeChangesSpec)

/-- 'granarylaw12.InodeKeeps', WHERE WHAT IT READS IS OF BULK AT MOST 1048576: true; the input reads as it did. -/
def inodeKeepsUptoRow : OpenClaim := { program := "ytcehhkdpdehjhaa", sum := "564d76d69ccc1185716963a4a5310a195b9f7b9b02e1986331aca9a41e39ab1c", func := "granary/granarylaw12.InodeKeeps", spec := "inodeKeeps", unfollowed := true, recurses := true, apart := false, narrowed := true }
def InodeKeepsUptoSaid : Prop := inodeKeepsUptoRow.holds Try.pinned (OpenSpec.upto inodeKeepsSpec)

end Rows
end Go.Proofs.Ytcehhkdpdehjhaa
