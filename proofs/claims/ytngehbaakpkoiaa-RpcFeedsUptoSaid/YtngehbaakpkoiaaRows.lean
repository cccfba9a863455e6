/-
  No cell of these rows narrows 'for every input' (looked for: loops, veiled, ifaces, maps, wideKeys, modest, calm, conditions, laid).
  DERIVED. THE GIVEN ROWS OF THIS SEAT. 9 by the template 'for every input the law returns true; each argument reads behind the call as it read before'; 0 by the template 'total and deterministic' (their statements: YtngehbaakpkoiaaTotals.lean).
  GIVEN WITH THE SEED: the statements are not yours to turn. If you find one false, say at which input.
  Laid BY PROGRAM, IN A SANDBOX (cutbox-rows.mjs): the forced cells as the released guide's own fill.sh prints them over the translation a730f783b0dc1710… (all of the seat's roots in one cut). By AI agents, Wed Nov 11 2026. No macro, syntax, notation, axiom, sorry.
-/
import Derived.Test.YtngehbaakpkoiaaChecked
import GoSem.Claim
import GoSem.ClaimJoined
import GoSem.ClaimMapViews
import Derived.JoinedTies
import Derived.KernelRfl
namespace Go.Proofs.Ytngehbaakpkoiaa
/- THE CELL 'sum', in the pinned program and in every row, IS THE sha256 OF THE DUMP (.gsa) THAT YtngehbaakpkoiaaProg.lean LOADS. Nothing in Lean hashes anything: it is a label: what it is worth is what the hold of that sum in a sandbox is worth. -/
noncomputable def Try.pinned : Pinned := { name := "ytngehbaakpkoiaa", sum := "a730f783b0dc1710d8d209e24c79cde7437a39f6a8aa5e7f543a7f9242e72851", checked := Try.checked }
namespace Rows
def none {H : Type} : Left H := { results := [], args := [] }

/-- 'granarylaw21.RpcFrames': WHATEVER THE INPUT: true; the input reads as it did. -/
def rpcFramesSpec : ChangeSpec := { name := "rpcFrames", fn := fun _ => fun
  | [d1, d2] => { results := [.lit (.bool true)], args := [d1, d2] }
  | _ => none }
def rpcFramesRow : OpenClaim := { program := "ytngehbaakpkoiaa", sum := "a730f783b0dc1710d8d209e24c79cde7437a39f6a8aa5e7f543a7f9242e72851", func := "granary/granarylaw21.RpcFrames", spec := "rpcFrames", unfollowed := true, recurses := true, apart := false }
def RpcFramesSaid : Prop := rpcFramesRow.holds Try.pinned (OpenSpec.ofChange rpcFramesSpec)

/-- ITS FALSE NEIGHBOUR: 'it returns false'. Refute it at one input. -/
def rpcFramesWrong : ChangeSpec := { name := "rpcFrames", fn := fun _ => fun
  | [d1, d2] => { results := [.lit (.bool false)], args := [d1, d2] }
  | _ => none }
def RpcFramesWrongFalsely : Prop := rpcFramesRow.holds Try.pinned (OpenSpec.ofChange rpcFramesWrong)

/-- 'granarylaw21.RpcClasses': WHATEVER THE INPUT: true; the input reads as it did. -/
def rpcClassesSpec : ChangeSpec := { name := "rpcClasses", fn := fun _ => fun
  | [d] => { results := [.lit (.bool true)], args := [d] }
  | _ => none }
def rpcClassesRow : OpenClaim := { program := "ytngehbaakpkoiaa", sum := "a730f783b0dc1710d8d209e24c79cde7437a39f6a8aa5e7f543a7f9242e72851", func := "granary/granarylaw21.RpcClasses", spec := "rpcClasses", unfollowed := true, recurses := true, apart := false }
def RpcClassesSaid : Prop := rpcClassesRow.holds Try.pinned (OpenSpec.ofChange rpcClassesSpec)

/-- ITS FALSE NEIGHBOUR: 'it returns false'. Refute it at one input. -/
def rpcClassesWrong : ChangeSpec := { name := "rpcClasses", fn := fun _ => fun
  | [d] => { results := [.lit (.bool false)], args := [d] }
  | _ => none }
def RpcClassesWrongFalsely : Prop := rpcClassesRow.holds Try.pinned (OpenSpec.ofChange rpcClassesWrong)

/-- 'granarylaw21.RpcFeeds': WHATEVER THE INPUT: true; the input reads as it did. -/
def rpcFeedsSpec : ChangeSpec := { name := "rpcFeeds", fn := fun _ => fun
  | [d] => { results := [.lit (.bool true)], args := [d] }
  | _ => none }
def rpcFeedsRow : OpenClaim := { program := "ytngehbaakpkoiaa", sum := "a730f783b0dc1710d8d209e24c79cde7437a39f6a8aa5e7f543a7f9242e72851", func := "granary/granarylaw21.RpcFeeds", spec := "rpcFeeds", unfollowed := true, recurses := true, apart := false }
def RpcFeedsSaid : Prop := rpcFeedsRow.holds Try.pinned (OpenSpec.ofChange rpcFeedsSpec)

/-- ITS FALSE NEIGHBOUR: 'it returns false'. Refute it at one input. -/
def rpcFeedsWrong : ChangeSpec := { name := "rpcFeeds", fn := fun _ => fun
  | [d] => { results := [.lit (.bool false)], args := [d] }
  | _ => none }
def RpcFeedsWrongFalsely : Prop := rpcFeedsRow.holds Try.pinned (OpenSpec.ofChange rpcFeedsWrong)

/-- 'granarylaw21.RpcSegments': WHATEVER THE INPUT: true; the input reads as it did. -/
def rpcSegmentsSpec : ChangeSpec := { name := "rpcSegments", fn := fun _ => fun
  | [d1, d2] => { results := [.lit (.bool true)], args := [d1, d2] }
  | _ => none }
def rpcSegmentsRow : OpenClaim := { program := "ytngehbaakpkoiaa", sum := "a730f783b0dc1710d8d209e24c79cde7437a39f6a8aa5e7f543a7f9242e72851", func := "granary/granarylaw21.RpcSegments", spec := "rpcSegments", unfollowed := true, recurses := true, apart := false }
def RpcSegmentsSaid : Prop := rpcSegmentsRow.holds Try.pinned (OpenSpec.ofChange rpcSegmentsSpec)

/-- ITS FALSE NEIGHBOUR: 'it returns false'. Refute it at one input. -/
def rpcSegmentsWrong : ChangeSpec := { name := "rpcSegments", fn := fun _ => fun
  | [d1, d2] => { results := [.lit (.bool false)], args := [d1, d2] }
  | _ => none }
def RpcSegmentsWrongFalsely : Prop := rpcSegmentsRow.holds Try.pinned (OpenSpec.ofChange rpcSegmentsWrong)

/-- 'granarylaw21.RpcNil': WHATEVER THE INPUT: true; the input reads as it did. -/
def rpcNilSpec : ChangeSpec := { name := "rpcNil", fn := fun _ => fun
  | [d] => { results := [.lit (.bool true)], args := [d] }
  | _ => none }
def rpcNilRow : OpenClaim := { program := "ytngehbaakpkoiaa", sum := "a730f783b0dc1710d8d209e24c79cde7437a39f6a8aa5e7f543a7f9242e72851", func := "granary/granarylaw21.RpcNil", spec := "rpcNil", unfollowed := true, recurses := true, apart := false }
def RpcNilSaid : Prop := rpcNilRow.holds Try.pinned (OpenSpec.ofChange rpcNilSpec)

/-- ITS FALSE NEIGHBOUR: 'it returns false'. Refute it at one input. -/
def rpcNilWrong : ChangeSpec := { name := "rpcNil", fn := fun _ => fun
  | [d] => { results := [.lit (.bool false)], args := [d] }
  | _ => none }
def RpcNilWrongFalsely : Prop := rpcNilRow.holds Try.pinned (OpenSpec.ofChange rpcNilWrong)

/-- 'granarylaw21.RpcCalls': WHATEVER THE INPUT: true; the input reads as it did. -/
def rpcCallsSpec : ChangeSpec := { name := "rpcCalls", fn := fun _ => fun
  | [d1, d2] => { results := [.lit (.bool true)], args := [d1, d2] }
  | _ => none }
def rpcCallsRow : OpenClaim := { program := "ytngehbaakpkoiaa", sum := "a730f783b0dc1710d8d209e24c79cde7437a39f6a8aa5e7f543a7f9242e72851", func := "granary/granarylaw21.RpcCalls", spec := "rpcCalls", unfollowed := true, recurses := true, apart := false }
def RpcCallsSaid : Prop := rpcCallsRow.holds Try.pinned (OpenSpec.ofChange rpcCallsSpec)

/-- ITS FALSE NEIGHBOUR: 'it returns false'. Refute it at one input. -/
def rpcCallsWrong : ChangeSpec := { name := "rpcCalls", fn := fun _ => fun
  | [d1, d2] => { results := [.lit (.bool false)], args := [d1, d2] }
  | _ => none }
def RpcCallsWrongFalsely : Prop := rpcCallsRow.holds Try.pinned (OpenSpec.ofChange rpcCallsWrong)

/-- 'granarylaw21.RpcCreds': WHATEVER THE INPUT: true; the input reads as it did. -/
def rpcCredsSpec : ChangeSpec := { name := "rpcCreds", fn := fun _ => fun
  | [d1, d2] => { results := [.lit (.bool true)], args := [d1, d2] }
  | _ => none }
def rpcCredsRow : OpenClaim := { program := "ytngehbaakpkoiaa", sum := "a730f783b0dc1710d8d209e24c79cde7437a39f6a8aa5e7f543a7f9242e72851", func := "granary/granarylaw21.RpcCreds", spec := "rpcCreds", unfollowed := true, recurses := true, apart := false }
def RpcCredsSaid : Prop := rpcCredsRow.holds Try.pinned (OpenSpec.ofChange rpcCredsSpec)

/-- ITS FALSE NEIGHBOUR: 'it returns false'. Refute it at one input. -/
def rpcCredsWrong : ChangeSpec := { name := "rpcCreds", fn := fun _ => fun
  | [d1, d2] => { results := [.lit (.bool false)], args := [d1, d2] }
  | _ => none }
def RpcCredsWrongFalsely : Prop := rpcCredsRow.holds Try.pinned (OpenSpec.ofChange rpcCredsWrong)

/-- 'granarylaw21.RpcReplies': WHATEVER THE INPUT: true; the input reads as it did. -/
def rpcRepliesSpec : ChangeSpec := { name := "rpcReplies", fn := fun _ => fun
  | [d1, d2] => { results := [.lit (.bool true)], args := [d1, d2] }
  | _ => none }
def rpcRepliesRow : OpenClaim := { program := "ytngehbaakpkoiaa", sum := "a730f783b0dc1710d8d209e24c79cde7437a39f6a8aa5e7f543a7f9242e72851", func := "granary/granarylaw21.RpcReplies", spec := "rpcReplies", unfollowed := true, recurses := true, apart := false }
def RpcRepliesSaid : Prop := rpcRepliesRow.holds Try.pinned (OpenSpec.ofChange rpcRepliesSpec)

/-- ITS FALSE NEIGHBOUR: 'it returns false'. Refute it at one input. -/
def rpcRepliesWrong : ChangeSpec := { name := "rpcReplies", fn := fun _ => fun
  | [d1, d2] => { results := [.lit (.bool false)], args := [d1, d2] }
  | _ => none }
def RpcRepliesWrongFalsely : Prop := rpcRepliesRow.holds Try.pinned (OpenSpec.ofChange rpcRepliesWrong)

/-- 'granarylaw21.RpcBack': WHATEVER THE INPUT: true; the input reads as it did. -/
def rpcBackSpec : ChangeSpec := { name := "rpcBack", fn := fun _ => fun
  | [d1, d2, d3, d4, d5] => { results := [.lit (.bool true)], args := [d1, d2, d3, d4, d5] }
  | _ => none }
def rpcBackRow : OpenClaim := { program := "ytngehbaakpkoiaa", sum := "a730f783b0dc1710d8d209e24c79cde7437a39f6a8aa5e7f543a7f9242e72851", func := "granary/granarylaw21.RpcBack", spec := "rpcBack", unfollowed := true, recurses := true, apart := false }
def RpcBackSaid : Prop := rpcBackRow.holds Try.pinned (OpenSpec.ofChange rpcBackSpec)

/-- ITS FALSE NEIGHBOUR: 'it returns false'. Refute it at one input. -/
def rpcBackWrong : ChangeSpec := { name := "rpcBack", fn := fun _ => fun
  | [d1, d2, d3, d4, d5] => { results := [.lit (.bool false)], args := [d1, d2, d3, d4, d5] }
  | _ => none }
def RpcBackWrongFalsely : Prop := rpcBackRow.holds Try.pinned (OpenSpec.ofChange rpcBackWrong)

/- THE SECOND FORM. 'bulk': how many values and letters a reading holds, each counted each time it is reached (what is shared counts as often as it is met; a slice's spare places count too). A statement '..UptoSaid' is the law's where the arguments, and the package variables that the reading takes, are together of bulk at most 1048576: NARROWER than '..Said'. Prove '..Said' where nothing that the law and all that it calls make is longer than what came in: it says more and counts as full. Else prove '..UptoSaid'. A law counts once. -/
mutual
def uptoBulk {H : Type} : DataW H → Nat
  | .lit (.string bytes) => bytes.length + 1
  | .lit _ => 1
  | .nil => 1
  | .ptr d => uptoBulk d + 1
  | .slice elems spare => uptoBulkAll elems + uptoBulkAll spare + 1
  | .agg parts => uptoBulkAll parts + 1
  | .iface _ d => uptoBulk d + 1
  | .map entries => uptoBulkEntries entries + 1
  | .held _ => 1
def uptoBulkAll {H : Type} : List (DataW H) → Nat
  | [] => 0
  | d :: r => uptoBulk d + uptoBulkAll r
def uptoBulkEntries {H : Type} : List (Lit × DataW H) → Nat
  | [] => 0
  | x :: r => uptoBulkEntry x + uptoBulkEntries r
def uptoBulkEntry {H : Type} : Lit × DataW H → Nat
  | (.string bytes, d) => bytes.length + uptoBulk d + 1
  | (_, d) => uptoBulk d + 1
 end
def uptoSmall : (H : Type) → List (DataW H) → Bool := fun _ ds => decide (uptoBulkAll ds ≤ 1048576)
def OpenSpec.upto (s : _root_.Go.ChangeSpec) : _root_.Go.OpenSpec := { _root_.Go.OpenSpec.ofChange s with cond := some uptoSmall }

/-- 'granarylaw21.RpcFrames', WHERE WHAT IT READS IS OF BULK AT MOST 1048576: true; the input reads as it did. -/
def rpcFramesUptoRow : OpenClaim := { program := "ytngehbaakpkoiaa", sum := "a730f783b0dc1710d8d209e24c79cde7437a39f6a8aa5e7f543a7f9242e72851", func := "granary/granarylaw21.RpcFrames", spec := "rpcFrames", unfollowed := true, recurses := true, apart := false, narrowed := true }
def RpcFramesUptoSaid : Prop := rpcFramesUptoRow.holds Try.pinned (OpenSpec.upto rpcFramesSpec)

/-- 'granarylaw21.RpcClasses', WHERE WHAT IT READS IS OF BULK AT MOST 1048576: true; the input reads as it did. -/
def rpcClassesUptoRow : OpenClaim := { program := "ytngehbaakpkoiaa", sum := "a730f783b0dc1710d8d209e24c79cde7437a39f6a8aa5e7f543a7f9242e72851", func := "granary/granarylaw21.RpcClasses", spec := "rpcClasses", unfollowed := true, recurses := true, apart := false, narrowed := true }
def RpcClassesUptoSaid : Prop := rpcClassesUptoRow.holds Try.pinned (OpenSpec.upto rpcClassesSpec)

/-- 'granarylaw21.RpcFeeds', WHERE WHAT IT READS IS OF BULK AT MOST 1048576: true; the input reads as it did. -/
def rpcFeedsUptoRow : OpenClaim := { program := "ytngehbaakpkoiaa", sum := "a730f783b0dc1710d8d209e24c79cde7437a39f6a8aa5e7f543a7f9242e72851", func := "granary/granarylaw21.RpcFeeds", spec := "rpcFeeds", unfollowed := true, recurses := true, apart := false, narrowed := true }
def RpcFeedsUptoSaid : Prop := rpcFeedsUptoRow.holds Try.pinned (OpenSpec.upto rpcFeedsSpec)

/-- 'granarylaw21.RpcSegments', WHERE WHAT IT READS IS OF BULK AT MOST 1048576: true; the input reads as it did. -/
def rpcSegmentsUptoRow : OpenClaim := { program := "ytngehbaakpkoiaa", sum := "a730f783b0dc1710d8d209e24c79cde7437a39f6a8aa5e7f543a7f9242e72851", func := "granary/granarylaw21.RpcSegments", spec := "rpcSegments", unfollowed := true, recurses := true, apart := false, narrowed := true }
def RpcSegmentsUptoSaid : Prop := rpcSegmentsUptoRow.holds Try.pinned (OpenSpec.upto rpcSegmentsSpec)

/-- 'granarylaw21.RpcNil', WHERE WHAT IT READS IS OF BULK AT MOST 1048576: true; the input reads as it did. -/
def rpcNilUptoRow : OpenClaim := { program := "ytngehbaakpkoiaa", sum := "a730f783b0dc1710d8d209e24c79cde7437a39f6a8aa5e7f543a7f9242e72851", func := "granary/granarylaw21.RpcNil", spec := "rpcNil", unfollowed := true, recurses := true, apart := false, narrowed := true }
def RpcNilUptoSaid : Prop := rpcNilUptoRow.holds Try.pinned (OpenSpec.upto rpcNilSpec)

/-- 'granarylaw21.RpcCalls', WHERE WHAT IT READS IS OF BULK AT MOST 1048576: true; the input reads as it did. -/
def rpcCallsUptoRow : OpenClaim := { program := "ytngehbaakpkoiaa", sum := "a730f783b0dc1710d8d209e24c79cde7437a39f6a8aa5e7f543a7f9242e72851", func := "granary/granarylaw21.RpcCalls", spec := "rpcCalls", unfollowed := true, recurses := true, apart := false, narrowed := true }
def RpcCallsUptoSaid : Prop := rpcCallsUptoRow.holds Try.pinned (OpenSpec.upto rpcCallsSpec)

/-- 'granarylaw21.RpcCreds', WHERE WHAT IT READS IS OF BULK AT MOST 1048576: true; the input reads as it did. -/
def rpcCredsUptoRow : OpenClaim := { program := "ytngehbaakpkoiaa", sum := "a730f783b0dc1710d8d209e24c79cde7437a39f6a8aa5e7f543a7f9242e72851", func := "granary/granarylaw21.RpcCreds", spec := "rpcCreds", unfollowed := true, recurses := true, apart := false, narrowed := true }
def RpcCredsUptoSaid : Prop := rpcCredsUptoRow.holds Try.pinned (OpenSpec.upto rpcCredsSpec)

/-- 'granarylaw21.RpcReplies', WHERE WHAT IT READS IS OF BULK AT MOST 1048576: true; the input reads as it did. -/
def rpcRepliesUptoRow : OpenClaim := { program := "ytngehbaakpkoiaa", sum := "a730f783b0dc1710d8d209e24c79cde7437a39f6a8aa5e7f543a7f9242e72851", func := "granary/granarylaw21.RpcReplies", spec := "rpcReplies", unfollowed := true, recurses := true, apart := false, narrowed := true }
def RpcRepliesUptoSaid : Prop := rpcRepliesUptoRow.holds Try.pinned (OpenSpec.upto rpcRepliesSpec)

/-- 'granarylaw21.RpcBack', WHERE WHAT IT READS IS OF BULK AT MOST 1048576: true; the input reads as it did. -/
def rpcBackUptoRow : OpenClaim := { program := "ytngehbaakpkoiaa", sum := "a730f783b0dc1710d8d209e24c79cde7437a39f6a8aa5e7f543a7f9242e72851", func := "granary/granarylaw21.RpcBack", spec := "rpcBack", unfollowed := true, recurses := true, apart := false, narrowed := true }
def RpcBackUptoSaid : Prop := rpcBackUptoRow.holds Try.pinned (OpenSpec.upto rpcBackSpec)

end Rows
end Go.Proofs.Ytngehbaakpkoiaa
