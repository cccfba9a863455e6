/-
  DERIVED. GIVEN WITH THE SEED: THE CARDS: each row of YtlkaggfhkfnhbaaGreatDoorRows.lean that lists a variable, with what it lists TIED to the program's text (the seventh form; the later family's looks); each row that meets fmt, with fmt's text TOLD by the authors' own Lean function (tested against real Go, not proved from fmt's source: count such statements apart). THE CARD IS WHAT COUNTS. Prove the row's statement (the work); the ties are given (YtlkaggfhkfnhbaaGreatDoorTie.lean); close each card by the builder's one call (the guide's Derived/Test/ToyasCard.lean, 'card_holds'). Laid BY PROGRAM, IN A SANDBOX (cutbox-door.mjs). By AI agents, Wed Nov 11 2026. No macro, syntax, notation, axiom, sorry.
-/
import Derived.Test.YtlkaggfhkfnhbaaGreatDoorRows
import GoSem.ClaimSeven
namespace Go.Proofs.YtlkaggfhkfnhbaaGreatDoor
namespace Rows

/-- THE TIED CARD OF 'granarylaw22.NfsArgs'. -/
def nfsArgsCard : Claim7 := { stood := { row := nfsArgsRow, standIns := [], harness := (true, "753ad3d338964b92149ecdfda91882845ca919459ad8030aaf05f4ffefc99cba"), looks := true }, kinds := [], alts := [], laidByText := true, laidKinds := [.handle], laidTests := true, laidLooks := .later }
def NfsArgsCardSaid : Prop := Claim7.holds Tryz.pinned (.plain (OpenSpec.ofChange nfsArgsSpec)) nfsArgsCard

/-- THE TIED CARD OF 'granarylaw22.NfsStatus'. -/
def nfsStatusCard : Claim7 := { stood := { row := nfsStatusRow, standIns := [], harness := (true, "753ad3d338964b92149ecdfda91882845ca919459ad8030aaf05f4ffefc99cba"), looks := true }, kinds := [], alts := [], laidByText := true, laidKinds := [.handle], laidTests := true, laidLooks := .later }
def NfsStatusCardSaid : Prop := Claim7.holds Tryz.pinned (.plain (OpenSpec.ofChange nfsStatusSpec)) nfsStatusCard

/-- THE TIED CARD OF 'granarylaw22.NfsResults'. -/
def nfsResultsCard : Claim7 := { stood := { row := nfsResultsRow, standIns := [], harness := (true, "753ad3d338964b92149ecdfda91882845ca919459ad8030aaf05f4ffefc99cba"), looks := true }, kinds := [], alts := [], laidByText := true, laidKinds := [.handle], laidTests := true, laidLooks := .later }
def NfsResultsCardSaid : Prop := Claim7.holds Tryz.pinned (.plain (OpenSpec.ofChange nfsResultsSpec)) nfsResultsCard

/-- THE TIED CARD OF 'granarylaw22.NfsBack'. -/
def nfsBackCard : Claim7 := { stood := { row := nfsBackRow, standIns := [], harness := (true, "753ad3d338964b92149ecdfda91882845ca919459ad8030aaf05f4ffefc99cba"), looks := true }, kinds := [], alts := [], laidByText := true, laidKinds := [.handle], laidTests := true, laidLooks := .later }
def NfsBackCardSaid : Prop := Claim7.holds Tryz.pinned (.plain (OpenSpec.ofChange nfsBackSpec)) nfsBackCard

/-- THE TIED CARD OF 'granarylaw22.NfsWhole'. -/
def nfsWholeCard : Claim7 := { stood := { row := nfsWholeRow, standIns := [], harness := (true, "753ad3d338964b92149ecdfda91882845ca919459ad8030aaf05f4ffefc99cba"), looks := true }, kinds := [], alts := [], laidByText := true, laidKinds := [.handle], laidTests := true, laidLooks := .later }
def NfsWholeCardSaid : Prop := Claim7.holds Tryz.pinned (.plain (OpenSpec.ofChange nfsWholeSpec)) nfsWholeCard

/-- THE TIED CARD OF 'granarylaw22.NfsMounts'. -/
def nfsMountsCard : Claim7 := { stood := { row := nfsMountsRow, standIns := [], harness := (true, "753ad3d338964b92149ecdfda91882845ca919459ad8030aaf05f4ffefc99cba"), looks := true }, kinds := [], alts := [], laidByText := true, laidKinds := [.handle], laidTests := true, laidLooks := .later }
def NfsMountsCardSaid : Prop := Claim7.holds Tryz.pinned (.plain (OpenSpec.ofChange nfsMountsSpec)) nfsMountsCard

/-- THE SECOND FORM's CARD OF 'granarylaw22.NfsArgs'. -/
def nfsArgsUptoCard : Claim7 := { stood := { row := nfsArgsUptoRow, standIns := [], harness := (true, "753ad3d338964b92149ecdfda91882845ca919459ad8030aaf05f4ffefc99cba"), looks := true }, kinds := [], alts := [], laidByText := true, laidKinds := [.handle], laidTests := true, laidLooks := .later }
def NfsArgsUptoCardSaid : Prop := Claim7.holds Tryz.pinned (.plain (OpenSpec.upto nfsArgsSpec)) nfsArgsUptoCard

/-- THE SECOND FORM's CARD OF 'granarylaw22.NfsStatus'. -/
def nfsStatusUptoCard : Claim7 := { stood := { row := nfsStatusUptoRow, standIns := [], harness := (true, "753ad3d338964b92149ecdfda91882845ca919459ad8030aaf05f4ffefc99cba"), looks := true }, kinds := [], alts := [], laidByText := true, laidKinds := [.handle], laidTests := true, laidLooks := .later }
def NfsStatusUptoCardSaid : Prop := Claim7.holds Tryz.pinned (.plain (OpenSpec.upto nfsStatusSpec)) nfsStatusUptoCard

/-- THE SECOND FORM's CARD OF 'granarylaw22.NfsResults'. -/
def nfsResultsUptoCard : Claim7 := { stood := { row := nfsResultsUptoRow, standIns := [], harness := (true, "753ad3d338964b92149ecdfda91882845ca919459ad8030aaf05f4ffefc99cba"), looks := true }, kinds := [], alts := [], laidByText := true, laidKinds := [.handle], laidTests := true, laidLooks := .later }
def NfsResultsUptoCardSaid : Prop := Claim7.holds Tryz.pinned (.plain (OpenSpec.upto nfsResultsSpec)) nfsResultsUptoCard

/-- THE SECOND FORM's CARD OF 'granarylaw22.NfsBack'. -/
def nfsBackUptoCard : Claim7 := { stood := { row := nfsBackUptoRow, standIns := [], harness := (true, "753ad3d338964b92149ecdfda91882845ca919459ad8030aaf05f4ffefc99cba"), looks := true }, kinds := [], alts := [], laidByText := true, laidKinds := [.handle], laidTests := true, laidLooks := .later }
def NfsBackUptoCardSaid : Prop := Claim7.holds Tryz.pinned (.plain (OpenSpec.upto nfsBackSpec)) nfsBackUptoCard

/-- THE SECOND FORM's CARD OF 'granarylaw22.NfsWhole'. -/
def nfsWholeUptoCard : Claim7 := { stood := { row := nfsWholeUptoRow, standIns := [], harness := (true, "753ad3d338964b92149ecdfda91882845ca919459ad8030aaf05f4ffefc99cba"), looks := true }, kinds := [], alts := [], laidByText := true, laidKinds := [.handle], laidTests := true, laidLooks := .later }
def NfsWholeUptoCardSaid : Prop := Claim7.holds Tryz.pinned (.plain (OpenSpec.upto nfsWholeSpec)) nfsWholeUptoCard

/-- THE SECOND FORM's CARD OF 'granarylaw22.NfsMounts'. -/
def nfsMountsUptoCard : Claim7 := { stood := { row := nfsMountsUptoRow, standIns := [], harness := (true, "753ad3d338964b92149ecdfda91882845ca919459ad8030aaf05f4ffefc99cba"), looks := true }, kinds := [], alts := [], laidByText := true, laidKinds := [.handle], laidTests := true, laidLooks := .later }
def NfsMountsUptoCardSaid : Prop := Claim7.holds Tryz.pinned (.plain (OpenSpec.upto nfsMountsSpec)) nfsMountsUptoCard
end Rows
end Go.Proofs.YtlkaggfhkfnhbaaGreatDoor
