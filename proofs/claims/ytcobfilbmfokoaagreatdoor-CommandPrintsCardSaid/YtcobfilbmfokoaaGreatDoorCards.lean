/-
  DERIVED. GIVEN WITH THE SEED: THE CARDS: each row of YtcobfilbmfokoaaGreatDoorRows.lean that lists a variable, with what it lists TIED to the program's text (the seventh form; the later family's looks); each row that meets fmt, with fmt's text TOLD by the authors' own Lean function (tested against real Go, not proved from fmt's source: count such statements apart). THE CARD IS WHAT COUNTS. Prove the row's statement (the work); the ties are given (YtcobfilbmfokoaaGreatDoorTie.lean); close each card by the builder's one call (the guide's Derived/Test/ToyasCard.lean, 'card_holds'). Laid BY PROGRAM, IN A SANDBOX (cutbox-door.mjs). By AI agents, Wed Nov 11 2026. No macro, syntax, notation, axiom, sorry.
-/
import Derived.Test.YtcobfilbmfokoaaGreatDoorRows
import GoSem.ClaimSeven
namespace Go.Proofs.YtcobfilbmfokoaaGreatDoor
namespace Rows

/-- THE TIED CARD OF 'fenestralaw40.CommandPrints'. -/
def commandPrintsCard : Claim7 := { stood := { row := commandPrintsRow, standIns := [], harness := (true, "179c070c4ab4da57761d82eb1c38efe9fdfb4a998bc9df0752c06e1f1427b84d"), looks := true }, kinds := [], alts := [], laidByText := true, laidKinds := [.data, .data, .data, .data, .handle, .sentinel, .sentinel, .pinned], laidTests := true, laidLooks := .later }
def CommandPrintsCardSaid : Prop := Claim7.holds Tryz.pinned (.plain (OpenSpec.ofChange commandPrintsSpec)) commandPrintsCard

/-- THE TIED CARD OF 'fenestralaw40.CommandBack'. -/
def commandBackCard : Claim7 := { stood := { row := commandBackRow, standIns := [], harness := (true, "179c070c4ab4da57761d82eb1c38efe9fdfb4a998bc9df0752c06e1f1427b84d"), looks := true }, kinds := [], alts := [], laidByText := true, laidKinds := [.data, .data, .data, .data, .handle, .sentinel, .sentinel, .pinned], laidTests := true, laidLooks := .later }
def CommandBackCardSaid : Prop := Claim7.holds Tryz.pinned (.plain (OpenSpec.ofChange commandBackSpec)) commandBackCard

/-- THE TIED CARD OF 'fenestralaw40.CommandCanon'. -/
def commandCanonCard : Claim7 := { stood := { row := commandCanonRow, standIns := [], harness := (true, "179c070c4ab4da57761d82eb1c38efe9fdfb4a998bc9df0752c06e1f1427b84d"), looks := true }, kinds := [], alts := [], laidByText := true, laidKinds := [.data, .data, .data, .data, .handle, .sentinel, .sentinel, .pinned], laidTests := true, laidLooks := .later }
def CommandCanonCardSaid : Prop := Claim7.holds Tryz.pinned (.plain (OpenSpec.ofChange commandCanonSpec)) commandCanonCard

/-- THE TIED CARD OF 'fenestralaw40.CommandSpaces'. -/
def commandSpacesCard : Claim7 := { stood := { row := commandSpacesRow, standIns := [], harness := (true, "179c070c4ab4da57761d82eb1c38efe9fdfb4a998bc9df0752c06e1f1427b84d"), looks := true }, kinds := [], alts := [], laidByText := true, laidKinds := [.data, .data, .data, .data, .handle, .sentinel, .sentinel, .pinned], laidTests := true, laidLooks := .later }
def CommandSpacesCardSaid : Prop := Claim7.holds Tryz.pinned (.plain (OpenSpec.ofChange commandSpacesSpec)) commandSpacesCard

/-- THE TIED CARD OF 'fenestralaw40.CommandKnown'. -/
def commandKnownCard : Claim7 := { stood := { row := commandKnownRow, standIns := [], harness := (true, "179c070c4ab4da57761d82eb1c38efe9fdfb4a998bc9df0752c06e1f1427b84d"), looks := true }, kinds := [], alts := [], laidByText := true, laidKinds := [.data, .data, .data, .data, .handle, .sentinel, .sentinel, .pinned], laidTests := true, laidLooks := .later }
def CommandKnownCardSaid : Prop := Claim7.holds Tryz.pinned (.plain (OpenSpec.ofChange commandKnownSpec)) commandKnownCard

/-- THE SECOND FORM's CARD OF 'fenestralaw40.CommandPrints'. -/
def commandPrintsUptoCard : Claim7 := { stood := { row := commandPrintsUptoRow, standIns := [], harness := (true, "179c070c4ab4da57761d82eb1c38efe9fdfb4a998bc9df0752c06e1f1427b84d"), looks := true }, kinds := [], alts := [], laidByText := true, laidKinds := [.data, .data, .data, .data, .handle, .sentinel, .sentinel, .pinned], laidTests := true, laidLooks := .later }
def CommandPrintsUptoCardSaid : Prop := Claim7.holds Tryz.pinned (.plain (OpenSpec.upto commandPrintsSpec)) commandPrintsUptoCard

/-- THE SECOND FORM's CARD OF 'fenestralaw40.CommandBack'. -/
def commandBackUptoCard : Claim7 := { stood := { row := commandBackUptoRow, standIns := [], harness := (true, "179c070c4ab4da57761d82eb1c38efe9fdfb4a998bc9df0752c06e1f1427b84d"), looks := true }, kinds := [], alts := [], laidByText := true, laidKinds := [.data, .data, .data, .data, .handle, .sentinel, .sentinel, .pinned], laidTests := true, laidLooks := .later }
def CommandBackUptoCardSaid : Prop := Claim7.holds Tryz.pinned (.plain (OpenSpec.upto commandBackSpec)) commandBackUptoCard

/-- THE SECOND FORM's CARD OF 'fenestralaw40.CommandCanon'. -/
def commandCanonUptoCard : Claim7 := { stood := { row := commandCanonUptoRow, standIns := [], harness := (true, "179c070c4ab4da57761d82eb1c38efe9fdfb4a998bc9df0752c06e1f1427b84d"), looks := true }, kinds := [], alts := [], laidByText := true, laidKinds := [.data, .data, .data, .data, .handle, .sentinel, .sentinel, .pinned], laidTests := true, laidLooks := .later }
def CommandCanonUptoCardSaid : Prop := Claim7.holds Tryz.pinned (.plain (OpenSpec.upto commandCanonSpec)) commandCanonUptoCard

/-- THE SECOND FORM's CARD OF 'fenestralaw40.CommandSpaces'. -/
def commandSpacesUptoCard : Claim7 := { stood := { row := commandSpacesUptoRow, standIns := [], harness := (true, "179c070c4ab4da57761d82eb1c38efe9fdfb4a998bc9df0752c06e1f1427b84d"), looks := true }, kinds := [], alts := [], laidByText := true, laidKinds := [.data, .data, .data, .data, .handle, .sentinel, .sentinel, .pinned], laidTests := true, laidLooks := .later }
def CommandSpacesUptoCardSaid : Prop := Claim7.holds Tryz.pinned (.plain (OpenSpec.upto commandSpacesSpec)) commandSpacesUptoCard

/-- THE SECOND FORM's CARD OF 'fenestralaw40.CommandKnown'. -/
def commandKnownUptoCard : Claim7 := { stood := { row := commandKnownUptoRow, standIns := [], harness := (true, "179c070c4ab4da57761d82eb1c38efe9fdfb4a998bc9df0752c06e1f1427b84d"), looks := true }, kinds := [], alts := [], laidByText := true, laidKinds := [.data, .data, .data, .data, .handle, .sentinel, .sentinel, .pinned], laidTests := true, laidLooks := .later }
def CommandKnownUptoCardSaid : Prop := Claim7.holds Tryz.pinned (.plain (OpenSpec.upto commandKnownSpec)) commandKnownUptoCard
end Rows
end Go.Proofs.YtcobfilbmfokoaaGreatDoor
