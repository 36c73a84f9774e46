/-
  DERIVED. GIVEN WITH THE SEED: THE CARDS: each row of YtnndmokndgnidaaGreatDoorRows.lean that lists a variable, with what it lists TIED to the program's text (the seventh form; the later family's looks); each row that meets fmt, with fmt's text TOLD by the authors' own Lean function (tested against real Go, not proved from fmt's source: count such statements apart). THE CARD IS WHAT COUNTS. Prove the row's statement (the work); the ties are given (YtnndmokndgnidaaGreatDoorTie.lean); close each card by the builder's one call (the guide's Derived/Test/ToyasCard.lean, 'card_holds'). Laid BY PROGRAM, IN A SANDBOX (cutbox-door.mjs). By AI agents, Wed Nov 11 2026. No macro, syntax, notation, axiom, sorry.
-/
import Derived.Test.YtnndmokndgnidaaGreatDoorRows
import GoSem.ClaimSeven
namespace Go.Proofs.YtnndmokndgnidaaGreatDoor
namespace Rows

/-- THE TIED CARD OF 'fenestralaw42.RecordChecks'. -/
def recordChecksCard : Claim7 := { stood := { row := recordChecksRow, standIns := [], harness := (true, "b7230833bf3d17034c466497a1ee6bd027c4e83793c751d148562b15d4adeac0"), looks := true }, kinds := [], alts := [], laidByText := true, laidKinds := [.data, .data, .data, .data, .sentinel, .sentinel, .pinned], laidTests := true, laidLooks := .later }
def RecordChecksCardSaid : Prop := Claim7.holds Tryz.pinned (.plain (OpenSpec.ofChange recordChecksSpec)) recordChecksCard

/-- THE TIED CARD OF 'fenestralaw42.RecordCuts'. -/
def recordCutsCard : Claim7 := { stood := { row := recordCutsRow, standIns := [], harness := (true, "b7230833bf3d17034c466497a1ee6bd027c4e83793c751d148562b15d4adeac0"), looks := true }, kinds := [], alts := [], laidByText := true, laidKinds := [.data, .data, .data, .data, .sentinel, .sentinel, .pinned], laidTests := true, laidLooks := .later }
def RecordCutsCardSaid : Prop := Claim7.holds Tryz.pinned (.plain (OpenSpec.ofChange recordCutsSpec)) recordCutsCard

/-- THE TIED CARD OF 'fenestralaw42.RecordKnown'. -/
def recordKnownCard : Claim7 := { stood := { row := recordKnownRow, standIns := [], harness := (true, "b7230833bf3d17034c466497a1ee6bd027c4e83793c751d148562b15d4adeac0"), looks := true }, kinds := [], alts := [], laidByText := true, laidKinds := [.data, .data, .data, .data, .sentinel, .sentinel, .pinned], laidTests := true, laidLooks := .later }
def RecordKnownCardSaid : Prop := Claim7.holds Tryz.pinned (.plain (OpenSpec.ofChange recordKnownSpec)) recordKnownCard

/-- THE SECOND FORM's CARD OF 'fenestralaw42.RecordChecks'. -/
def recordChecksUptoCard : Claim7 := { stood := { row := recordChecksUptoRow, standIns := [], harness := (true, "b7230833bf3d17034c466497a1ee6bd027c4e83793c751d148562b15d4adeac0"), looks := true }, kinds := [], alts := [], laidByText := true, laidKinds := [.data, .data, .data, .data, .sentinel, .sentinel, .pinned], laidTests := true, laidLooks := .later }
def RecordChecksUptoCardSaid : Prop := Claim7.holds Tryz.pinned (.plain (OpenSpec.upto recordChecksSpec)) recordChecksUptoCard

/-- THE SECOND FORM's CARD OF 'fenestralaw42.RecordCuts'. -/
def recordCutsUptoCard : Claim7 := { stood := { row := recordCutsUptoRow, standIns := [], harness := (true, "b7230833bf3d17034c466497a1ee6bd027c4e83793c751d148562b15d4adeac0"), looks := true }, kinds := [], alts := [], laidByText := true, laidKinds := [.data, .data, .data, .data, .sentinel, .sentinel, .pinned], laidTests := true, laidLooks := .later }
def RecordCutsUptoCardSaid : Prop := Claim7.holds Tryz.pinned (.plain (OpenSpec.upto recordCutsSpec)) recordCutsUptoCard

/-- THE SECOND FORM's CARD OF 'fenestralaw42.RecordKnown'. -/
def recordKnownUptoCard : Claim7 := { stood := { row := recordKnownUptoRow, standIns := [], harness := (true, "b7230833bf3d17034c466497a1ee6bd027c4e83793c751d148562b15d4adeac0"), looks := true }, kinds := [], alts := [], laidByText := true, laidKinds := [.data, .data, .data, .data, .sentinel, .sentinel, .pinned], laidTests := true, laidLooks := .later }
def RecordKnownUptoCardSaid : Prop := Claim7.holds Tryz.pinned (.plain (OpenSpec.upto recordKnownSpec)) recordKnownUptoCard
end Rows
end Go.Proofs.YtnndmokndgnidaaGreatDoor
