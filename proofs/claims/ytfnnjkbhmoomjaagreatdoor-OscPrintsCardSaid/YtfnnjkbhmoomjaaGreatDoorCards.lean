/-
  DERIVED. GIVEN WITH THE SEED: THE CARDS: each row of YtfnnjkbhmoomjaaGreatDoorRows.lean that lists a variable, with what it lists TIED to the program's text (the seventh form; the later family's looks); each row that meets fmt, with fmt's text TOLD by the authors' own Lean function (tested against real Go, not proved from fmt's source: count such statements apart). THE CARD IS WHAT COUNTS. Prove the row's statement (the work); the ties are given (YtfnnjkbhmoomjaaGreatDoorTie.lean); close each card by the builder's one call (the guide's Derived/Test/ToyasCard.lean, 'card_holds'). Laid BY PROGRAM, IN A SANDBOX (cutbox-door.mjs). By AI agents, Wed Nov 11 2026. No macro, syntax, notation, axiom, sorry.
-/
import Derived.Test.YtfnnjkbhmoomjaaGreatDoorRows
import GoSem.ClaimSeven
namespace Go.Proofs.YtfnnjkbhmoomjaaGreatDoor
namespace Rows

/-- THE TIED CARD OF 'fenestralaw08.OscPrints'. -/
def oscPrintsCard : Claim7 := { stood := { row := oscPrintsRow, standIns := [], harness := (true, "2eed2efeef63f495c875f8bce7e1cb1bbc328010e0ab9018e5898fe75409f417"), looks := true }, kinds := [], alts := [], laidByText := true, laidKinds := [.data, .data, .data, .data, .sentinel, .sentinel, .data, .pinned], laidTests := true, laidLooks := .later }
def OscPrintsCardSaid : Prop := Claim7.holds Tryz.pinned (.plain (OpenSpec.ofChange oscPrintsSpec)) oscPrintsCard

/-- THE TIED CARD OF 'fenestralaw08.OscParses'. -/
def oscParsesCard : Claim7 := { stood := { row := oscParsesRow, standIns := [], harness := (true, "2eed2efeef63f495c875f8bce7e1cb1bbc328010e0ab9018e5898fe75409f417"), looks := true }, kinds := [], alts := [], laidByText := true, laidKinds := [.data, .data, .data, .data, .sentinel, .sentinel, .data, .pinned], laidTests := true, laidLooks := .later }
def OscParsesCardSaid : Prop := Claim7.holds Tryz.pinned (.plain (OpenSpec.ofChange oscParsesSpec)) oscParsesCard

/-- THE TIED CARD OF 'fenestralaw08.OscBack'. -/
def oscBackCard : Claim7 := { stood := { row := oscBackRow, standIns := [], harness := (true, "2eed2efeef63f495c875f8bce7e1cb1bbc328010e0ab9018e5898fe75409f417"), looks := true }, kinds := [], alts := [], laidByText := true, laidKinds := [.data, .data, .data, .data, .sentinel, .sentinel, .data, .pinned], laidTests := true, laidLooks := .later }
def OscBackCardSaid : Prop := Claim7.holds Tryz.pinned (.plain (OpenSpec.ofChange oscBackSpec)) oscBackCard

/-- THE TIED CARD OF 'fenestralaw08.OscCanon'. -/
def oscCanonCard : Claim7 := { stood := { row := oscCanonRow, standIns := [], harness := (true, "2eed2efeef63f495c875f8bce7e1cb1bbc328010e0ab9018e5898fe75409f417"), looks := true }, kinds := [], alts := [], laidByText := true, laidKinds := [.data, .data, .data, .data, .sentinel, .sentinel, .data, .pinned], laidTests := true, laidLooks := .later }
def OscCanonCardSaid : Prop := Claim7.holds Tryz.pinned (.plain (OpenSpec.ofChange oscCanonSpec)) oscCanonCard

/-- THE TIED CARD OF 'fenestralaw08.OscTitles'. -/
def oscTitlesCard : Claim7 := { stood := { row := oscTitlesRow, standIns := [], harness := (true, "2eed2efeef63f495c875f8bce7e1cb1bbc328010e0ab9018e5898fe75409f417"), looks := true }, kinds := [], alts := [], laidByText := true, laidKinds := [.data, .data, .data, .data, .sentinel, .sentinel, .data, .pinned], laidTests := true, laidLooks := .later }
def OscTitlesCardSaid : Prop := Claim7.holds Tryz.pinned (.plain (OpenSpec.ofChange oscTitlesSpec)) oscTitlesCard

/-- THE TIED CARD OF 'fenestralaw08.OscKnown'. -/
def oscKnownCard : Claim7 := { stood := { row := oscKnownRow, standIns := [], harness := (true, "2eed2efeef63f495c875f8bce7e1cb1bbc328010e0ab9018e5898fe75409f417"), looks := true }, kinds := [], alts := [], laidByText := true, laidKinds := [.data, .data, .data, .data, .sentinel, .sentinel, .data, .pinned], laidTests := true, laidLooks := .later }
def OscKnownCardSaid : Prop := Claim7.holds Tryz.pinned (.plain (OpenSpec.ofChange oscKnownSpec)) oscKnownCard

/-- THE SECOND FORM's CARD OF 'fenestralaw08.OscPrints'. -/
def oscPrintsUptoCard : Claim7 := { stood := { row := oscPrintsUptoRow, standIns := [], harness := (true, "2eed2efeef63f495c875f8bce7e1cb1bbc328010e0ab9018e5898fe75409f417"), looks := true }, kinds := [], alts := [], laidByText := true, laidKinds := [.data, .data, .data, .data, .sentinel, .sentinel, .data, .pinned], laidTests := true, laidLooks := .later }
def OscPrintsUptoCardSaid : Prop := Claim7.holds Tryz.pinned (.plain (OpenSpec.upto oscPrintsSpec)) oscPrintsUptoCard

/-- THE SECOND FORM's CARD OF 'fenestralaw08.OscParses'. -/
def oscParsesUptoCard : Claim7 := { stood := { row := oscParsesUptoRow, standIns := [], harness := (true, "2eed2efeef63f495c875f8bce7e1cb1bbc328010e0ab9018e5898fe75409f417"), looks := true }, kinds := [], alts := [], laidByText := true, laidKinds := [.data, .data, .data, .data, .sentinel, .sentinel, .data, .pinned], laidTests := true, laidLooks := .later }
def OscParsesUptoCardSaid : Prop := Claim7.holds Tryz.pinned (.plain (OpenSpec.upto oscParsesSpec)) oscParsesUptoCard

/-- THE SECOND FORM's CARD OF 'fenestralaw08.OscBack'. -/
def oscBackUptoCard : Claim7 := { stood := { row := oscBackUptoRow, standIns := [], harness := (true, "2eed2efeef63f495c875f8bce7e1cb1bbc328010e0ab9018e5898fe75409f417"), looks := true }, kinds := [], alts := [], laidByText := true, laidKinds := [.data, .data, .data, .data, .sentinel, .sentinel, .data, .pinned], laidTests := true, laidLooks := .later }
def OscBackUptoCardSaid : Prop := Claim7.holds Tryz.pinned (.plain (OpenSpec.upto oscBackSpec)) oscBackUptoCard

/-- THE SECOND FORM's CARD OF 'fenestralaw08.OscCanon'. -/
def oscCanonUptoCard : Claim7 := { stood := { row := oscCanonUptoRow, standIns := [], harness := (true, "2eed2efeef63f495c875f8bce7e1cb1bbc328010e0ab9018e5898fe75409f417"), looks := true }, kinds := [], alts := [], laidByText := true, laidKinds := [.data, .data, .data, .data, .sentinel, .sentinel, .data, .pinned], laidTests := true, laidLooks := .later }
def OscCanonUptoCardSaid : Prop := Claim7.holds Tryz.pinned (.plain (OpenSpec.upto oscCanonSpec)) oscCanonUptoCard

/-- THE SECOND FORM's CARD OF 'fenestralaw08.OscTitles'. -/
def oscTitlesUptoCard : Claim7 := { stood := { row := oscTitlesUptoRow, standIns := [], harness := (true, "2eed2efeef63f495c875f8bce7e1cb1bbc328010e0ab9018e5898fe75409f417"), looks := true }, kinds := [], alts := [], laidByText := true, laidKinds := [.data, .data, .data, .data, .sentinel, .sentinel, .data, .pinned], laidTests := true, laidLooks := .later }
def OscTitlesUptoCardSaid : Prop := Claim7.holds Tryz.pinned (.plain (OpenSpec.upto oscTitlesSpec)) oscTitlesUptoCard

/-- THE SECOND FORM's CARD OF 'fenestralaw08.OscKnown'. -/
def oscKnownUptoCard : Claim7 := { stood := { row := oscKnownUptoRow, standIns := [], harness := (true, "2eed2efeef63f495c875f8bce7e1cb1bbc328010e0ab9018e5898fe75409f417"), looks := true }, kinds := [], alts := [], laidByText := true, laidKinds := [.data, .data, .data, .data, .sentinel, .sentinel, .data, .pinned], laidTests := true, laidLooks := .later }
def OscKnownUptoCardSaid : Prop := Claim7.holds Tryz.pinned (.plain (OpenSpec.upto oscKnownSpec)) oscKnownUptoCard
end Rows
end Go.Proofs.YtfnnjkbhmoomjaaGreatDoor
