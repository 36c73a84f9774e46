/-
  DERIVED. GIVEN WITH THE SEED: THE CARDS: each row of YthdbijpefkapnaaGreatDoorRows.lean that lists a variable, with what it lists TIED to the program's text (the seventh form; the later family's looks); each row that meets fmt, with fmt's text TOLD by the authors' own Lean function (tested against real Go, not proved from fmt's source: count such statements apart). THE CARD IS WHAT COUNTS. Prove the row's statement (the work); the ties are given (YthdbijpefkapnaaGreatDoorTie.lean); close each card by the builder's one call (the guide's Derived/Test/ToyasCard.lean, 'card_holds'). Laid BY PROGRAM, IN A SANDBOX (cutbox-door.mjs). By AI agents, Wed Nov 11 2026. No macro, syntax, notation, axiom, sorry.
-/
import Derived.Test.YthdbijpefkapnaaGreatDoorRows
import GoSem.ClaimSeven
namespace Go.Proofs.YthdbijpefkapnaaGreatDoor
namespace Rows

/-- THE TIED CARD OF 'fenestralaw10.ActionChecks'. -/
def actionChecksCard : Claim7 := { stood := { row := actionChecksRow, standIns := [], harness := (true, "80a0d55047c0cb1f8f9d6caa089798f6bc02fd6ed1a981cd86f6feeaf99c351f"), looks := true }, kinds := [], alts := [], laidByText := true, laidKinds := [.data, .data, .data, .data, .sentinel, .sentinel, .data, .data, .widerDeep, .widerDeep, .pinned], laidTests := true, laidLooks := .later }
def ActionChecksCardSaid : Prop := Claim7.holds Tryz.pinned (.plain (OpenSpec.ofChange actionChecksSpec)) actionChecksCard

/-- THE TIED CARD OF 'fenestralaw10.ActionOf'. -/
def actionOfCard : Claim7 := { stood := { row := actionOfRow, standIns := [], harness := (true, "80a0d55047c0cb1f8f9d6caa089798f6bc02fd6ed1a981cd86f6feeaf99c351f"), looks := true }, kinds := [], alts := [], laidByText := true, laidKinds := [.data, .data, .data, .data, .sentinel, .sentinel, .data, .data, .widerDeep, .widerDeep, .pinned], laidTests := true, laidLooks := .later }
def ActionOfCardSaid : Prop := Claim7.holds Tryz.pinned (.plain (OpenSpec.ofChange actionOfSpec)) actionOfCard

/-- THE TIED CARD OF 'fenestralaw10.ActionFinals'. -/
def actionFinalsCard : Claim7 := { stood := { row := actionFinalsRow, standIns := [], harness := (true, "80a0d55047c0cb1f8f9d6caa089798f6bc02fd6ed1a981cd86f6feeaf99c351f"), looks := true }, kinds := [], alts := [], laidByText := true, laidKinds := [.data, .data, .data, .data, .sentinel, .sentinel, .data, .data, .widerDeep, .widerDeep, .pinned], laidTests := true, laidLooks := .later }
def ActionFinalsCardSaid : Prop := Claim7.holds Tryz.pinned (.plain (OpenSpec.ofChange actionFinalsSpec)) actionFinalsCard

/-- THE TIED CARD OF 'fenestralaw10.ActionSound'. -/
def actionSoundCard : Claim7 := { stood := { row := actionSoundRow, standIns := [], harness := (true, "80a0d55047c0cb1f8f9d6caa089798f6bc02fd6ed1a981cd86f6feeaf99c351f"), looks := true }, kinds := [], alts := [], laidByText := true, laidKinds := [.data, .data, .data, .data, .sentinel, .sentinel, .data, .data, .widerDeep, .widerDeep, .pinned], laidTests := true, laidLooks := .later }
def ActionSoundCardSaid : Prop := Claim7.holds Tryz.pinned (.plain (OpenSpec.ofChange actionSoundSpec)) actionSoundCard

/-- THE TIED CARD OF 'fenestralaw10.ActionPlain'. -/
def actionPlainCard : Claim7 := { stood := { row := actionPlainRow, standIns := [], harness := (true, "80a0d55047c0cb1f8f9d6caa089798f6bc02fd6ed1a981cd86f6feeaf99c351f"), looks := true }, kinds := [], alts := [], laidByText := true, laidKinds := [.data, .data, .data, .data, .sentinel, .sentinel, .data, .data, .widerDeep, .widerDeep, .pinned], laidTests := true, laidLooks := .later }
def ActionPlainCardSaid : Prop := Claim7.holds Tryz.pinned (.plain (OpenSpec.ofChange actionPlainSpec)) actionPlainCard

/-- THE TIED CARD OF 'fenestralaw10.ActionKnown'. -/
def actionKnownCard : Claim7 := { stood := { row := actionKnownRow, standIns := [], harness := (true, "80a0d55047c0cb1f8f9d6caa089798f6bc02fd6ed1a981cd86f6feeaf99c351f"), looks := true }, kinds := [], alts := [], laidByText := true, laidKinds := [.data, .data, .data, .data, .sentinel, .sentinel, .data, .data, .widerDeep, .widerDeep, .pinned], laidTests := true, laidLooks := .later }
def ActionKnownCardSaid : Prop := Claim7.holds Tryz.pinned (.plain (OpenSpec.ofChange actionKnownSpec)) actionKnownCard

/-- THE TIED CARD OF 'fenestralaw10.ActionCounts'. -/
def actionCountsCard : Claim7 := { stood := { row := actionCountsRow, standIns := [], harness := (true, "80a0d55047c0cb1f8f9d6caa089798f6bc02fd6ed1a981cd86f6feeaf99c351f"), looks := true }, kinds := [], alts := [], laidByText := true, laidKinds := [.data, .data, .data, .data, .sentinel, .sentinel, .data, .data, .widerDeep, .widerDeep, .pinned], laidTests := true, laidLooks := .later }
def ActionCountsCardSaid : Prop := Claim7.holds Tryz.pinned (.plain (OpenSpec.ofChange actionCountsSpec)) actionCountsCard

/-- THE SECOND FORM's CARD OF 'fenestralaw10.ActionChecks'. -/
def actionChecksUptoCard : Claim7 := { stood := { row := actionChecksUptoRow, standIns := [], harness := (true, "80a0d55047c0cb1f8f9d6caa089798f6bc02fd6ed1a981cd86f6feeaf99c351f"), looks := true }, kinds := [], alts := [], laidByText := true, laidKinds := [.data, .data, .data, .data, .sentinel, .sentinel, .data, .data, .widerDeep, .widerDeep, .pinned], laidTests := true, laidLooks := .later }
def ActionChecksUptoCardSaid : Prop := Claim7.holds Tryz.pinned (.plain (OpenSpec.upto actionChecksSpec)) actionChecksUptoCard

/-- THE SECOND FORM's CARD OF 'fenestralaw10.ActionOf'. -/
def actionOfUptoCard : Claim7 := { stood := { row := actionOfUptoRow, standIns := [], harness := (true, "80a0d55047c0cb1f8f9d6caa089798f6bc02fd6ed1a981cd86f6feeaf99c351f"), looks := true }, kinds := [], alts := [], laidByText := true, laidKinds := [.data, .data, .data, .data, .sentinel, .sentinel, .data, .data, .widerDeep, .widerDeep, .pinned], laidTests := true, laidLooks := .later }
def ActionOfUptoCardSaid : Prop := Claim7.holds Tryz.pinned (.plain (OpenSpec.upto actionOfSpec)) actionOfUptoCard

/-- THE SECOND FORM's CARD OF 'fenestralaw10.ActionFinals'. -/
def actionFinalsUptoCard : Claim7 := { stood := { row := actionFinalsUptoRow, standIns := [], harness := (true, "80a0d55047c0cb1f8f9d6caa089798f6bc02fd6ed1a981cd86f6feeaf99c351f"), looks := true }, kinds := [], alts := [], laidByText := true, laidKinds := [.data, .data, .data, .data, .sentinel, .sentinel, .data, .data, .widerDeep, .widerDeep, .pinned], laidTests := true, laidLooks := .later }
def ActionFinalsUptoCardSaid : Prop := Claim7.holds Tryz.pinned (.plain (OpenSpec.upto actionFinalsSpec)) actionFinalsUptoCard

/-- THE SECOND FORM's CARD OF 'fenestralaw10.ActionSound'. -/
def actionSoundUptoCard : Claim7 := { stood := { row := actionSoundUptoRow, standIns := [], harness := (true, "80a0d55047c0cb1f8f9d6caa089798f6bc02fd6ed1a981cd86f6feeaf99c351f"), looks := true }, kinds := [], alts := [], laidByText := true, laidKinds := [.data, .data, .data, .data, .sentinel, .sentinel, .data, .data, .widerDeep, .widerDeep, .pinned], laidTests := true, laidLooks := .later }
def ActionSoundUptoCardSaid : Prop := Claim7.holds Tryz.pinned (.plain (OpenSpec.upto actionSoundSpec)) actionSoundUptoCard

/-- THE SECOND FORM's CARD OF 'fenestralaw10.ActionPlain'. -/
def actionPlainUptoCard : Claim7 := { stood := { row := actionPlainUptoRow, standIns := [], harness := (true, "80a0d55047c0cb1f8f9d6caa089798f6bc02fd6ed1a981cd86f6feeaf99c351f"), looks := true }, kinds := [], alts := [], laidByText := true, laidKinds := [.data, .data, .data, .data, .sentinel, .sentinel, .data, .data, .widerDeep, .widerDeep, .pinned], laidTests := true, laidLooks := .later }
def ActionPlainUptoCardSaid : Prop := Claim7.holds Tryz.pinned (.plain (OpenSpec.upto actionPlainSpec)) actionPlainUptoCard

/-- THE SECOND FORM's CARD OF 'fenestralaw10.ActionKnown'. -/
def actionKnownUptoCard : Claim7 := { stood := { row := actionKnownUptoRow, standIns := [], harness := (true, "80a0d55047c0cb1f8f9d6caa089798f6bc02fd6ed1a981cd86f6feeaf99c351f"), looks := true }, kinds := [], alts := [], laidByText := true, laidKinds := [.data, .data, .data, .data, .sentinel, .sentinel, .data, .data, .widerDeep, .widerDeep, .pinned], laidTests := true, laidLooks := .later }
def ActionKnownUptoCardSaid : Prop := Claim7.holds Tryz.pinned (.plain (OpenSpec.upto actionKnownSpec)) actionKnownUptoCard

/-- THE SECOND FORM's CARD OF 'fenestralaw10.ActionCounts'. -/
def actionCountsUptoCard : Claim7 := { stood := { row := actionCountsUptoRow, standIns := [], harness := (true, "80a0d55047c0cb1f8f9d6caa089798f6bc02fd6ed1a981cd86f6feeaf99c351f"), looks := true }, kinds := [], alts := [], laidByText := true, laidKinds := [.data, .data, .data, .data, .sentinel, .sentinel, .data, .data, .widerDeep, .widerDeep, .pinned], laidTests := true, laidLooks := .later }
def ActionCountsUptoCardSaid : Prop := Claim7.holds Tryz.pinned (.plain (OpenSpec.upto actionCountsSpec)) actionCountsUptoCard
end Rows
end Go.Proofs.YthdbijpefkapnaaGreatDoor
