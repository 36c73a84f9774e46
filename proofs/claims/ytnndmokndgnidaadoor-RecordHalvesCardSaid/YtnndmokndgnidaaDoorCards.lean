/-
  DERIVED. GIVEN WITH THE SEED: THE CARDS: each row of YtnndmokndgnidaaDoorRows.lean that lists a variable, with what it lists TIED to the program's text (the seventh form; the later family's looks); each row that meets fmt, with fmt's text TOLD by the authors' own Lean function (tested against real Go, not proved from fmt's source: count such statements apart). THE CARD IS WHAT COUNTS. Prove the row's statement (the work); the ties are given (YtnndmokndgnidaaDoorTie.lean); close each card by the builder's one call (the guide's Derived/Test/ToyasCard.lean, 'card_holds'). Laid BY PROGRAM, IN A SANDBOX (cutbox-door.mjs). By AI agents, Wed Nov 11 2026. No macro, syntax, notation, axiom, sorry.
-/
import Derived.Test.YtnndmokndgnidaaDoorRows
import GoSem.ClaimSeven
namespace Go.Proofs.YtnndmokndgnidaaDoor
namespace Rows

/-- THE TIED CARD OF 'fenestralaw42.RecordTimes'. -/
def recordTimesCard : Claim7 := { stood := { row := recordTimesRow, standIns := [], harness := (true, "81837ad3dbd7521d520e1a22a2e1242bbabbb0b360ff6f38730e686100d3bd82"), looks := true }, kinds := [], alts := [], laidByText := true, laidKinds := [.data, .data, .data, .data, .sentinel, .sentinel, .pinned], laidTests := true, laidLooks := .later }
def RecordTimesCardSaid : Prop := Claim7.holds Tryd.pinned (.plain (OpenSpec.ofChange recordTimesSpec)) recordTimesCard

/-- THE TIED CARD OF 'fenestralaw42.RecordFast'. -/
def recordFastCard : Claim7 := { stood := { row := recordFastRow, standIns := [], harness := (true, "81837ad3dbd7521d520e1a22a2e1242bbabbb0b360ff6f38730e686100d3bd82"), looks := true }, kinds := [], alts := [], laidByText := true, laidKinds := [.data, .data, .data, .data, .sentinel, .sentinel, .pinned], laidTests := true, laidLooks := .later }
def RecordFastCardSaid : Prop := Claim7.holds Tryd.pinned (.plain (OpenSpec.ofChange recordFastSpec)) recordFastCard

/-- THE TIED CARD OF 'fenestralaw42.RecordHalves'. -/
def recordHalvesCard : Claim7 := { stood := { row := recordHalvesRow, standIns := [], harness := (true, "81837ad3dbd7521d520e1a22a2e1242bbabbb0b360ff6f38730e686100d3bd82"), looks := true }, kinds := [], alts := [], laidByText := true, laidKinds := [.data, .data, .data, .data, .sentinel, .sentinel, .pinned], laidTests := true, laidLooks := .later }
def RecordHalvesCardSaid : Prop := Claim7.holds Tryd.pinned (.plain (OpenSpec.ofChange recordHalvesSpec)) recordHalvesCard

/-- THE TIED CARD OF 'fenestralaw42.RecordBack'. -/
def recordBackCard : Claim7 := { stood := { row := recordBackRow, standIns := [], harness := (true, "81837ad3dbd7521d520e1a22a2e1242bbabbb0b360ff6f38730e686100d3bd82"), looks := true }, kinds := [], alts := [], laidByText := true, laidKinds := [.data, .data, .data, .data, .sentinel, .sentinel, .pinned], laidTests := true, laidLooks := .later }
def RecordBackCardSaid : Prop := Claim7.holds Tryd.pinned (.plain (OpenSpec.ofChange recordBackSpec)) recordBackCard

/-- THE SECOND FORM's CARD OF 'fenestralaw42.RecordTimes'. -/
def recordTimesUptoCard : Claim7 := { stood := { row := recordTimesUptoRow, standIns := [], harness := (true, "81837ad3dbd7521d520e1a22a2e1242bbabbb0b360ff6f38730e686100d3bd82"), looks := true }, kinds := [], alts := [], laidByText := true, laidKinds := [.data, .data, .data, .data, .sentinel, .sentinel, .pinned], laidTests := true, laidLooks := .later }
def RecordTimesUptoCardSaid : Prop := Claim7.holds Tryd.pinned (.plain (OpenSpec.upto recordTimesSpec)) recordTimesUptoCard

/-- THE SECOND FORM's CARD OF 'fenestralaw42.RecordFast'. -/
def recordFastUptoCard : Claim7 := { stood := { row := recordFastUptoRow, standIns := [], harness := (true, "81837ad3dbd7521d520e1a22a2e1242bbabbb0b360ff6f38730e686100d3bd82"), looks := true }, kinds := [], alts := [], laidByText := true, laidKinds := [.data, .data, .data, .data, .sentinel, .sentinel, .pinned], laidTests := true, laidLooks := .later }
def RecordFastUptoCardSaid : Prop := Claim7.holds Tryd.pinned (.plain (OpenSpec.upto recordFastSpec)) recordFastUptoCard

/-- THE SECOND FORM's CARD OF 'fenestralaw42.RecordHalves'. -/
def recordHalvesUptoCard : Claim7 := { stood := { row := recordHalvesUptoRow, standIns := [], harness := (true, "81837ad3dbd7521d520e1a22a2e1242bbabbb0b360ff6f38730e686100d3bd82"), looks := true }, kinds := [], alts := [], laidByText := true, laidKinds := [.data, .data, .data, .data, .sentinel, .sentinel, .pinned], laidTests := true, laidLooks := .later }
def RecordHalvesUptoCardSaid : Prop := Claim7.holds Tryd.pinned (.plain (OpenSpec.upto recordHalvesSpec)) recordHalvesUptoCard

/-- THE SECOND FORM's CARD OF 'fenestralaw42.RecordBack'. -/
def recordBackUptoCard : Claim7 := { stood := { row := recordBackUptoRow, standIns := [], harness := (true, "81837ad3dbd7521d520e1a22a2e1242bbabbb0b360ff6f38730e686100d3bd82"), looks := true }, kinds := [], alts := [], laidByText := true, laidKinds := [.data, .data, .data, .data, .sentinel, .sentinel, .pinned], laidTests := true, laidLooks := .later }
def RecordBackUptoCardSaid : Prop := Claim7.holds Tryd.pinned (.plain (OpenSpec.upto recordBackSpec)) recordBackUptoCard
end Rows
end Go.Proofs.YtnndmokndgnidaaDoor
