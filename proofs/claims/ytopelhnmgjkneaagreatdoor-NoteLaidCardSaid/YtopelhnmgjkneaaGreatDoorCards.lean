/-
  DERIVED. GIVEN WITH THE SEED: THE CARDS: each row of YtopelhnmgjkneaaGreatDoorRows.lean that lists a variable, with what it lists TIED to the program's text (the seventh form; the later family's looks); each row that meets fmt, with fmt's text TOLD by the authors' own Lean function (tested against real Go, not proved from fmt's source: count such statements apart). THE CARD IS WHAT COUNTS. Prove the row's statement (the work); the ties are given (YtopelhnmgjkneaaGreatDoorTie.lean); close each card by the builder's one call (the guide's Derived/Test/ToyasCard.lean, 'card_holds'). Laid BY PROGRAM, IN A SANDBOX (cutbox-door.mjs). By AI agents, Wed Nov 11 2026. No macro, syntax, notation, axiom, sorry.
-/
import Derived.Test.YtopelhnmgjkneaaGreatDoorRows
import GoSem.ClaimSeven
namespace Go.Proofs.YtopelhnmgjkneaaGreatDoor
namespace Rows

/-- THE TIED CARD OF 'oxgalllaw12.NoteLines'. -/
def noteLinesCard : Claim7 := { stood := { row := noteLinesRow, standIns := [], harness := (true, "14d9ea18fe29258e7b16952f67f25f65cff9062b88d802288d7932fb3414c39e"), looks := true }, kinds := [], alts := [], laidByText := true, laidKinds := [.data, .data, .data, .data, .sentinel, .sentinel, .pinned], laidTests := true, laidLooks := .later }
def NoteLinesCardSaid : Prop := Claim7.holds Tryz.pinned (.plain (OpenSpec.ofChange noteLinesSpec)) noteLinesCard

/-- THE TIED CARD OF 'oxgalllaw12.NoteRuns'. -/
def noteRunsCard : Claim7 := { stood := { row := noteRunsRow, standIns := [], harness := (true, "14d9ea18fe29258e7b16952f67f25f65cff9062b88d802288d7932fb3414c39e"), looks := true }, kinds := [], alts := [], laidByText := true, laidKinds := [.data, .data, .data, .data, .sentinel, .sentinel, .pinned], laidTests := true, laidLooks := .later }
def NoteRunsCardSaid : Prop := Claim7.holds Tryz.pinned (.plain (OpenSpec.ofChange noteRunsSpec)) noteRunsCard

/-- THE TIED CARD OF 'oxgalllaw12.NoteDays'. -/
def noteDaysCard : Claim7 := { stood := { row := noteDaysRow, standIns := [], harness := (true, "14d9ea18fe29258e7b16952f67f25f65cff9062b88d802288d7932fb3414c39e"), looks := true }, kinds := [], alts := [], laidByText := true, laidKinds := [.data, .data, .data, .data, .sentinel, .sentinel, .pinned], laidTests := true, laidLooks := .later }
def NoteDaysCardSaid : Prop := Claim7.holds Tryz.pinned (.plain (OpenSpec.ofChange noteDaysSpec)) noteDaysCard

/-- THE TIED CARD OF 'oxgalllaw12.NoteCounts'. -/
def noteCountsCard : Claim7 := { stood := { row := noteCountsRow, standIns := [], harness := (true, "14d9ea18fe29258e7b16952f67f25f65cff9062b88d802288d7932fb3414c39e"), looks := true }, kinds := [], alts := [], laidByText := true, laidKinds := [.data, .data, .data, .data, .sentinel, .sentinel, .pinned], laidTests := true, laidLooks := .later }
def NoteCountsCardSaid : Prop := Claim7.holds Tryz.pinned (.plain (OpenSpec.ofChange noteCountsSpec)) noteCountsCard

/-- THE TIED CARD OF 'oxgalllaw12.NoteFinds'. -/
def noteFindsCard : Claim7 := { stood := { row := noteFindsRow, standIns := [], harness := (true, "14d9ea18fe29258e7b16952f67f25f65cff9062b88d802288d7932fb3414c39e"), looks := true }, kinds := [], alts := [], laidByText := true, laidKinds := [.data, .data, .data, .data, .sentinel, .sentinel, .pinned], laidTests := true, laidLooks := .later }
def NoteFindsCardSaid : Prop := Claim7.holds Tryz.pinned (.plain (OpenSpec.ofChange noteFindsSpec)) noteFindsCard

/-- THE TIED CARD OF 'oxgalllaw12.NoteSames'. -/
def noteSamesCard : Claim7 := { stood := { row := noteSamesRow, standIns := [], harness := (true, "14d9ea18fe29258e7b16952f67f25f65cff9062b88d802288d7932fb3414c39e"), looks := true }, kinds := [], alts := [], laidByText := true, laidKinds := [.data, .data, .data, .data, .sentinel, .sentinel, .pinned], laidTests := true, laidLooks := .later }
def NoteSamesCardSaid : Prop := Claim7.holds Tryz.pinned (.plain (OpenSpec.ofChange noteSamesSpec)) noteSamesCard

/-- THE TIED CARD OF 'oxgalllaw12.NoteFiles'. -/
def noteFilesCard : Claim7 := { stood := { row := noteFilesRow, standIns := [], harness := (true, "14d9ea18fe29258e7b16952f67f25f65cff9062b88d802288d7932fb3414c39e"), looks := true }, kinds := [], alts := [], laidByText := true, laidKinds := [.data, .data, .data, .data, .sentinel, .sentinel, .pinned], laidTests := true, laidLooks := .later }
def NoteFilesCardSaid : Prop := Claim7.holds Tryz.pinned (.plain (OpenSpec.ofChange noteFilesSpec)) noteFilesCard

/-- THE TIED CARD OF 'oxgalllaw12.NoteReplayed'. -/
def noteReplayedCard : Claim7 := { stood := { row := noteReplayedRow, standIns := [], harness := (true, "14d9ea18fe29258e7b16952f67f25f65cff9062b88d802288d7932fb3414c39e"), looks := true }, kinds := [], alts := [], laidByText := true, laidKinds := [.data, .data, .data, .data, .sentinel, .sentinel, .pinned], laidTests := true, laidLooks := .later }
def NoteReplayedCardSaid : Prop := Claim7.holds Tryz.pinned (.plain (OpenSpec.ofChange noteReplayedSpec)) noteReplayedCard

/-- THE TIED CARD OF 'oxgalllaw12.NoteBackAgain'. -/
def noteBackAgainCard : Claim7 := { stood := { row := noteBackAgainRow, standIns := [], harness := (true, "14d9ea18fe29258e7b16952f67f25f65cff9062b88d802288d7932fb3414c39e"), looks := true }, kinds := [], alts := [], laidByText := true, laidKinds := [.data, .data, .data, .data, .sentinel, .sentinel, .pinned], laidTests := true, laidLooks := .later }
def NoteBackAgainCardSaid : Prop := Claim7.holds Tryz.pinned (.plain (OpenSpec.ofChange noteBackAgainSpec)) noteBackAgainCard

/-- THE TIED CARD OF 'oxgalllaw12.NoteWritten'. -/
def noteWrittenCard : Claim7 := { stood := { row := noteWrittenRow, standIns := [], harness := (true, "14d9ea18fe29258e7b16952f67f25f65cff9062b88d802288d7932fb3414c39e"), looks := true }, kinds := [], alts := [], laidByText := true, laidKinds := [.data, .data, .data, .data, .sentinel, .sentinel, .pinned], laidTests := true, laidLooks := .later }
def NoteWrittenCardSaid : Prop := Claim7.holds Tryz.pinned (.plain (OpenSpec.ofChange noteWrittenSpec)) noteWrittenCard

/-- THE TIED CARD OF 'oxgalllaw12.NoteFiled'. -/
def noteFiledCard : Claim7 := { stood := { row := noteFiledRow, standIns := [], harness := (true, "14d9ea18fe29258e7b16952f67f25f65cff9062b88d802288d7932fb3414c39e"), looks := true }, kinds := [], alts := [], laidByText := true, laidKinds := [.data, .data, .data, .data, .sentinel, .sentinel, .pinned], laidTests := true, laidLooks := .later }
def NoteFiledCardSaid : Prop := Claim7.holds Tryz.pinned (.plain (OpenSpec.ofChange noteFiledSpec)) noteFiledCard

/-- THE TIED CARD OF 'oxgalllaw12.NoteCounted'. -/
def noteCountedCard : Claim7 := { stood := { row := noteCountedRow, standIns := [], harness := (true, "14d9ea18fe29258e7b16952f67f25f65cff9062b88d802288d7932fb3414c39e"), looks := true }, kinds := [], alts := [], laidByText := true, laidKinds := [.data, .data, .data, .data, .sentinel, .sentinel, .pinned], laidTests := true, laidLooks := .later }
def NoteCountedCardSaid : Prop := Claim7.holds Tryz.pinned (.plain (OpenSpec.ofChange noteCountedSpec)) noteCountedCard

/-- THE TIED CARD OF 'oxgalllaw12.NoteFound'. -/
def noteFoundCard : Claim7 := { stood := { row := noteFoundRow, standIns := [], harness := (true, "14d9ea18fe29258e7b16952f67f25f65cff9062b88d802288d7932fb3414c39e"), looks := true }, kinds := [], alts := [], laidByText := true, laidKinds := [.data, .data, .data, .data, .sentinel, .sentinel, .pinned], laidTests := true, laidLooks := .later }
def NoteFoundCardSaid : Prop := Claim7.holds Tryz.pinned (.plain (OpenSpec.ofChange noteFoundSpec)) noteFoundCard

/-- THE TIED CARD OF 'oxgalllaw12.NoteLaid'. -/
def noteLaidCard : Claim7 := { stood := { row := noteLaidRow, standIns := [], harness := (true, "14d9ea18fe29258e7b16952f67f25f65cff9062b88d802288d7932fb3414c39e"), looks := true }, kinds := [], alts := [], laidByText := true, laidKinds := [.data, .data, .data, .data, .sentinel, .sentinel, .pinned], laidTests := true, laidLooks := .later }
def NoteLaidCardSaid : Prop := Claim7.holds Tryz.pinned (.plain (OpenSpec.ofChange noteLaidSpec)) noteLaidCard

/-- THE TIED CARD OF 'oxgalllaw12.NoteKnown'. -/
def noteKnownCard : Claim7 := { stood := { row := noteKnownRow, standIns := [], harness := (true, "14d9ea18fe29258e7b16952f67f25f65cff9062b88d802288d7932fb3414c39e"), looks := true }, kinds := [], alts := [], laidByText := true, laidKinds := [.data, .data, .data, .data, .sentinel, .sentinel, .pinned], laidTests := true, laidLooks := .later }
def NoteKnownCardSaid : Prop := Claim7.holds Tryz.pinned (.plain (OpenSpec.ofChange noteKnownSpec)) noteKnownCard

/-- THE SECOND FORM's CARD OF 'oxgalllaw12.NoteLines'. -/
def noteLinesUptoCard : Claim7 := { stood := { row := noteLinesUptoRow, standIns := [], harness := (true, "14d9ea18fe29258e7b16952f67f25f65cff9062b88d802288d7932fb3414c39e"), looks := true }, kinds := [], alts := [], laidByText := true, laidKinds := [.data, .data, .data, .data, .sentinel, .sentinel, .pinned], laidTests := true, laidLooks := .later }
def NoteLinesUptoCardSaid : Prop := Claim7.holds Tryz.pinned (.plain (OpenSpec.upto noteLinesSpec)) noteLinesUptoCard

/-- THE SECOND FORM's CARD OF 'oxgalllaw12.NoteRuns'. -/
def noteRunsUptoCard : Claim7 := { stood := { row := noteRunsUptoRow, standIns := [], harness := (true, "14d9ea18fe29258e7b16952f67f25f65cff9062b88d802288d7932fb3414c39e"), looks := true }, kinds := [], alts := [], laidByText := true, laidKinds := [.data, .data, .data, .data, .sentinel, .sentinel, .pinned], laidTests := true, laidLooks := .later }
def NoteRunsUptoCardSaid : Prop := Claim7.holds Tryz.pinned (.plain (OpenSpec.upto noteRunsSpec)) noteRunsUptoCard

/-- THE SECOND FORM's CARD OF 'oxgalllaw12.NoteDays'. -/
def noteDaysUptoCard : Claim7 := { stood := { row := noteDaysUptoRow, standIns := [], harness := (true, "14d9ea18fe29258e7b16952f67f25f65cff9062b88d802288d7932fb3414c39e"), looks := true }, kinds := [], alts := [], laidByText := true, laidKinds := [.data, .data, .data, .data, .sentinel, .sentinel, .pinned], laidTests := true, laidLooks := .later }
def NoteDaysUptoCardSaid : Prop := Claim7.holds Tryz.pinned (.plain (OpenSpec.upto noteDaysSpec)) noteDaysUptoCard

/-- THE SECOND FORM's CARD OF 'oxgalllaw12.NoteCounts'. -/
def noteCountsUptoCard : Claim7 := { stood := { row := noteCountsUptoRow, standIns := [], harness := (true, "14d9ea18fe29258e7b16952f67f25f65cff9062b88d802288d7932fb3414c39e"), looks := true }, kinds := [], alts := [], laidByText := true, laidKinds := [.data, .data, .data, .data, .sentinel, .sentinel, .pinned], laidTests := true, laidLooks := .later }
def NoteCountsUptoCardSaid : Prop := Claim7.holds Tryz.pinned (.plain (OpenSpec.upto noteCountsSpec)) noteCountsUptoCard

/-- THE SECOND FORM's CARD OF 'oxgalllaw12.NoteFinds'. -/
def noteFindsUptoCard : Claim7 := { stood := { row := noteFindsUptoRow, standIns := [], harness := (true, "14d9ea18fe29258e7b16952f67f25f65cff9062b88d802288d7932fb3414c39e"), looks := true }, kinds := [], alts := [], laidByText := true, laidKinds := [.data, .data, .data, .data, .sentinel, .sentinel, .pinned], laidTests := true, laidLooks := .later }
def NoteFindsUptoCardSaid : Prop := Claim7.holds Tryz.pinned (.plain (OpenSpec.upto noteFindsSpec)) noteFindsUptoCard

/-- THE SECOND FORM's CARD OF 'oxgalllaw12.NoteSames'. -/
def noteSamesUptoCard : Claim7 := { stood := { row := noteSamesUptoRow, standIns := [], harness := (true, "14d9ea18fe29258e7b16952f67f25f65cff9062b88d802288d7932fb3414c39e"), looks := true }, kinds := [], alts := [], laidByText := true, laidKinds := [.data, .data, .data, .data, .sentinel, .sentinel, .pinned], laidTests := true, laidLooks := .later }
def NoteSamesUptoCardSaid : Prop := Claim7.holds Tryz.pinned (.plain (OpenSpec.upto noteSamesSpec)) noteSamesUptoCard

/-- THE SECOND FORM's CARD OF 'oxgalllaw12.NoteFiles'. -/
def noteFilesUptoCard : Claim7 := { stood := { row := noteFilesUptoRow, standIns := [], harness := (true, "14d9ea18fe29258e7b16952f67f25f65cff9062b88d802288d7932fb3414c39e"), looks := true }, kinds := [], alts := [], laidByText := true, laidKinds := [.data, .data, .data, .data, .sentinel, .sentinel, .pinned], laidTests := true, laidLooks := .later }
def NoteFilesUptoCardSaid : Prop := Claim7.holds Tryz.pinned (.plain (OpenSpec.upto noteFilesSpec)) noteFilesUptoCard

/-- THE SECOND FORM's CARD OF 'oxgalllaw12.NoteReplayed'. -/
def noteReplayedUptoCard : Claim7 := { stood := { row := noteReplayedUptoRow, standIns := [], harness := (true, "14d9ea18fe29258e7b16952f67f25f65cff9062b88d802288d7932fb3414c39e"), looks := true }, kinds := [], alts := [], laidByText := true, laidKinds := [.data, .data, .data, .data, .sentinel, .sentinel, .pinned], laidTests := true, laidLooks := .later }
def NoteReplayedUptoCardSaid : Prop := Claim7.holds Tryz.pinned (.plain (OpenSpec.upto noteReplayedSpec)) noteReplayedUptoCard

/-- THE SECOND FORM's CARD OF 'oxgalllaw12.NoteBackAgain'. -/
def noteBackAgainUptoCard : Claim7 := { stood := { row := noteBackAgainUptoRow, standIns := [], harness := (true, "14d9ea18fe29258e7b16952f67f25f65cff9062b88d802288d7932fb3414c39e"), looks := true }, kinds := [], alts := [], laidByText := true, laidKinds := [.data, .data, .data, .data, .sentinel, .sentinel, .pinned], laidTests := true, laidLooks := .later }
def NoteBackAgainUptoCardSaid : Prop := Claim7.holds Tryz.pinned (.plain (OpenSpec.upto noteBackAgainSpec)) noteBackAgainUptoCard

/-- THE SECOND FORM's CARD OF 'oxgalllaw12.NoteWritten'. -/
def noteWrittenUptoCard : Claim7 := { stood := { row := noteWrittenUptoRow, standIns := [], harness := (true, "14d9ea18fe29258e7b16952f67f25f65cff9062b88d802288d7932fb3414c39e"), looks := true }, kinds := [], alts := [], laidByText := true, laidKinds := [.data, .data, .data, .data, .sentinel, .sentinel, .pinned], laidTests := true, laidLooks := .later }
def NoteWrittenUptoCardSaid : Prop := Claim7.holds Tryz.pinned (.plain (OpenSpec.upto noteWrittenSpec)) noteWrittenUptoCard

/-- THE SECOND FORM's CARD OF 'oxgalllaw12.NoteFiled'. -/
def noteFiledUptoCard : Claim7 := { stood := { row := noteFiledUptoRow, standIns := [], harness := (true, "14d9ea18fe29258e7b16952f67f25f65cff9062b88d802288d7932fb3414c39e"), looks := true }, kinds := [], alts := [], laidByText := true, laidKinds := [.data, .data, .data, .data, .sentinel, .sentinel, .pinned], laidTests := true, laidLooks := .later }
def NoteFiledUptoCardSaid : Prop := Claim7.holds Tryz.pinned (.plain (OpenSpec.upto noteFiledSpec)) noteFiledUptoCard

/-- THE SECOND FORM's CARD OF 'oxgalllaw12.NoteCounted'. -/
def noteCountedUptoCard : Claim7 := { stood := { row := noteCountedUptoRow, standIns := [], harness := (true, "14d9ea18fe29258e7b16952f67f25f65cff9062b88d802288d7932fb3414c39e"), looks := true }, kinds := [], alts := [], laidByText := true, laidKinds := [.data, .data, .data, .data, .sentinel, .sentinel, .pinned], laidTests := true, laidLooks := .later }
def NoteCountedUptoCardSaid : Prop := Claim7.holds Tryz.pinned (.plain (OpenSpec.upto noteCountedSpec)) noteCountedUptoCard

/-- THE SECOND FORM's CARD OF 'oxgalllaw12.NoteFound'. -/
def noteFoundUptoCard : Claim7 := { stood := { row := noteFoundUptoRow, standIns := [], harness := (true, "14d9ea18fe29258e7b16952f67f25f65cff9062b88d802288d7932fb3414c39e"), looks := true }, kinds := [], alts := [], laidByText := true, laidKinds := [.data, .data, .data, .data, .sentinel, .sentinel, .pinned], laidTests := true, laidLooks := .later }
def NoteFoundUptoCardSaid : Prop := Claim7.holds Tryz.pinned (.plain (OpenSpec.upto noteFoundSpec)) noteFoundUptoCard

/-- THE SECOND FORM's CARD OF 'oxgalllaw12.NoteLaid'. -/
def noteLaidUptoCard : Claim7 := { stood := { row := noteLaidUptoRow, standIns := [], harness := (true, "14d9ea18fe29258e7b16952f67f25f65cff9062b88d802288d7932fb3414c39e"), looks := true }, kinds := [], alts := [], laidByText := true, laidKinds := [.data, .data, .data, .data, .sentinel, .sentinel, .pinned], laidTests := true, laidLooks := .later }
def NoteLaidUptoCardSaid : Prop := Claim7.holds Tryz.pinned (.plain (OpenSpec.upto noteLaidSpec)) noteLaidUptoCard

/-- THE SECOND FORM's CARD OF 'oxgalllaw12.NoteKnown'. -/
def noteKnownUptoCard : Claim7 := { stood := { row := noteKnownUptoRow, standIns := [], harness := (true, "14d9ea18fe29258e7b16952f67f25f65cff9062b88d802288d7932fb3414c39e"), looks := true }, kinds := [], alts := [], laidByText := true, laidKinds := [.data, .data, .data, .data, .sentinel, .sentinel, .pinned], laidTests := true, laidLooks := .later }
def NoteKnownUptoCardSaid : Prop := Claim7.holds Tryz.pinned (.plain (OpenSpec.upto noteKnownSpec)) noteKnownUptoCard
end Rows
end Go.Proofs.YtopelhnmgjkneaaGreatDoor
