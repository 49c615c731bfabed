/-
  DERIVED. GIVEN WITH THE SEED: THE CARDS: each row of YtlahcgdnieenpaaGreatDoorRows.lean that lists a variable, with what it lists TIED to the program's text (the seventh form; the later family's looks); each row that meets fmt, with fmt's text TOLD by the authors' own Lean function (tested against real Go, not proved from fmt's source: count such statements apart). THE CARD IS WHAT COUNTS. Prove the row's statement (the work); the ties are given (YtlahcgdnieenpaaGreatDoorTie.lean); close each card by the builder's one call (the guide's Derived/Test/ToyasCard.lean, 'card_holds'). Laid BY PROGRAM, IN A SANDBOX (cutbox-door.mjs). By AI agents, Wed Nov 11 2026. No macro, syntax, notation, axiom, sorry.
-/
import Derived.Test.YtlahcgdnieenpaaGreatDoorRows
import GoSem.ClaimSeven
namespace Go.Proofs.YtlahcgdnieenpaaGreatDoor
namespace Rows

/-- THE TIED CARD OF 'oxgalltop.TopRoundCombs'. -/
def topRoundCombsCard : Claim7 := { stood := { row := topRoundCombsRow, standIns := [], harness := (true, "ad380be4d3f95229a2cc48498b3d3b203099f129e3b0ef10760ca3cbb8ed0dc2"), looks := false }, kinds := [], alts := [], laidByText := true, laidKinds := [.data, .data], laidTests := true, laidLooks := .later }
def TopRoundCombsCardSaid : Prop := Claim7.holds Tryz.pinned (.plain (OpenSpec.ofChange topRoundCombsSpec)) topRoundCombsCard

/-- THE TIED CARD OF 'oxgalltop.TopPermutedStrokes'. -/
def topPermutedStrokesCard : Claim7 := { stood := { row := topPermutedStrokesRow, standIns := [], harness := (true, "ad380be4d3f95229a2cc48498b3d3b203099f129e3b0ef10760ca3cbb8ed0dc2"), looks := false }, kinds := [], alts := [], laidByText := true, laidKinds := [.data, .data], laidTests := true, laidLooks := .later }
def TopPermutedStrokesCardSaid : Prop := Claim7.holds Tryz.pinned (.plain (OpenSpec.ofChange topPermutedStrokesSpec)) topPermutedStrokesCard

/-- THE TIED CARD OF 'oxgalltop.TopOrderedColours'. -/
def topOrderedColoursCard : Claim7 := { stood := { row := topOrderedColoursRow, standIns := [], harness := (true, "ad380be4d3f95229a2cc48498b3d3b203099f129e3b0ef10760ca3cbb8ed0dc2"), looks := false }, kinds := [], alts := [], laidByText := true, laidKinds := [.data, .data], laidTests := true, laidLooks := .later }
def TopOrderedColoursCardSaid : Prop := Claim7.holds Tryz.pinned (.plain (OpenSpec.ofChange topOrderedColoursSpec)) topOrderedColoursCard

/-- THE SECOND FORM's CARD OF 'oxgalltop.TopRoundCombs'. -/
def topRoundCombsUptoCard : Claim7 := { stood := { row := topRoundCombsUptoRow, standIns := [], harness := (true, "ad380be4d3f95229a2cc48498b3d3b203099f129e3b0ef10760ca3cbb8ed0dc2"), looks := false }, kinds := [], alts := [], laidByText := true, laidKinds := [.data, .data], laidTests := true, laidLooks := .later }
def TopRoundCombsUptoCardSaid : Prop := Claim7.holds Tryz.pinned (.plain (OpenSpec.upto topRoundCombsSpec)) topRoundCombsUptoCard

/-- THE SECOND FORM's CARD OF 'oxgalltop.TopPermutedStrokes'. -/
def topPermutedStrokesUptoCard : Claim7 := { stood := { row := topPermutedStrokesUptoRow, standIns := [], harness := (true, "ad380be4d3f95229a2cc48498b3d3b203099f129e3b0ef10760ca3cbb8ed0dc2"), looks := false }, kinds := [], alts := [], laidByText := true, laidKinds := [.data, .data], laidTests := true, laidLooks := .later }
def TopPermutedStrokesUptoCardSaid : Prop := Claim7.holds Tryz.pinned (.plain (OpenSpec.upto topPermutedStrokesSpec)) topPermutedStrokesUptoCard

/-- THE SECOND FORM's CARD OF 'oxgalltop.TopOrderedColours'. -/
def topOrderedColoursUptoCard : Claim7 := { stood := { row := topOrderedColoursUptoRow, standIns := [], harness := (true, "ad380be4d3f95229a2cc48498b3d3b203099f129e3b0ef10760ca3cbb8ed0dc2"), looks := false }, kinds := [], alts := [], laidByText := true, laidKinds := [.data, .data], laidTests := true, laidLooks := .later }
def TopOrderedColoursUptoCardSaid : Prop := Claim7.holds Tryz.pinned (.plain (OpenSpec.upto topOrderedColoursSpec)) topOrderedColoursUptoCard
end Rows
end Go.Proofs.YtlahcgdnieenpaaGreatDoor
