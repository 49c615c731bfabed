/-
  DERIVED. GIVEN WITH THE SEED: THE CARDS: each row of YtfpfnlnmilndmaaGreatDoorRows.lean that lists a variable, with what it lists TIED to the program's text (the seventh form; the later family's looks); each row that meets fmt, with fmt's text TOLD by the authors' own Lean function (tested against real Go, not proved from fmt's source: count such statements apart). THE CARD IS WHAT COUNTS. Prove the row's statement (the work); the ties are given (YtfpfnlnmilndmaaGreatDoorTie.lean); close each card by the builder's one call (the guide's Derived/Test/ToyasCard.lean, 'card_holds'). Laid BY PROGRAM, IN A SANDBOX (cutbox-door.mjs). By AI agents, Wed Nov 11 2026. No macro, syntax, notation, axiom, sorry.
-/
import Derived.Test.YtfpfnlnmilndmaaGreatDoorRows
import GoSem.ClaimSeven
namespace Go.Proofs.YtfpfnlnmilndmaaGreatDoor
namespace Rows

/-- THE TIED CARD OF 'oxgalllaw03.CombSheets'. -/
def combSheetsCard : Claim7 := { stood := { row := combSheetsRow, standIns := [], harness := (true, "980cbebbb4017a17790e042acc514bfbab653322ff5a30dd4e8ed4fdf5b772c0"), looks := false }, kinds := [], alts := [], laidByText := true, laidKinds := [.data, .data], laidTests := true, laidLooks := .later }
def CombSheetsCardSaid : Prop := Claim7.holds Tryz.pinned (.plain (OpenSpec.ofChange combSheetsSpec)) combSheetsCard

/-- THE TIED CARD OF 'oxgalllaw03.CombBests'. -/
def combBestsCard : Claim7 := { stood := { row := combBestsRow, standIns := [], harness := (true, "980cbebbb4017a17790e042acc514bfbab653322ff5a30dd4e8ed4fdf5b772c0"), looks := false }, kinds := [], alts := [], laidByText := true, laidKinds := [.data, .data], laidTests := true, laidLooks := .later }
def CombBestsCardSaid : Prop := Claim7.holds Tryz.pinned (.plain (OpenSpec.ofChange combBestsSpec)) combBestsCard

/-- THE TIED CARD OF 'oxgalllaw03.CombAparts'. -/
def combApartsCard : Claim7 := { stood := { row := combApartsRow, standIns := [], harness := (true, "980cbebbb4017a17790e042acc514bfbab653322ff5a30dd4e8ed4fdf5b772c0"), looks := false }, kinds := [], alts := [], laidByText := true, laidKinds := [.data, .data], laidTests := true, laidLooks := .later }
def CombApartsCardSaid : Prop := Claim7.holds Tryz.pinned (.plain (OpenSpec.ofChange combApartsSpec)) combApartsCard

/-- THE TIED CARD OF 'oxgalllaw03.CombKinds'. -/
def combKindsCard : Claim7 := { stood := { row := combKindsRow, standIns := [], harness := (true, "980cbebbb4017a17790e042acc514bfbab653322ff5a30dd4e8ed4fdf5b772c0"), looks := false }, kinds := [], alts := [], laidByText := true, laidKinds := [.data, .data], laidTests := true, laidLooks := .later }
def CombKindsCardSaid : Prop := Claim7.holds Tryz.pinned (.plain (OpenSpec.ofChange combKindsSpec)) combKindsCard

/-- THE TIED CARD OF 'oxgalllaw03.CombMeets'. -/
def combMeetsCard : Claim7 := { stood := { row := combMeetsRow, standIns := [], harness := (true, "980cbebbb4017a17790e042acc514bfbab653322ff5a30dd4e8ed4fdf5b772c0"), looks := false }, kinds := [], alts := [], laidByText := true, laidKinds := [.data, .data], laidTests := true, laidLooks := .later }
def CombMeetsCardSaid : Prop := Claim7.holds Tryz.pinned (.plain (OpenSpec.ofChange combMeetsSpec)) combMeetsCard

/-- THE TIED CARD OF 'oxgalllaw03.CombProved'. -/
def combProvedCard : Claim7 := { stood := { row := combProvedRow, standIns := [], harness := (true, "980cbebbb4017a17790e042acc514bfbab653322ff5a30dd4e8ed4fdf5b772c0"), looks := false }, kinds := [], alts := [], laidByText := true, laidKinds := [.data, .data], laidTests := true, laidLooks := .later }
def CombProvedCardSaid : Prop := Claim7.holds Tryz.pinned (.plain (OpenSpec.ofChange combProvedSpec)) combProvedCard

/-- THE TIED CARD OF 'oxgalllaw03.CombEither'. -/
def combEitherCard : Claim7 := { stood := { row := combEitherRow, standIns := [], harness := (true, "980cbebbb4017a17790e042acc514bfbab653322ff5a30dd4e8ed4fdf5b772c0"), looks := false }, kinds := [], alts := [], laidByText := true, laidKinds := [.data, .data], laidTests := true, laidLooks := .later }
def CombEitherCardSaid : Prop := Claim7.holds Tryz.pinned (.plain (OpenSpec.ofChange combEitherSpec)) combEitherCard

/-- THE TIED CARD OF 'oxgalllaw03.CombMore'. -/
def combMoreCard : Claim7 := { stood := { row := combMoreRow, standIns := [], harness := (true, "980cbebbb4017a17790e042acc514bfbab653322ff5a30dd4e8ed4fdf5b772c0"), looks := false }, kinds := [], alts := [], laidByText := true, laidKinds := [.data, .data], laidTests := true, laidLooks := .later }
def CombMoreCardSaid : Prop := Claim7.holds Tryz.pinned (.plain (OpenSpec.ofChange combMoreSpec)) combMoreCard

/-- THE TIED CARD OF 'oxgalllaw03.CombAlone'. -/
def combAloneCard : Claim7 := { stood := { row := combAloneRow, standIns := [], harness := (true, "980cbebbb4017a17790e042acc514bfbab653322ff5a30dd4e8ed4fdf5b772c0"), looks := false }, kinds := [], alts := [], laidByText := true, laidKinds := [.data, .data], laidTests := true, laidLooks := .later }
def CombAloneCardSaid : Prop := Claim7.holds Tryz.pinned (.plain (OpenSpec.ofChange combAloneSpec)) combAloneCard

/-- THE TIED CARD OF 'oxgalllaw03.CombCounted'. -/
def combCountedCard : Claim7 := { stood := { row := combCountedRow, standIns := [], harness := (true, "980cbebbb4017a17790e042acc514bfbab653322ff5a30dd4e8ed4fdf5b772c0"), looks := false }, kinds := [], alts := [], laidByText := true, laidKinds := [.data, .data], laidTests := true, laidLooks := .later }
def CombCountedCardSaid : Prop := Claim7.holds Tryz.pinned (.plain (OpenSpec.ofChange combCountedSpec)) combCountedCard

/-- THE TIED CARD OF 'oxgalllaw03.CombMoved'. -/
def combMovedCard : Claim7 := { stood := { row := combMovedRow, standIns := [], harness := (true, "980cbebbb4017a17790e042acc514bfbab653322ff5a30dd4e8ed4fdf5b772c0"), looks := false }, kinds := [], alts := [], laidByText := true, laidKinds := [.data, .data], laidTests := true, laidLooks := .later }
def CombMovedCardSaid : Prop := Claim7.holds Tryz.pinned (.plain (OpenSpec.ofChange combMovedSpec)) combMovedCard

/-- THE TIED CARD OF 'oxgalllaw03.CombMet'. -/
def combMetCard : Claim7 := { stood := { row := combMetRow, standIns := [], harness := (true, "980cbebbb4017a17790e042acc514bfbab653322ff5a30dd4e8ed4fdf5b772c0"), looks := false }, kinds := [], alts := [], laidByText := true, laidKinds := [.data, .data], laidTests := true, laidLooks := .later }
def CombMetCardSaid : Prop := Claim7.holds Tryz.pinned (.plain (OpenSpec.ofChange combMetSpec)) combMetCard

/-- THE TIED CARD OF 'oxgalllaw03.CombKnown'. -/
def combKnownCard : Claim7 := { stood := { row := combKnownRow, standIns := [], harness := (true, "980cbebbb4017a17790e042acc514bfbab653322ff5a30dd4e8ed4fdf5b772c0"), looks := false }, kinds := [], alts := [], laidByText := true, laidKinds := [.data, .data], laidTests := true, laidLooks := .later }
def CombKnownCardSaid : Prop := Claim7.holds Tryz.pinned (.plain (OpenSpec.ofChange combKnownSpec)) combKnownCard

/-- THE SECOND FORM's CARD OF 'oxgalllaw03.CombSheets'. -/
def combSheetsUptoCard : Claim7 := { stood := { row := combSheetsUptoRow, standIns := [], harness := (true, "980cbebbb4017a17790e042acc514bfbab653322ff5a30dd4e8ed4fdf5b772c0"), looks := false }, kinds := [], alts := [], laidByText := true, laidKinds := [.data, .data], laidTests := true, laidLooks := .later }
def CombSheetsUptoCardSaid : Prop := Claim7.holds Tryz.pinned (.plain (OpenSpec.upto combSheetsSpec)) combSheetsUptoCard

/-- THE SECOND FORM's CARD OF 'oxgalllaw03.CombBests'. -/
def combBestsUptoCard : Claim7 := { stood := { row := combBestsUptoRow, standIns := [], harness := (true, "980cbebbb4017a17790e042acc514bfbab653322ff5a30dd4e8ed4fdf5b772c0"), looks := false }, kinds := [], alts := [], laidByText := true, laidKinds := [.data, .data], laidTests := true, laidLooks := .later }
def CombBestsUptoCardSaid : Prop := Claim7.holds Tryz.pinned (.plain (OpenSpec.upto combBestsSpec)) combBestsUptoCard

/-- THE SECOND FORM's CARD OF 'oxgalllaw03.CombAparts'. -/
def combApartsUptoCard : Claim7 := { stood := { row := combApartsUptoRow, standIns := [], harness := (true, "980cbebbb4017a17790e042acc514bfbab653322ff5a30dd4e8ed4fdf5b772c0"), looks := false }, kinds := [], alts := [], laidByText := true, laidKinds := [.data, .data], laidTests := true, laidLooks := .later }
def CombApartsUptoCardSaid : Prop := Claim7.holds Tryz.pinned (.plain (OpenSpec.upto combApartsSpec)) combApartsUptoCard

/-- THE SECOND FORM's CARD OF 'oxgalllaw03.CombKinds'. -/
def combKindsUptoCard : Claim7 := { stood := { row := combKindsUptoRow, standIns := [], harness := (true, "980cbebbb4017a17790e042acc514bfbab653322ff5a30dd4e8ed4fdf5b772c0"), looks := false }, kinds := [], alts := [], laidByText := true, laidKinds := [.data, .data], laidTests := true, laidLooks := .later }
def CombKindsUptoCardSaid : Prop := Claim7.holds Tryz.pinned (.plain (OpenSpec.upto combKindsSpec)) combKindsUptoCard

/-- THE SECOND FORM's CARD OF 'oxgalllaw03.CombMeets'. -/
def combMeetsUptoCard : Claim7 := { stood := { row := combMeetsUptoRow, standIns := [], harness := (true, "980cbebbb4017a17790e042acc514bfbab653322ff5a30dd4e8ed4fdf5b772c0"), looks := false }, kinds := [], alts := [], laidByText := true, laidKinds := [.data, .data], laidTests := true, laidLooks := .later }
def CombMeetsUptoCardSaid : Prop := Claim7.holds Tryz.pinned (.plain (OpenSpec.upto combMeetsSpec)) combMeetsUptoCard

/-- THE SECOND FORM's CARD OF 'oxgalllaw03.CombProved'. -/
def combProvedUptoCard : Claim7 := { stood := { row := combProvedUptoRow, standIns := [], harness := (true, "980cbebbb4017a17790e042acc514bfbab653322ff5a30dd4e8ed4fdf5b772c0"), looks := false }, kinds := [], alts := [], laidByText := true, laidKinds := [.data, .data], laidTests := true, laidLooks := .later }
def CombProvedUptoCardSaid : Prop := Claim7.holds Tryz.pinned (.plain (OpenSpec.upto combProvedSpec)) combProvedUptoCard

/-- THE SECOND FORM's CARD OF 'oxgalllaw03.CombEither'. -/
def combEitherUptoCard : Claim7 := { stood := { row := combEitherUptoRow, standIns := [], harness := (true, "980cbebbb4017a17790e042acc514bfbab653322ff5a30dd4e8ed4fdf5b772c0"), looks := false }, kinds := [], alts := [], laidByText := true, laidKinds := [.data, .data], laidTests := true, laidLooks := .later }
def CombEitherUptoCardSaid : Prop := Claim7.holds Tryz.pinned (.plain (OpenSpec.upto combEitherSpec)) combEitherUptoCard

/-- THE SECOND FORM's CARD OF 'oxgalllaw03.CombMore'. -/
def combMoreUptoCard : Claim7 := { stood := { row := combMoreUptoRow, standIns := [], harness := (true, "980cbebbb4017a17790e042acc514bfbab653322ff5a30dd4e8ed4fdf5b772c0"), looks := false }, kinds := [], alts := [], laidByText := true, laidKinds := [.data, .data], laidTests := true, laidLooks := .later }
def CombMoreUptoCardSaid : Prop := Claim7.holds Tryz.pinned (.plain (OpenSpec.upto combMoreSpec)) combMoreUptoCard

/-- THE SECOND FORM's CARD OF 'oxgalllaw03.CombAlone'. -/
def combAloneUptoCard : Claim7 := { stood := { row := combAloneUptoRow, standIns := [], harness := (true, "980cbebbb4017a17790e042acc514bfbab653322ff5a30dd4e8ed4fdf5b772c0"), looks := false }, kinds := [], alts := [], laidByText := true, laidKinds := [.data, .data], laidTests := true, laidLooks := .later }
def CombAloneUptoCardSaid : Prop := Claim7.holds Tryz.pinned (.plain (OpenSpec.upto combAloneSpec)) combAloneUptoCard

/-- THE SECOND FORM's CARD OF 'oxgalllaw03.CombCounted'. -/
def combCountedUptoCard : Claim7 := { stood := { row := combCountedUptoRow, standIns := [], harness := (true, "980cbebbb4017a17790e042acc514bfbab653322ff5a30dd4e8ed4fdf5b772c0"), looks := false }, kinds := [], alts := [], laidByText := true, laidKinds := [.data, .data], laidTests := true, laidLooks := .later }
def CombCountedUptoCardSaid : Prop := Claim7.holds Tryz.pinned (.plain (OpenSpec.upto combCountedSpec)) combCountedUptoCard

/-- THE SECOND FORM's CARD OF 'oxgalllaw03.CombMoved'. -/
def combMovedUptoCard : Claim7 := { stood := { row := combMovedUptoRow, standIns := [], harness := (true, "980cbebbb4017a17790e042acc514bfbab653322ff5a30dd4e8ed4fdf5b772c0"), looks := false }, kinds := [], alts := [], laidByText := true, laidKinds := [.data, .data], laidTests := true, laidLooks := .later }
def CombMovedUptoCardSaid : Prop := Claim7.holds Tryz.pinned (.plain (OpenSpec.upto combMovedSpec)) combMovedUptoCard

/-- THE SECOND FORM's CARD OF 'oxgalllaw03.CombMet'. -/
def combMetUptoCard : Claim7 := { stood := { row := combMetUptoRow, standIns := [], harness := (true, "980cbebbb4017a17790e042acc514bfbab653322ff5a30dd4e8ed4fdf5b772c0"), looks := false }, kinds := [], alts := [], laidByText := true, laidKinds := [.data, .data], laidTests := true, laidLooks := .later }
def CombMetUptoCardSaid : Prop := Claim7.holds Tryz.pinned (.plain (OpenSpec.upto combMetSpec)) combMetUptoCard

/-- THE SECOND FORM's CARD OF 'oxgalllaw03.CombKnown'. -/
def combKnownUptoCard : Claim7 := { stood := { row := combKnownUptoRow, standIns := [], harness := (true, "980cbebbb4017a17790e042acc514bfbab653322ff5a30dd4e8ed4fdf5b772c0"), looks := false }, kinds := [], alts := [], laidByText := true, laidKinds := [.data, .data], laidTests := true, laidLooks := .later }
def CombKnownUptoCardSaid : Prop := Claim7.holds Tryz.pinned (.plain (OpenSpec.upto combKnownSpec)) combKnownUptoCard
end Rows
end Go.Proofs.YtfpfnlnmilndmaaGreatDoor
