/-
  NARROWER THAN 'FOR EVERY INPUT', by the rows' own cells (each row's printed sentence says how): CombSheets: laid · CombBests: laid · CombAparts: laid · CombKinds: laid · CombMeets: laid · CombProved: laid · CombEither: laid · CombMore: laid · CombAlone: laid · CombCounted: laid · CombMoved: laid · CombMet: laid · CombKnown: laid.
  DERIVED. THE GIVEN ROWS OF THIS SEAT. 13 by the template 'for every input the law returns true; each argument reads behind the call as it read before'; 0 by the template 'total and deterministic' (their statements: YtfpfnlnmilndmaaGreatDoorTotals.lean).
  GIVEN WITH THE SEED: the statements are not yours to turn. If you find one false, say at which input.
  Laid BY PROGRAM, IN A SANDBOX (cutbox-rows.mjs): the forced cells as the released guide's own fill.sh prints them over the translation 1105d57dc7b00d62… (all of the seat's roots in one cut). By AI agents, Wed Nov 11 2026. No macro, syntax, notation, axiom, sorry.
-/
import Derived.Test.YtfpfnlnmilndmaaGreatDoorChecked
import GoSem.Claim
import GoSem.ClaimJoined
import GoSem.ClaimMapViews
import Derived.JoinedTies
import Derived.KernelRfl
namespace Go.Proofs.YtfpfnlnmilndmaaGreatDoor
/- THE CELL 'sum', in the pinned program and in every row, IS THE sha256 OF THE DUMP (.gsa) THAT YtfpfnlnmilndmaaGreatDoorProg.lean LOADS. Nothing in Lean hashes anything: it is a label: what it is worth is what the hold of that sum in a sandbox is worth. -/
noncomputable def Tryz.pinned : Pinned := { name := "ytfpfnlnmilndmaagreatdoor", sum := "1105d57dc7b00d627e0b69b13bcb1ecbebe7bc9f372081bc69e9aa77636287f9", checked := Tryz.checked }
namespace Rows
def none {H : Type} : Left H := { results := [], args := [] }

/- WHAT THE LISTED PACKAGE-LEVEL VARIABLES READ AS WHEN THE CALL BEGINS. Each datum BY PROGRAM (the guide's laid-datum.mjs) off the statement by which the dump's own 'gosem.cut.vars' lays the variable. In a bare row this is a premise. The card (YtfpfnlnmilndmaaGreatDoorCards.lean) ties it to the program's text. -/
def laid_math_bits_deBruijn32tab {H : Type} : DataW H := .agg [.lit (.int .u8 0), .lit (.int .u8 1), .lit (.int .u8 28), .lit (.int .u8 2), .lit (.int .u8 29), .lit (.int .u8 14), .lit (.int .u8 24), .lit (.int .u8 3), .lit (.int .u8 30), .lit (.int .u8 22), .lit (.int .u8 20), .lit (.int .u8 15), .lit (.int .u8 25), .lit (.int .u8 17), .lit (.int .u8 4), .lit (.int .u8 8), .lit (.int .u8 31), .lit (.int .u8 27), .lit (.int .u8 13), .lit (.int .u8 23), .lit (.int .u8 21), .lit (.int .u8 19), .lit (.int .u8 16), .lit (.int .u8 7), .lit (.int .u8 26), .lit (.int .u8 12), .lit (.int .u8 18), .lit (.int .u8 6), .lit (.int .u8 11), .lit (.int .u8 5), .lit (.int .u8 10), .lit (.int .u8 9)]
def laid_math_bits_deBruijn64tab {H : Type} : DataW H := .agg [.lit (.int .u8 0), .lit (.int .u8 1), .lit (.int .u8 56), .lit (.int .u8 2), .lit (.int .u8 57), .lit (.int .u8 49), .lit (.int .u8 28), .lit (.int .u8 3), .lit (.int .u8 61), .lit (.int .u8 58), .lit (.int .u8 42), .lit (.int .u8 50), .lit (.int .u8 38), .lit (.int .u8 29), .lit (.int .u8 17), .lit (.int .u8 4), .lit (.int .u8 62), .lit (.int .u8 47), .lit (.int .u8 59), .lit (.int .u8 36), .lit (.int .u8 45), .lit (.int .u8 43), .lit (.int .u8 51), .lit (.int .u8 22), .lit (.int .u8 53), .lit (.int .u8 39), .lit (.int .u8 33), .lit (.int .u8 30), .lit (.int .u8 24), .lit (.int .u8 18), .lit (.int .u8 12), .lit (.int .u8 5), .lit (.int .u8 63), .lit (.int .u8 55), .lit (.int .u8 48), .lit (.int .u8 27), .lit (.int .u8 60), .lit (.int .u8 41), .lit (.int .u8 37), .lit (.int .u8 16), .lit (.int .u8 46), .lit (.int .u8 35), .lit (.int .u8 44), .lit (.int .u8 21), .lit (.int .u8 52), .lit (.int .u8 32), .lit (.int .u8 23), .lit (.int .u8 11), .lit (.int .u8 54), .lit (.int .u8 26), .lit (.int .u8 40), .lit (.int .u8 15), .lit (.int .u8 34), .lit (.int .u8 20), .lit (.int .u8 31), .lit (.int .u8 10), .lit (.int .u8 25), .lit (.int .u8 14), .lit (.int .u8 19), .lit (.int .u8 9), .lit (.int .u8 13), .lit (.int .u8 8), .lit (.int .u8 7), .lit (.int .u8 6)]

/-- 'oxgalllaw03.CombSheets': WHATEVER THE INPUT: true; the input reads as it did. -/
def combSheetsSpec : ChangeSpec := { name := "combSheets", fn := fun _ => fun
  | [d1, d2, d3] => { results := [.lit (.bool true)], args := [d1, d2, d3] }
  | _ => none }
def combSheetsRow : OpenClaim := { program := "ytfpfnlnmilndmaagreatdoor", sum := "1105d57dc7b00d627e0b69b13bcb1ecbebe7bc9f372081bc69e9aa77636287f9", func := "oxgall/oxgalllaw03.CombSheets", spec := "combSheets", unfollowed := true, recurses := true, named := ["math/bits.deBruijn32tab", "math/bits.deBruijn64tab"], apart := false, laid := [("math/bits.deBruijn32tab", laid_math_bits_deBruijn32tab), ("math/bits.deBruijn64tab", laid_math_bits_deBruijn64tab)] }
def CombSheetsSaid : Prop := combSheetsRow.holds Tryz.pinned (OpenSpec.ofChange combSheetsSpec)

/-- ITS FALSE NEIGHBOUR: 'it returns false'. Refute it at one input. -/
def combSheetsWrong : ChangeSpec := { name := "combSheets", fn := fun _ => fun
  | [d1, d2, d3] => { results := [.lit (.bool false)], args := [d1, d2, d3] }
  | _ => none }
def CombSheetsWrongFalsely : Prop := combSheetsRow.holds Tryz.pinned (OpenSpec.ofChange combSheetsWrong)

/-- 'oxgalllaw03.CombBests': WHATEVER THE INPUT: true; the input reads as it did. -/
def combBestsSpec : ChangeSpec := { name := "combBests", fn := fun _ => fun
  | [d1, d2] => { results := [.lit (.bool true)], args := [d1, d2] }
  | _ => none }
def combBestsRow : OpenClaim := { program := "ytfpfnlnmilndmaagreatdoor", sum := "1105d57dc7b00d627e0b69b13bcb1ecbebe7bc9f372081bc69e9aa77636287f9", func := "oxgall/oxgalllaw03.CombBests", spec := "combBests", unfollowed := true, recurses := true, named := ["math/bits.deBruijn32tab", "math/bits.deBruijn64tab"], apart := false, laid := [("math/bits.deBruijn32tab", laid_math_bits_deBruijn32tab), ("math/bits.deBruijn64tab", laid_math_bits_deBruijn64tab)] }
def CombBestsSaid : Prop := combBestsRow.holds Tryz.pinned (OpenSpec.ofChange combBestsSpec)

/-- ITS FALSE NEIGHBOUR: 'it returns false'. Refute it at one input. -/
def combBestsWrong : ChangeSpec := { name := "combBests", fn := fun _ => fun
  | [d1, d2] => { results := [.lit (.bool false)], args := [d1, d2] }
  | _ => none }
def CombBestsWrongFalsely : Prop := combBestsRow.holds Tryz.pinned (OpenSpec.ofChange combBestsWrong)

/-- 'oxgalllaw03.CombAparts': WHATEVER THE INPUT: true; the input reads as it did. -/
def combApartsSpec : ChangeSpec := { name := "combAparts", fn := fun _ => fun
  | [d1, d2] => { results := [.lit (.bool true)], args := [d1, d2] }
  | _ => none }
def combApartsRow : OpenClaim := { program := "ytfpfnlnmilndmaagreatdoor", sum := "1105d57dc7b00d627e0b69b13bcb1ecbebe7bc9f372081bc69e9aa77636287f9", func := "oxgall/oxgalllaw03.CombAparts", spec := "combAparts", unfollowed := true, recurses := true, named := ["math/bits.deBruijn32tab", "math/bits.deBruijn64tab"], apart := false, laid := [("math/bits.deBruijn32tab", laid_math_bits_deBruijn32tab), ("math/bits.deBruijn64tab", laid_math_bits_deBruijn64tab)] }
def CombApartsSaid : Prop := combApartsRow.holds Tryz.pinned (OpenSpec.ofChange combApartsSpec)

/-- ITS FALSE NEIGHBOUR: 'it returns false'. Refute it at one input. -/
def combApartsWrong : ChangeSpec := { name := "combAparts", fn := fun _ => fun
  | [d1, d2] => { results := [.lit (.bool false)], args := [d1, d2] }
  | _ => none }
def CombApartsWrongFalsely : Prop := combApartsRow.holds Tryz.pinned (OpenSpec.ofChange combApartsWrong)

/-- 'oxgalllaw03.CombKinds': WHATEVER THE INPUT: true; the input reads as it did. -/
def combKindsSpec : ChangeSpec := { name := "combKinds", fn := fun _ => fun
  | [d1, d2] => { results := [.lit (.bool true)], args := [d1, d2] }
  | _ => none }
def combKindsRow : OpenClaim := { program := "ytfpfnlnmilndmaagreatdoor", sum := "1105d57dc7b00d627e0b69b13bcb1ecbebe7bc9f372081bc69e9aa77636287f9", func := "oxgall/oxgalllaw03.CombKinds", spec := "combKinds", unfollowed := true, recurses := true, named := ["math/bits.deBruijn32tab", "math/bits.deBruijn64tab"], apart := false, laid := [("math/bits.deBruijn32tab", laid_math_bits_deBruijn32tab), ("math/bits.deBruijn64tab", laid_math_bits_deBruijn64tab)] }
def CombKindsSaid : Prop := combKindsRow.holds Tryz.pinned (OpenSpec.ofChange combKindsSpec)

/-- ITS FALSE NEIGHBOUR: 'it returns false'. Refute it at one input. -/
def combKindsWrong : ChangeSpec := { name := "combKinds", fn := fun _ => fun
  | [d1, d2] => { results := [.lit (.bool false)], args := [d1, d2] }
  | _ => none }
def CombKindsWrongFalsely : Prop := combKindsRow.holds Tryz.pinned (OpenSpec.ofChange combKindsWrong)

/-- 'oxgalllaw03.CombMeets': WHATEVER THE INPUT: true; the input reads as it did. -/
def combMeetsSpec : ChangeSpec := { name := "combMeets", fn := fun _ => fun
  | [d1, d2, d3, d4, d5] => { results := [.lit (.bool true)], args := [d1, d2, d3, d4, d5] }
  | _ => none }
def combMeetsRow : OpenClaim := { program := "ytfpfnlnmilndmaagreatdoor", sum := "1105d57dc7b00d627e0b69b13bcb1ecbebe7bc9f372081bc69e9aa77636287f9", func := "oxgall/oxgalllaw03.CombMeets", spec := "combMeets", unfollowed := true, recurses := true, named := ["math/bits.deBruijn32tab", "math/bits.deBruijn64tab"], apart := false, laid := [("math/bits.deBruijn32tab", laid_math_bits_deBruijn32tab), ("math/bits.deBruijn64tab", laid_math_bits_deBruijn64tab)] }
def CombMeetsSaid : Prop := combMeetsRow.holds Tryz.pinned (OpenSpec.ofChange combMeetsSpec)

/-- ITS FALSE NEIGHBOUR: 'it returns false'. Refute it at one input. -/
def combMeetsWrong : ChangeSpec := { name := "combMeets", fn := fun _ => fun
  | [d1, d2, d3, d4, d5] => { results := [.lit (.bool false)], args := [d1, d2, d3, d4, d5] }
  | _ => none }
def CombMeetsWrongFalsely : Prop := combMeetsRow.holds Tryz.pinned (OpenSpec.ofChange combMeetsWrong)

/-- 'oxgalllaw03.CombProved': WHATEVER THE INPUT: true; the input reads as it did. -/
def combProvedSpec : ChangeSpec := { name := "combProved", fn := fun _ => fun
  | [d1, d2, d3] => { results := [.lit (.bool true)], args := [d1, d2, d3] }
  | _ => none }
def combProvedRow : OpenClaim := { program := "ytfpfnlnmilndmaagreatdoor", sum := "1105d57dc7b00d627e0b69b13bcb1ecbebe7bc9f372081bc69e9aa77636287f9", func := "oxgall/oxgalllaw03.CombProved", spec := "combProved", unfollowed := true, recurses := true, named := ["math/bits.deBruijn32tab", "math/bits.deBruijn64tab"], apart := false, laid := [("math/bits.deBruijn32tab", laid_math_bits_deBruijn32tab), ("math/bits.deBruijn64tab", laid_math_bits_deBruijn64tab)] }
def CombProvedSaid : Prop := combProvedRow.holds Tryz.pinned (OpenSpec.ofChange combProvedSpec)

/-- ITS FALSE NEIGHBOUR: 'it returns false'. Refute it at one input. -/
def combProvedWrong : ChangeSpec := { name := "combProved", fn := fun _ => fun
  | [d1, d2, d3] => { results := [.lit (.bool false)], args := [d1, d2, d3] }
  | _ => none }
def CombProvedWrongFalsely : Prop := combProvedRow.holds Tryz.pinned (OpenSpec.ofChange combProvedWrong)

/-- 'oxgalllaw03.CombEither': WHATEVER THE INPUT: true; the input reads as it did. -/
def combEitherSpec : ChangeSpec := { name := "combEither", fn := fun _ => fun
  | [d1, d2, d3] => { results := [.lit (.bool true)], args := [d1, d2, d3] }
  | _ => none }
def combEitherRow : OpenClaim := { program := "ytfpfnlnmilndmaagreatdoor", sum := "1105d57dc7b00d627e0b69b13bcb1ecbebe7bc9f372081bc69e9aa77636287f9", func := "oxgall/oxgalllaw03.CombEither", spec := "combEither", unfollowed := true, recurses := true, named := ["math/bits.deBruijn32tab", "math/bits.deBruijn64tab"], apart := false, laid := [("math/bits.deBruijn32tab", laid_math_bits_deBruijn32tab), ("math/bits.deBruijn64tab", laid_math_bits_deBruijn64tab)] }
def CombEitherSaid : Prop := combEitherRow.holds Tryz.pinned (OpenSpec.ofChange combEitherSpec)

/-- ITS FALSE NEIGHBOUR: 'it returns false'. Refute it at one input. -/
def combEitherWrong : ChangeSpec := { name := "combEither", fn := fun _ => fun
  | [d1, d2, d3] => { results := [.lit (.bool false)], args := [d1, d2, d3] }
  | _ => none }
def CombEitherWrongFalsely : Prop := combEitherRow.holds Tryz.pinned (OpenSpec.ofChange combEitherWrong)

/-- 'oxgalllaw03.CombMore': WHATEVER THE INPUT: true; the input reads as it did. -/
def combMoreSpec : ChangeSpec := { name := "combMore", fn := fun _ => fun
  | [d1, d2, d3] => { results := [.lit (.bool true)], args := [d1, d2, d3] }
  | _ => none }
def combMoreRow : OpenClaim := { program := "ytfpfnlnmilndmaagreatdoor", sum := "1105d57dc7b00d627e0b69b13bcb1ecbebe7bc9f372081bc69e9aa77636287f9", func := "oxgall/oxgalllaw03.CombMore", spec := "combMore", unfollowed := true, recurses := true, named := ["math/bits.deBruijn32tab", "math/bits.deBruijn64tab"], apart := false, laid := [("math/bits.deBruijn32tab", laid_math_bits_deBruijn32tab), ("math/bits.deBruijn64tab", laid_math_bits_deBruijn64tab)] }
def CombMoreSaid : Prop := combMoreRow.holds Tryz.pinned (OpenSpec.ofChange combMoreSpec)

/-- ITS FALSE NEIGHBOUR: 'it returns false'. Refute it at one input. -/
def combMoreWrong : ChangeSpec := { name := "combMore", fn := fun _ => fun
  | [d1, d2, d3] => { results := [.lit (.bool false)], args := [d1, d2, d3] }
  | _ => none }
def CombMoreWrongFalsely : Prop := combMoreRow.holds Tryz.pinned (OpenSpec.ofChange combMoreWrong)

/-- 'oxgalllaw03.CombAlone': WHATEVER THE INPUT: true; the input reads as it did. -/
def combAloneSpec : ChangeSpec := { name := "combAlone", fn := fun _ => fun
  | [d1, d2] => { results := [.lit (.bool true)], args := [d1, d2] }
  | _ => none }
def combAloneRow : OpenClaim := { program := "ytfpfnlnmilndmaagreatdoor", sum := "1105d57dc7b00d627e0b69b13bcb1ecbebe7bc9f372081bc69e9aa77636287f9", func := "oxgall/oxgalllaw03.CombAlone", spec := "combAlone", unfollowed := true, recurses := true, named := ["math/bits.deBruijn32tab", "math/bits.deBruijn64tab"], apart := false, laid := [("math/bits.deBruijn32tab", laid_math_bits_deBruijn32tab), ("math/bits.deBruijn64tab", laid_math_bits_deBruijn64tab)] }
def CombAloneSaid : Prop := combAloneRow.holds Tryz.pinned (OpenSpec.ofChange combAloneSpec)

/-- ITS FALSE NEIGHBOUR: 'it returns false'. Refute it at one input. -/
def combAloneWrong : ChangeSpec := { name := "combAlone", fn := fun _ => fun
  | [d1, d2] => { results := [.lit (.bool false)], args := [d1, d2] }
  | _ => none }
def CombAloneWrongFalsely : Prop := combAloneRow.holds Tryz.pinned (OpenSpec.ofChange combAloneWrong)

/-- 'oxgalllaw03.CombCounted': WHATEVER THE INPUT: true; the input reads as it did. -/
def combCountedSpec : ChangeSpec := { name := "combCounted", fn := fun _ => fun
  | [d] => { results := [.lit (.bool true)], args := [d] }
  | _ => none }
def combCountedRow : OpenClaim := { program := "ytfpfnlnmilndmaagreatdoor", sum := "1105d57dc7b00d627e0b69b13bcb1ecbebe7bc9f372081bc69e9aa77636287f9", func := "oxgall/oxgalllaw03.CombCounted", spec := "combCounted", unfollowed := true, recurses := true, named := ["math/bits.deBruijn32tab", "math/bits.deBruijn64tab"], apart := false, laid := [("math/bits.deBruijn32tab", laid_math_bits_deBruijn32tab), ("math/bits.deBruijn64tab", laid_math_bits_deBruijn64tab)] }
def CombCountedSaid : Prop := combCountedRow.holds Tryz.pinned (OpenSpec.ofChange combCountedSpec)

/-- ITS FALSE NEIGHBOUR: 'it returns false'. Refute it at one input. -/
def combCountedWrong : ChangeSpec := { name := "combCounted", fn := fun _ => fun
  | [d] => { results := [.lit (.bool false)], args := [d] }
  | _ => none }
def CombCountedWrongFalsely : Prop := combCountedRow.holds Tryz.pinned (OpenSpec.ofChange combCountedWrong)

/-- 'oxgalllaw03.CombMoved': WHATEVER THE INPUT: true; the input reads as it did. -/
def combMovedSpec : ChangeSpec := { name := "combMoved", fn := fun _ => fun
  | [d1, d2, d3] => { results := [.lit (.bool true)], args := [d1, d2, d3] }
  | _ => none }
def combMovedRow : OpenClaim := { program := "ytfpfnlnmilndmaagreatdoor", sum := "1105d57dc7b00d627e0b69b13bcb1ecbebe7bc9f372081bc69e9aa77636287f9", func := "oxgall/oxgalllaw03.CombMoved", spec := "combMoved", unfollowed := true, recurses := true, named := ["math/bits.deBruijn32tab", "math/bits.deBruijn64tab"], apart := false, laid := [("math/bits.deBruijn32tab", laid_math_bits_deBruijn32tab), ("math/bits.deBruijn64tab", laid_math_bits_deBruijn64tab)] }
def CombMovedSaid : Prop := combMovedRow.holds Tryz.pinned (OpenSpec.ofChange combMovedSpec)

/-- ITS FALSE NEIGHBOUR: 'it returns false'. Refute it at one input. -/
def combMovedWrong : ChangeSpec := { name := "combMoved", fn := fun _ => fun
  | [d1, d2, d3] => { results := [.lit (.bool false)], args := [d1, d2, d3] }
  | _ => none }
def CombMovedWrongFalsely : Prop := combMovedRow.holds Tryz.pinned (OpenSpec.ofChange combMovedWrong)

/-- 'oxgalllaw03.CombMet': WHATEVER THE INPUT: true; the input reads as it did. -/
def combMetSpec : ChangeSpec := { name := "combMet", fn := fun _ => fun
  | [d1, d2, d3, d4, d5] => { results := [.lit (.bool true)], args := [d1, d2, d3, d4, d5] }
  | _ => none }
def combMetRow : OpenClaim := { program := "ytfpfnlnmilndmaagreatdoor", sum := "1105d57dc7b00d627e0b69b13bcb1ecbebe7bc9f372081bc69e9aa77636287f9", func := "oxgall/oxgalllaw03.CombMet", spec := "combMet", unfollowed := true, recurses := true, named := ["math/bits.deBruijn32tab", "math/bits.deBruijn64tab"], apart := false, laid := [("math/bits.deBruijn32tab", laid_math_bits_deBruijn32tab), ("math/bits.deBruijn64tab", laid_math_bits_deBruijn64tab)] }
def CombMetSaid : Prop := combMetRow.holds Tryz.pinned (OpenSpec.ofChange combMetSpec)

/-- ITS FALSE NEIGHBOUR: 'it returns false'. Refute it at one input. -/
def combMetWrong : ChangeSpec := { name := "combMet", fn := fun _ => fun
  | [d1, d2, d3, d4, d5] => { results := [.lit (.bool false)], args := [d1, d2, d3, d4, d5] }
  | _ => none }
def CombMetWrongFalsely : Prop := combMetRow.holds Tryz.pinned (OpenSpec.ofChange combMetWrong)

/-- 'oxgalllaw03.CombKnown': WHATEVER THE INPUT: true; the input reads as it did. -/
def combKnownSpec : ChangeSpec := { name := "combKnown", fn := fun _ => fun
  | [] => { results := [.lit (.bool true)], args := [] }
  | _ => none }
def combKnownRow : OpenClaim := { program := "ytfpfnlnmilndmaagreatdoor", sum := "1105d57dc7b00d627e0b69b13bcb1ecbebe7bc9f372081bc69e9aa77636287f9", func := "oxgall/oxgalllaw03.CombKnown", spec := "combKnown", unfollowed := true, recurses := true, named := ["math/bits.deBruijn32tab", "math/bits.deBruijn64tab"], apart := false, laid := [("math/bits.deBruijn32tab", laid_math_bits_deBruijn32tab), ("math/bits.deBruijn64tab", laid_math_bits_deBruijn64tab)] }
def CombKnownSaid : Prop := combKnownRow.holds Tryz.pinned (OpenSpec.ofChange combKnownSpec)

/-- ITS FALSE NEIGHBOUR: 'it returns false'. Refute it at one input. -/
def combKnownWrong : ChangeSpec := { name := "combKnown", fn := fun _ => fun
  | [] => { results := [.lit (.bool false)], args := [] }
  | _ => none }
def CombKnownWrongFalsely : Prop := combKnownRow.holds Tryz.pinned (OpenSpec.ofChange combKnownWrong)

/- THE SECOND FORM. 'bulk': how many values and letters a reading holds, each counted each time it is reached (what is shared counts as often as it is met; a slice's spare places count too). A statement '..UptoSaid' is the law's where the arguments, and the package variables that the reading takes, are together of bulk at most 1048576: NARROWER than '..Said'. Prove '..Said' where nothing that the law and all that it calls make is longer than what came in: it says more and counts as full. Else prove '..UptoSaid'. A law counts once. -/
mutual
def uptoBulk {H : Type} : DataW H → Nat
  | .lit (.string bytes) => bytes.length + 1
  | .lit _ => 1
  | .nil => 1
  | .ptr d => uptoBulk d + 1
  | .slice elems spare => uptoBulkAll elems + uptoBulkAll spare + 1
  | .agg parts => uptoBulkAll parts + 1
  | .iface _ d => uptoBulk d + 1
  | .map entries => uptoBulkEntries entries + 1
  | .held _ => 1
def uptoBulkAll {H : Type} : List (DataW H) → Nat
  | [] => 0
  | d :: r => uptoBulk d + uptoBulkAll r
def uptoBulkEntries {H : Type} : List (Lit × DataW H) → Nat
  | [] => 0
  | x :: r => uptoBulkEntry x + uptoBulkEntries r
def uptoBulkEntry {H : Type} : Lit × DataW H → Nat
  | (.string bytes, d) => bytes.length + uptoBulk d + 1
  | (_, d) => uptoBulk d + 1
 end
def uptoSmall : (H : Type) → List (DataW H) → Bool := fun _ ds => decide (uptoBulkAll ds ≤ 1048576)
def OpenSpec.upto (s : _root_.Go.ChangeSpec) : _root_.Go.OpenSpec := { _root_.Go.OpenSpec.ofChange s with cond := some uptoSmall }

/-- 'oxgalllaw03.CombSheets', WHERE WHAT IT READS IS OF BULK AT MOST 1048576: true; the input reads as it did. -/
def combSheetsUptoRow : OpenClaim := { program := "ytfpfnlnmilndmaagreatdoor", sum := "1105d57dc7b00d627e0b69b13bcb1ecbebe7bc9f372081bc69e9aa77636287f9", func := "oxgall/oxgalllaw03.CombSheets", spec := "combSheets", unfollowed := true, recurses := true, named := ["math/bits.deBruijn32tab", "math/bits.deBruijn64tab"], apart := false, laid := [("math/bits.deBruijn32tab", laid_math_bits_deBruijn32tab), ("math/bits.deBruijn64tab", laid_math_bits_deBruijn64tab)], narrowed := true }
def CombSheetsUptoSaid : Prop := combSheetsUptoRow.holds Tryz.pinned (OpenSpec.upto combSheetsSpec)

/-- 'oxgalllaw03.CombBests', WHERE WHAT IT READS IS OF BULK AT MOST 1048576: true; the input reads as it did. -/
def combBestsUptoRow : OpenClaim := { program := "ytfpfnlnmilndmaagreatdoor", sum := "1105d57dc7b00d627e0b69b13bcb1ecbebe7bc9f372081bc69e9aa77636287f9", func := "oxgall/oxgalllaw03.CombBests", spec := "combBests", unfollowed := true, recurses := true, named := ["math/bits.deBruijn32tab", "math/bits.deBruijn64tab"], apart := false, laid := [("math/bits.deBruijn32tab", laid_math_bits_deBruijn32tab), ("math/bits.deBruijn64tab", laid_math_bits_deBruijn64tab)], narrowed := true }
def CombBestsUptoSaid : Prop := combBestsUptoRow.holds Tryz.pinned (OpenSpec.upto combBestsSpec)

/-- 'oxgalllaw03.CombAparts', WHERE WHAT IT READS IS OF BULK AT MOST 1048576: true; the input reads as it did. -/
def combApartsUptoRow : OpenClaim := { program := "ytfpfnlnmilndmaagreatdoor", sum := "1105d57dc7b00d627e0b69b13bcb1ecbebe7bc9f372081bc69e9aa77636287f9", func := "oxgall/oxgalllaw03.CombAparts", spec := "combAparts", unfollowed := true, recurses := true, named := ["math/bits.deBruijn32tab", "math/bits.deBruijn64tab"], apart := false, laid := [("math/bits.deBruijn32tab", laid_math_bits_deBruijn32tab), ("math/bits.deBruijn64tab", laid_math_bits_deBruijn64tab)], narrowed := true }
def CombApartsUptoSaid : Prop := combApartsUptoRow.holds Tryz.pinned (OpenSpec.upto combApartsSpec)

/-- 'oxgalllaw03.CombKinds', WHERE WHAT IT READS IS OF BULK AT MOST 1048576: true; the input reads as it did. -/
def combKindsUptoRow : OpenClaim := { program := "ytfpfnlnmilndmaagreatdoor", sum := "1105d57dc7b00d627e0b69b13bcb1ecbebe7bc9f372081bc69e9aa77636287f9", func := "oxgall/oxgalllaw03.CombKinds", spec := "combKinds", unfollowed := true, recurses := true, named := ["math/bits.deBruijn32tab", "math/bits.deBruijn64tab"], apart := false, laid := [("math/bits.deBruijn32tab", laid_math_bits_deBruijn32tab), ("math/bits.deBruijn64tab", laid_math_bits_deBruijn64tab)], narrowed := true }
def CombKindsUptoSaid : Prop := combKindsUptoRow.holds Tryz.pinned (OpenSpec.upto combKindsSpec)

/-- 'oxgalllaw03.CombMeets', WHERE WHAT IT READS IS OF BULK AT MOST 1048576: true; the input reads as it did. -/
def combMeetsUptoRow : OpenClaim := { program := "ytfpfnlnmilndmaagreatdoor", sum := "1105d57dc7b00d627e0b69b13bcb1ecbebe7bc9f372081bc69e9aa77636287f9", func := "oxgall/oxgalllaw03.CombMeets", spec := "combMeets", unfollowed := true, recurses := true, named := ["math/bits.deBruijn32tab", "math/bits.deBruijn64tab"], apart := false, laid := [("math/bits.deBruijn32tab", laid_math_bits_deBruijn32tab), ("math/bits.deBruijn64tab", laid_math_bits_deBruijn64tab)], narrowed := true }
def CombMeetsUptoSaid : Prop := combMeetsUptoRow.holds Tryz.pinned (OpenSpec.upto combMeetsSpec)

/-- 'oxgalllaw03.CombProved', WHERE WHAT IT READS IS OF BULK AT MOST 1048576: true; the input reads as it did. -/
def combProvedUptoRow : OpenClaim := { program := "ytfpfnlnmilndmaagreatdoor", sum := "1105d57dc7b00d627e0b69b13bcb1ecbebe7bc9f372081bc69e9aa77636287f9", func := "oxgall/oxgalllaw03.CombProved", spec := "combProved", unfollowed := true, recurses := true, named := ["math/bits.deBruijn32tab", "math/bits.deBruijn64tab"], apart := false, laid := [("math/bits.deBruijn32tab", laid_math_bits_deBruijn32tab), ("math/bits.deBruijn64tab", laid_math_bits_deBruijn64tab)], narrowed := true }
def CombProvedUptoSaid : Prop := combProvedUptoRow.holds Tryz.pinned (OpenSpec.upto combProvedSpec)

/-- 'oxgalllaw03.CombEither', WHERE WHAT IT READS IS OF BULK AT MOST 1048576: true; the input reads as it did. -/
def combEitherUptoRow : OpenClaim := { program := "ytfpfnlnmilndmaagreatdoor", sum := "1105d57dc7b00d627e0b69b13bcb1ecbebe7bc9f372081bc69e9aa77636287f9", func := "oxgall/oxgalllaw03.CombEither", spec := "combEither", unfollowed := true, recurses := true, named := ["math/bits.deBruijn32tab", "math/bits.deBruijn64tab"], apart := false, laid := [("math/bits.deBruijn32tab", laid_math_bits_deBruijn32tab), ("math/bits.deBruijn64tab", laid_math_bits_deBruijn64tab)], narrowed := true }
def CombEitherUptoSaid : Prop := combEitherUptoRow.holds Tryz.pinned (OpenSpec.upto combEitherSpec)

/-- 'oxgalllaw03.CombMore', WHERE WHAT IT READS IS OF BULK AT MOST 1048576: true; the input reads as it did. -/
def combMoreUptoRow : OpenClaim := { program := "ytfpfnlnmilndmaagreatdoor", sum := "1105d57dc7b00d627e0b69b13bcb1ecbebe7bc9f372081bc69e9aa77636287f9", func := "oxgall/oxgalllaw03.CombMore", spec := "combMore", unfollowed := true, recurses := true, named := ["math/bits.deBruijn32tab", "math/bits.deBruijn64tab"], apart := false, laid := [("math/bits.deBruijn32tab", laid_math_bits_deBruijn32tab), ("math/bits.deBruijn64tab", laid_math_bits_deBruijn64tab)], narrowed := true }
def CombMoreUptoSaid : Prop := combMoreUptoRow.holds Tryz.pinned (OpenSpec.upto combMoreSpec)

/-- 'oxgalllaw03.CombAlone', WHERE WHAT IT READS IS OF BULK AT MOST 1048576: true; the input reads as it did. -/
def combAloneUptoRow : OpenClaim := { program := "ytfpfnlnmilndmaagreatdoor", sum := "1105d57dc7b00d627e0b69b13bcb1ecbebe7bc9f372081bc69e9aa77636287f9", func := "oxgall/oxgalllaw03.CombAlone", spec := "combAlone", unfollowed := true, recurses := true, named := ["math/bits.deBruijn32tab", "math/bits.deBruijn64tab"], apart := false, laid := [("math/bits.deBruijn32tab", laid_math_bits_deBruijn32tab), ("math/bits.deBruijn64tab", laid_math_bits_deBruijn64tab)], narrowed := true }
def CombAloneUptoSaid : Prop := combAloneUptoRow.holds Tryz.pinned (OpenSpec.upto combAloneSpec)

/-- 'oxgalllaw03.CombCounted', WHERE WHAT IT READS IS OF BULK AT MOST 1048576: true; the input reads as it did. -/
def combCountedUptoRow : OpenClaim := { program := "ytfpfnlnmilndmaagreatdoor", sum := "1105d57dc7b00d627e0b69b13bcb1ecbebe7bc9f372081bc69e9aa77636287f9", func := "oxgall/oxgalllaw03.CombCounted", spec := "combCounted", unfollowed := true, recurses := true, named := ["math/bits.deBruijn32tab", "math/bits.deBruijn64tab"], apart := false, laid := [("math/bits.deBruijn32tab", laid_math_bits_deBruijn32tab), ("math/bits.deBruijn64tab", laid_math_bits_deBruijn64tab)], narrowed := true }
def CombCountedUptoSaid : Prop := combCountedUptoRow.holds Tryz.pinned (OpenSpec.upto combCountedSpec)

/-- 'oxgalllaw03.CombMoved', WHERE WHAT IT READS IS OF BULK AT MOST 1048576: true; the input reads as it did. -/
def combMovedUptoRow : OpenClaim := { program := "ytfpfnlnmilndmaagreatdoor", sum := "1105d57dc7b00d627e0b69b13bcb1ecbebe7bc9f372081bc69e9aa77636287f9", func := "oxgall/oxgalllaw03.CombMoved", spec := "combMoved", unfollowed := true, recurses := true, named := ["math/bits.deBruijn32tab", "math/bits.deBruijn64tab"], apart := false, laid := [("math/bits.deBruijn32tab", laid_math_bits_deBruijn32tab), ("math/bits.deBruijn64tab", laid_math_bits_deBruijn64tab)], narrowed := true }
def CombMovedUptoSaid : Prop := combMovedUptoRow.holds Tryz.pinned (OpenSpec.upto combMovedSpec)

/-- 'oxgalllaw03.CombMet', WHERE WHAT IT READS IS OF BULK AT MOST 1048576: true; the input reads as it did. -/
def combMetUptoRow : OpenClaim := { program := "ytfpfnlnmilndmaagreatdoor", sum := "1105d57dc7b00d627e0b69b13bcb1ecbebe7bc9f372081bc69e9aa77636287f9", func := "oxgall/oxgalllaw03.CombMet", spec := "combMet", unfollowed := true, recurses := true, named := ["math/bits.deBruijn32tab", "math/bits.deBruijn64tab"], apart := false, laid := [("math/bits.deBruijn32tab", laid_math_bits_deBruijn32tab), ("math/bits.deBruijn64tab", laid_math_bits_deBruijn64tab)], narrowed := true }
def CombMetUptoSaid : Prop := combMetUptoRow.holds Tryz.pinned (OpenSpec.upto combMetSpec)

/-- 'oxgalllaw03.CombKnown', WHERE WHAT IT READS IS OF BULK AT MOST 1048576: true; the input reads as it did. -/
def combKnownUptoRow : OpenClaim := { program := "ytfpfnlnmilndmaagreatdoor", sum := "1105d57dc7b00d627e0b69b13bcb1ecbebe7bc9f372081bc69e9aa77636287f9", func := "oxgall/oxgalllaw03.CombKnown", spec := "combKnown", unfollowed := true, recurses := true, named := ["math/bits.deBruijn32tab", "math/bits.deBruijn64tab"], apart := false, laid := [("math/bits.deBruijn32tab", laid_math_bits_deBruijn32tab), ("math/bits.deBruijn64tab", laid_math_bits_deBruijn64tab)], narrowed := true }
def CombKnownUptoSaid : Prop := combKnownUptoRow.holds Tryz.pinned (OpenSpec.upto combKnownSpec)

end Rows
end Go.Proofs.YtfpfnlnmilndmaaGreatDoor
