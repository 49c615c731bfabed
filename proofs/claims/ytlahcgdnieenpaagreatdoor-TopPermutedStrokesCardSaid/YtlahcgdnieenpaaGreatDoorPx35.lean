/-
  Px35: Cl5. Own work.
-/
import Derived.Test.YtlahcgdnieenpaaGreatDoorPt9
import Derived.Test.YtlahcgdnieenpaaGreatDoorPx32
import Derived.Test.YtlahcgdnieenpaaGreatDoorPx33
import Derived.Test.YtlahcgdnieenpaaGreatDoorPx34

set_option linter.all false
namespace Go.Proofs.YtlahcgdnieenpaaGreatDoor.Facts
open Go Go.ChangeShapes Go.WideShapes Go.ChangeAt Go.RowKit
theorem am {a b:Bool} (h:a=true) (u:b=true):(a&&b)=true:=by rw [h,u];rfl
set_option maxRecDepth 100000 in
theorem closed:joinedFacts Tryz.prog 4 Tryz.f4 (OpenSpec.ofChange Rows.topPermutedStrokesSpec).bare Rows.topPermutedStrokesRow=true:=(am (am (am (am (am (am (am (am (am (am (am (am (am (am (am (am (am (am (am (am (am (am (am (am (am (am (am (am (am (am (am c0 laidOut) c2) c3) c4) c5) c6) c7) c8) c9) c10) c11) c12) c13) c14) c15) c16) c17) c18) c19) c20) c21) c22) c23) c24) c25) c26) c27) c28) c29) c30) c31)
end Go.Proofs.YtlahcgdnieenpaaGreatDoor.Facts
