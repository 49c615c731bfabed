/-
  Kx34: Cl5. Own work.
-/
import Derived.Test.YtlahcgdnieenpaaGreatDoorKt8
import Derived.Test.YtlahcgdnieenpaaGreatDoorKx32
import Derived.Test.YtlahcgdnieenpaaGreatDoorKx33

set_option linter.all false
namespace Go.Proofs.YtlahcgdnieenpaaGreatDoor.Facts
open Go Go.ChangeShapes Go.WideShapes Go.ChangeAt Go.RowKit
theorem am {a b:Bool} (h:a=true) (h2:b=true):(a&&b)=true:=by rw [h,h2];rfl
set_option maxRecDepth 100000 in
theorem closed:joinedFacts Tryz.prog 3 Tryz.f3 (OpenSpec.ofChange Rows.topRoundCombsSpec).bare Rows.topRoundCombsRow=true:=(am (am (am (am (am (am (am (am (am (am (am (am (am (am (am (am (am (am (am (am (am (am (am (am (am (am (am (am (am (am (am c0 laidOut) c2) c3) c4) c5) c6) c7) c8) c9) c10) c11) c12) c13) c14) c15) c16) c17) c18) c19) c20) c21) c22) c23) c24) c25) c26) c27) c28) c29) c30) c31)
end Go.Proofs.YtlahcgdnieenpaaGreatDoor.Facts
