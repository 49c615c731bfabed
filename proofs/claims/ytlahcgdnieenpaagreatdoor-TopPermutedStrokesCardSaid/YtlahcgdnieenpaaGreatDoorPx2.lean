/-
  Px2: Cv2. Own work.
-/
import Derived.Test.YtlahcgdnieenpaaGreatDoorPx1
import Derived.ProofKit

set_option linter.all false
set_option maxRecDepth 100000
namespace Go.Proofs.YtlahcgdnieenpaaGreatDoor.Facts
open Go Go.AM
theorem kf0:(List.range' 0 100).all (LY Tryz.prog)=true:=by kernel_rfl
theorem kg0:(List.range' 2 98).all (Fk Tryz.prog)=true:=by kernel_rfl
theorem qig:(List.range' 100 100).all (LY Tryz.prog)=true:=by kernel_rfl
theorem qin:(List.range' 100 100).all (Fk Tryz.prog)=true:=by kernel_rfl
theorem qih:(List.range' 200 100).all (LY Tryz.prog)=true:=by kernel_rfl
theorem qio:(List.range' 200 100).all (Fk Tryz.prog)=true:=by kernel_rfl
theorem qii:(List.range' 300 100).all (LY Tryz.prog)=true:=by kernel_rfl
theorem qip:(List.range' 300 100).all (Fk Tryz.prog)=true:=by kernel_rfl
end Go.Proofs.YtlahcgdnieenpaaGreatDoor.Facts
