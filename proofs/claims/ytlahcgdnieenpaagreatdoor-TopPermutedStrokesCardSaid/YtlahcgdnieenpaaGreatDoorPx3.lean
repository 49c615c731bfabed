/-
  Px3: Cv3. Own work.
-/
import Derived.Test.YtlahcgdnieenpaaGreatDoorPx1
import Derived.ProofKit

set_option linter.all false
set_option maxRecDepth 100000
namespace Go.Proofs.YtlahcgdnieenpaaGreatDoor.Facts
open Go Go.AM
theorem qij:(List.range' 400 100).all (LY Tryz.prog)=true:=by kernel_rfl
theorem qiq:(List.range' 400 100).all (Fk Tryz.prog)=true:=by kernel_rfl
theorem qik:(List.range' 500 100).all (LY Tryz.prog)=true:=by kernel_rfl
theorem qir:(List.range' 500 100).all (Fk Tryz.prog)=true:=by kernel_rfl
theorem qil:(List.range' 600 100).all (LY Tryz.prog)=true:=by kernel_rfl
theorem qis:(List.range' 600 100).all (Fk Tryz.prog)=true:=by kernel_rfl
theorem qim:(List.range' 700 53).all (LY Tryz.prog)=true:=by kernel_rfl
theorem qit:(List.range' 700 32).all (Fk Tryz.prog)=true:=by kernel_rfl
end Go.Proofs.YtlahcgdnieenpaaGreatDoor.Facts
