/-
  Kx29: Tp4. Own work.
-/
import Derived.Test.YtlahcgdnieenpaaGreatDoorKx28

set_option maxRecDepth 100000
set_option maxHeartbeats 0
set_option linter.unusedVariables false
namespace Go.AM
open Go.RowKit Go.Proofs
theorem qAF:zO 1 2 0 0=True:=by kernel_rfl
theorem qAH:zO 1 3 0 0=True:=by kernel_rfl
theorem qAJ:zO 1 3 0 2=True:=by kernel_rfl
theorem qAL:zO 1 4 0 1=True:=by kernel_rfl
theorem qAN:zO 1 4 0 3=True:=by kernel_rfl
theorem qAP:zO 1 5 0 1=True:=by kernel_rfl
theorem qAR:zO 1 5 0 3=True:=by kernel_rfl
theorem qAT:zO 2 1 0 0=True:=by kernel_rfl
theorem qAV:zO 2 2 0 0=True:=by kernel_rfl
theorem qAX:zO 2 2 1 0=True:=by kernel_rfl
theorem qAZ:zO 2 3 0 0=True:=by kernel_rfl
theorem qA1:zO 2 3 0 2=True:=by kernel_rfl
theorem qA3:zO 2 3 1 1=True:=by kernel_rfl
theorem qA5:zO 2 4 0 0=True:=by kernel_rfl
theorem qA7:zO 2 4 0 2=True:=by kernel_rfl
theorem qA9:zO 2 4 1 0=True:=by kernel_rfl
theorem qBb:zO 2 4 1 2=True:=by kernel_rfl
theorem qBd:zO 3 1 0 0=True:=by kernel_rfl
theorem qBf:zO 3 1 2 0=True:=by kernel_rfl
theorem qBh:zO 3 2 0 1=True:=by kernel_rfl
theorem qBj:zO 3 2 1 1=True:=by kernel_rfl
theorem qBl:zO 3 2 2 1=True:=by kernel_rfl
theorem qBn:zO 3 3 0 1=True:=by kernel_rfl
theorem qBp:zO 3 3 1 0=True:=by kernel_rfl
theorem qBr:zO 3 3 1 2=True:=by kernel_rfl
theorem qBt:zO 3 3 2 1=True:=by kernel_rfl
theorem qBv:zO 4 1 0 0=True:=by kernel_rfl
theorem qBx:zO 4 1 2 0=True:=by kernel_rfl
theorem qBz:zO 4 2 0 0=True:=by kernel_rfl
theorem qBB:zO 4 2 1 0=True:=by kernel_rfl
theorem qBD:zO 4 2 2 0=True:=by kernel_rfl
theorem qBF:zO 4 2 3 0=True:=by kernel_rfl
theorem qBH:zO 5 1 0 0=True:=by kernel_rfl
theorem qBJ:zO 5 1 2 0=True:=by kernel_rfl
theorem qBL:zO 5 1 4 0=True:=by kernel_rfl
end Go.AM
