/-
  Kx28: Tp3. Own work.
-/
import Derived.Test.YtlahcgdnieenpaaGreatDoorKt7
import Derived.Test.YtlahcgdnieenpaaGreatDoorKx27

set_option maxRecDepth 100000
set_option maxHeartbeats 0
set_option linter.unusedVariables false
namespace Go.AM
open Go.RowKit Go.Proofs
def zO (p q i k:Int):Prop:=qD4.1 (hdN qu1.1 60) (qnv [(8,none)] trK) [(9,I p),(10,I q),(11,I i),(12,I k)] []
theorem qAE:zO 1 1 0 0=True:=by kernel_rfl
theorem qAG:zO 1 2 0 1=True:=by kernel_rfl
theorem qAI:zO 1 3 0 1=True:=by kernel_rfl
theorem qAK:zO 1 4 0 0=True:=by kernel_rfl
theorem qAM:zO 1 4 0 2=True:=by kernel_rfl
theorem qAO:zO 1 5 0 0=True:=by kernel_rfl
theorem qAQ:zO 1 5 0 2=True:=by kernel_rfl
theorem qAS:zO 1 5 0 4=True:=by kernel_rfl
theorem qAU:zO 2 1 1 0=True:=by kernel_rfl
theorem qAW:zO 2 2 0 1=True:=by kernel_rfl
theorem qAY:zO 2 2 1 1=True:=by kernel_rfl
theorem qA0:zO 2 3 0 1=True:=by kernel_rfl
theorem qA2:zO 2 3 1 0=True:=by kernel_rfl
theorem qA4:zO 2 3 1 2=True:=by kernel_rfl
theorem qA6:zO 2 4 0 1=True:=by kernel_rfl
theorem qA8:zO 2 4 0 3=True:=by kernel_rfl
theorem qBa:zO 2 4 1 1=True:=by kernel_rfl
theorem qBc:zO 2 4 1 3=True:=by kernel_rfl
theorem qBe:zO 3 1 1 0=True:=by kernel_rfl
theorem qBg:zO 3 2 0 0=True:=by kernel_rfl
theorem qBi:zO 3 2 1 0=True:=by kernel_rfl
theorem qBk:zO 3 2 2 0=True:=by kernel_rfl
theorem qBm:zO 3 3 0 0=True:=by kernel_rfl
theorem qBo:zO 3 3 0 2=True:=by kernel_rfl
theorem qBq:zO 3 3 1 1=True:=by kernel_rfl
theorem qBs:zO 3 3 2 0=True:=by kernel_rfl
theorem qBu:zO 3 3 2 2=True:=by kernel_rfl
theorem qBw:zO 4 1 1 0=True:=by kernel_rfl
theorem qBy:zO 4 1 3 0=True:=by kernel_rfl
theorem qBA:zO 4 2 0 1=True:=by kernel_rfl
theorem qBC:zO 4 2 1 1=True:=by kernel_rfl
theorem qBE:zO 4 2 2 1=True:=by kernel_rfl
theorem qBG:zO 4 2 3 1=True:=by kernel_rfl
theorem qBI:zO 5 1 1 0=True:=by kernel_rfl
theorem qBK:zO 5 1 3 0=True:=by kernel_rfl
end Go.AM
