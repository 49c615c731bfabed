/-
  Px30: KyW. Own work.
-/
import Derived.Test.YtlahcgdnieenpaaGreatDoorPt6
import Derived.Test.YtlahcgdnieenpaaGreatDoorPx19
import Derived.Test.YtlahcgdnieenpaaGreatDoorPx20
import Derived.Test.YtlahcgdnieenpaaGreatDoorPx21
import Derived.Test.YtlahcgdnieenpaaGreatDoorPx22
import Derived.Test.YtlahcgdnieenpaaGreatDoorPx23
import Derived.Test.YtlahcgdnieenpaaGreatDoorPx24
import Derived.Test.YtlahcgdnieenpaaGreatDoorPx25
import Derived.Test.YtlahcgdnieenpaaGreatDoorPx26
import Derived.Test.YtlahcgdnieenpaaGreatDoorPx27
import Derived.Test.YtlahcgdnieenpaaGreatDoorPx28
import Derived.Test.YtlahcgdnieenpaaGreatDoorPx29

set_option maxRecDepth 100000
set_option maxHeartbeats 0
set_option linter.unusedVariables false
namespace Go.AM
open Go.RowKit Go.Proofs Go.Proofs.Tryz
noncomputable def qc1:TZ prog:=kT Dd 442 qjE
noncomputable def qc2:TZ prog:=kT qc1 443 qjF
noncomputable def qc3:TZ prog:=kT qc2 444 qjG
noncomputable def qc0:TZ prog:=kT qc3 399 qjD
noncomputable def qcY:TZ prog:=kT qc0 341 qjB
noncomputable def qcX:TZ prog:=kT qcY 274 qjz
noncomputable def qcW:TZ prog:=kT qcX 206 qjx
noncomputable def qcV:TZ prog:=kT qcW 158 qjv
noncomputable def qcU:TZ prog:=kT qcV 113 qjt
noncomputable def qjm:TZ prog:=kT qcU 67 ql7
noncomputable def qcZ:TZ prog:=kT qjm 37 ql5
theorem qjC:Jp prog 398 [] (.val (B true)):=kR qcZ 398 [] (.val (B true))
noncomputable def nA:TZ prog:=kT qcZ 398 qjC
theorem qjA:Jp prog 340 [] (.val (B true)):=kR nA 340 [] (.val (B true))
noncomputable def nz:TZ prog:=kT nA 340 qjA
theorem qjy:Jp prog 273 [] (.val (B true)):=kR nz 273 [] (.val (B true))
noncomputable def nw:TZ prog:=kT nz 273 qjy
theorem qjw:Jp prog 205 [] (.val (B true)):=kR nw 205 [] (.val (B true))
noncomputable def nu:TZ prog:=kT nw 205 qjw
theorem qju:Jp prog 157 [] (.val (B true)):=kR nu 157 [] (.val (B true))
noncomputable def nr:TZ prog:=kT nu 157 qju
theorem qjs:Jp prog 112 [] (.val (B true)):=kR nr 112 [] (.val (B true))
noncomputable def nq:TZ prog:=kT nr 112 qjs
theorem ql6:Jp prog 66 [] (.val (B true)):=kR nq 66 [] (.val (B true))
noncomputable def qc4:TZ prog:=kT nq 66 ql6
theorem ql4:Jp prog 36 [] (.val (B true)):=kR qc4 36 [] (.val (B true))
noncomputable def qjl:TZ prog:=kT qc4 36 ql4
theorem ql3:Jp prog 11 [] (.val (B true)):=kR qjl 11 [] (.val (B true))
end Go.AM
