/-
  Kx27: KyW. Own work.
-/
import Derived.Test.YtlahcgdnieenpaaGreatDoorKt5
import Derived.Test.YtlahcgdnieenpaaGreatDoorKx16
import Derived.Test.YtlahcgdnieenpaaGreatDoorKx17
import Derived.Test.YtlahcgdnieenpaaGreatDoorKx18
import Derived.Test.YtlahcgdnieenpaaGreatDoorKx19
import Derived.Test.YtlahcgdnieenpaaGreatDoorKx20
import Derived.Test.YtlahcgdnieenpaaGreatDoorKx21
import Derived.Test.YtlahcgdnieenpaaGreatDoorKx22
import Derived.Test.YtlahcgdnieenpaaGreatDoorKx23
import Derived.Test.YtlahcgdnieenpaaGreatDoorKx24
import Derived.Test.YtlahcgdnieenpaaGreatDoorKx25
import Derived.Test.YtlahcgdnieenpaaGreatDoorKx26

set_option maxRecDepth 100000
set_option maxHeartbeats 0
set_option linter.unusedVariables false
namespace Go.AM
open Go.RowKit Go.Proofs
noncomputable def qva:TZ Tryz.prog:=kT qdP 442 qCD
noncomputable def qvb:TZ Tryz.prog:=kT qva 443 qCE
noncomputable def qvc:TZ Tryz.prog:=kT qvb 444 qCF
noncomputable def qu9:TZ Tryz.prog:=kT qvc 399 qCC
noncomputable def qu6:TZ Tryz.prog:=kT qu9 341 qCA
noncomputable def qu5:TZ Tryz.prog:=kT qu6 274 qCy
noncomputable def qu4:TZ Tryz.prog:=kT qu5 206 qCw
noncomputable def qu3:TZ Tryz.prog:=kT qu4 158 qCu
noncomputable def qu2:TZ Tryz.prog:=kT qu3 113 qCs
noncomputable def qCl:TZ Tryz.prog:=kT qu2 67 qET
noncomputable def qu8:TZ Tryz.prog:=kT qCl 37 qER
theorem qCB:jG Tryz.prog 398 [] (.val (B true)):=kR qu8 398 [] (.val (B true))
noncomputable def qk9:TZ Tryz.prog:=kT qu8 398 qCB
theorem qCz:jG Tryz.prog 340 [] (.val (B true)):=kR qk9 340 [] (.val (B true))
noncomputable def qk8:TZ Tryz.prog:=kT qk9 340 qCz
theorem qCx:jG Tryz.prog 273 [] (.val (B true)):=kR qk8 273 [] (.val (B true))
noncomputable def qk7:TZ Tryz.prog:=kT qk8 273 qCx
theorem qCv:jG Tryz.prog 205 [] (.val (B true)):=kR qk7 205 [] (.val (B true))
noncomputable def qk6:TZ Tryz.prog:=kT qk7 205 qCv
theorem qCt:jG Tryz.prog 157 [] (.val (B true)):=kR qk6 157 [] (.val (B true))
noncomputable def qk5:TZ Tryz.prog:=kT qk6 157 qCt
theorem qCr:jG Tryz.prog 112 [] (.val (B true)):=kR qk5 112 [] (.val (B true))
noncomputable def qk4:TZ Tryz.prog:=kT qk5 112 qCr
theorem qES:jG Tryz.prog 66 [] (.val (B true)):=kR qk4 66 [] (.val (B true))
noncomputable def qvd:TZ Tryz.prog:=kT qk4 66 qES
theorem qEQ:jG Tryz.prog 36 [] (.val (B true)):=kR qvd 36 [] (.val (B true))
noncomputable def qu7:TZ Tryz.prog:=kT qvd 36 qEQ
theorem qEP:jG Tryz.prog 11 [] (.val (B true)):=kR qu7 11 [] (.val (B true))
noncomputable def qu1:TZ Tryz.prog:=kT qu7 11 qEP
end Go.AM
