/-
  Kx22: Ky206. Own work.
-/
import Derived.Test.YtlahcgdnieenpaaGreatDoorKt5
import Derived.Test.YtlahcgdnieenpaaGreatDoorKx15

set_option maxRecDepth 100000
set_option maxHeartbeats 4000000
namespace Go.AM
open Go.RowKit Go.Proofs
def YD:AV := .ptr [(.sl false 4 [(I 100),(I 110),(I 20),(I 60),(I 5),(I 50),(I 80),(I 90),(I 90),(I 10),(I 30),(I 3),(I 60),(I 80),(I 150),(I 150),(I 0),(I 40),(I 4),(I 110),(I 150),(I 130),(I 130),(I 25),(I 50),(I 6),(I 80),(I 105)])] 0
noncomputable def qsF:TZ Tryz.prog:=kA qdP 373 [YD] (.val (.fn (.func 487) [] [(.ptr [(.sl false 4 [(I 50),(I 60),(I 80),(I 110)])] 0)]))
noncomputable def qsG:TZ Tryz.prog:=kA qsF 360 [YD,(I 80)] (.val (.agg [(I 1),(I 1),(I 0),(I 1),(I 0),(I 0),(I 0),(I 0),(I 0),(I 0),(I 0),(I 0),(I 0),(I 0)]))
noncomputable def qsH:TZ Tryz.prog:=kA qsG 360 [YD,(I 110)] (.val (.agg [(I 0),(I 0),(I 1),(I 0),(I 0),(I 0),(I 0),(I 0),(I 0),(I 0),(I 0),(I 0),(I 0),(I 0)]))
noncomputable def qsI:TZ Tryz.prog:=kA qsH 360 [YD,(I 60)] (.val (.agg ([(I 1),(I 1)]++List.replicate 12 (I 0))))
noncomputable def qsJ:TZ Tryz.prog:=kA qsI 360 [YD,(I 50)] (.val (.agg ([(I 1)]++List.replicate 13 (I 0))))
noncomputable def qsK:TZ Tryz.prog:=kA qsJ 371 [YD,(I 2)] (.val (.tup [(I 18),(.sl false 2 [(I 80),(I 110)])]))
def qlf:AV := .sl false 4 [(I 100),(I 110),(I 20),(I 60),(I 5),(I 90),(I 90),(I 10),(I 30),(I 3),(I 150),(I 150),(I 0),(I 40),(I 4),(I 130),(I 130),(I 25),(I 50),(I 6)]
noncomputable def qsL:TZ Tryz.prog:=kA qsK 358 [qlf] (.val (.tup [YD,(I 0)]))
noncomputable def qsM:TZ Tryz.prog:=kA qsL 371 [YD,(I 1)] (.val (.tup [(I 14),(.sl false 1 [(I 80)])]))
noncomputable def qsN:TZ Tryz.prog:=kA qsM 283 [qlf] (.val (.tup [(.sl false 1 [(I 2)]),(I 0)]))
theorem qCw:jG Tryz.prog 206 [] (.val (B true)):=kR qsN 206 [] (.val (B true))
end Go.AM
