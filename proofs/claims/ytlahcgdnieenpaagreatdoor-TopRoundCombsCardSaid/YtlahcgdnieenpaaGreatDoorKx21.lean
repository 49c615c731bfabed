/-
  Kx21: Ky274. Own work.
-/
import Derived.Test.YtlahcgdnieenpaaGreatDoorKt5
import Derived.Test.YtlahcgdnieenpaaGreatDoorKx15

set_option maxRecDepth 100000
set_option maxHeartbeats 4000000
namespace Go.AM
open Go.RowKit Go.Proofs
def jk:AV := .sl false 3 [(I 3),(I 10),(I 2),(I 5),(I 4),(I 6),(I 2),(I 8),(I 7)]
noncomputable def qsO:TZ Tryz.prog:=kA qdP 415 [jk] (.val (.tup [(.ptr [jk,(I 15),(I 24)] 0),(I 0)]))
noncomputable def qsP:TZ Tryz.prog:=kA qsO 474 [(.ptr [jk,(I 15),(I 24)] 0),(.agg [(I 3),(I 8),(I 21)]),(I 2)] (.val (.agg [(I 7),(I 10),(I 28)]))
noncomputable def qsQ:TZ Tryz.prog:=kA qsP 474 [(.ptr [jk,(I 15),(I 24)] 0),(.agg [(I 5),(I 5),(I 22)]),(I 1)] (.val (.agg [(I 7),(I 10),(I 28)]))
noncomputable def qsR:TZ Tryz.prog:=kA qsQ 474 [(.ptr [jk,(I 15),(I 24)] 0),(.agg [(I 3),(I 8),(I 20)]),(I 2)] (.val (.agg [(I 7),(I 10),(I 27)]))
noncomputable def qsS:TZ Tryz.prog:=kA qsR 474 [(.ptr [jk,(I 15),(I 24)] 0),(.agg [(I 6),(I 7),(I 22)]),(I 0)] (.val (.agg [(I 7),(I 10),(I 24)]))
noncomputable def qsT:TZ Tryz.prog:=kA qsS 474 [(.ptr [jk,(I 15),(I 24)] 0),(.agg [(I 5),(I 5),(I 19)]),(I 1)] (.val (.agg [(I 7),(I 10),(I 25)]))
noncomputable def qsU:TZ Tryz.prog:=kA qsT 474 [(.ptr [jk,(I 15),(I 24)] 0),(.agg [(I 6),(I 7),(I 23)]),(I 0)] (.val (.agg [(I 7),(I 10),(I 25)]))
noncomputable def qsV:TZ Tryz.prog:=kA qsU 421 [(.ptr [jk,(I 15),(I 24)] 0),(I (-1)),(I (-1))] (.val (I 1))
noncomputable def qsW:TZ Tryz.prog:=kA qsV 351 [jk,(I 1),(I 2)] (.val (.tup [(I 2),(I 0)]))
noncomputable def qsX:TZ Tryz.prog:=kA qsW 351 [jk,(I 0),(I 1)] (.val (.tup [(I 0),(I 0)]))
theorem qCy:jG Tryz.prog 274 [] (.val (B true)):=kR qsX 274 [] (.val (B true))
end Go.AM
