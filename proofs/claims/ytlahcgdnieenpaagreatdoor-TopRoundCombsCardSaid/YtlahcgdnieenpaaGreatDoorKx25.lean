/-
  Kx25: Ky67. Own work.
-/
import Derived.Test.YtlahcgdnieenpaaGreatDoorKt5
import Derived.Test.YtlahcgdnieenpaaGreatDoorKx15

set_option maxRecDepth 100000
set_option maxHeartbeats 4000000
namespace Go.AM
open Go.RowKit Go.Proofs
def qbM:AV := .sl true 7 [(I 0),(I 1),(I 2),(I 0),(I 1),(I 2),(I 0)]
def qvm:AV := .ptr [(I 2),qbM,(.sl false 7 [(I (-1)),(I (-1)),(I (-1)),(I 0),(I 1),(I 2),(I 3)]),(.sl false 7 [(I 3),(I 4),(I 5),(I 6),(I (-1)),(I (-1)),(I (-1))])] 0
noncomputable def qB8:TZ Tryz.prog:=kA qdP 187 [qvm,(I (-1))] (.val (I 3))
noncomputable def qB9:TZ Tryz.prog:=kA qB8 122 [(.agg [(I 2),qbM])] (.val (.tup [(.sl false 2 [(I 2),(I 4)]),(I 0)]))
noncomputable def qCa:TZ Tryz.prog:=kA qB9 120 [(.agg [(I 2),qbM])] (.val (.tup [(.sl false 4 [(I 7),(I 5),(I 3),(I 3)]),(I 0)]))
noncomputable def qCb:TZ Tryz.prog:=kA qCa 123 [(.agg [(I 2),qbM]),(I 3)] (.val (.tup [(I 1),(I 0)]))
noncomputable def qCc:TZ Tryz.prog:=kA qCb 126 [(.agg [(I 2),qbM]),(.sl false 7 [(I (-1)),(I (-1)),(I 1),(I (-1)),(I 0),(I (-1)),(I 1)])] (.val (.tup [(I 5),(I 0)]))
noncomputable def qCd:TZ Tryz.prog:=kA qCc 174 [(.agg [(I 2),qbM]),(.sl true 0 [])] (.val (.tup [qvm,(I 0)]))
noncomputable def qCe:TZ Tryz.prog:=kA qCd 123 [(.agg [(I 2),qbM]),(I 0)] (.val (.tup [(I 2),(I 0)]))
theorem qET:jG Tryz.prog 67 [] (.val (B true)):=kR qCe 67 [] (.val (B true))
end Go.AM
