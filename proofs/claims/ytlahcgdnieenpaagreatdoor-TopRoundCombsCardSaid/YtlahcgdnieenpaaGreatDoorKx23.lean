/-
  Kx23: Ky158. Own work.
-/
import Derived.Test.YtlahcgdnieenpaaGreatDoorKt5
import Derived.Test.YtlahcgdnieenpaaGreatDoorKx15

set_option maxRecDepth 100000
set_option maxHeartbeats 4000000
namespace Go.AM
open Go.RowKit Go.Proofs
def qcD:AV := .sl false 3 [(I 1),(I 2),(I (-1)),(I 3),(I (-2)),(I (-3))]
noncomputable def qsz:TZ Tryz.prog:=kA qdP 384 [(.agg [(I 3),qcD])] (.val (.ptr ([(I 3),qcD,(I 25),(I 38),(I 38),(I 25),(I 25),(I 38)]++List.replicate 18 (I 0)) 0))
def qgT:AV := .sl false 4 [(I 1),(I 2),(I (-1)),(I 3),(I (-2)),(I (-3)),(I 1),(I 1)]
def qld:AV := .ptr ([(I 3),qgT,(I 25),(I 63),(I 63),(I 25),(I 25),(I 63)]++List.replicate 18 (I 0)) 0
noncomputable def qsA:TZ Tryz.prog:=kA qsz 384 [(.agg [(I 3),qgT])] (.val qld)
def qle:AV := .sl false 5 [(I 1),(I 2),(I (-1)),(I 3),(I (-2)),(I (-3)),(I 1),(I 1),(I 2),(I (-3))]
noncomputable def qsB:TZ Tryz.prog:=kA qsA 303 [(.agg [(I 3),qle])] (.val (.tup [(.ptr ([(I 3),qle,(I 63),(I 63),(I 63),(I 63),(I 63),(I 63)]++List.replicate 18 (I 0)) 0),(I 0)]))
noncomputable def qsC:TZ Tryz.prog:=kA qsB 298 [(.agg [(I 3),qcD])] (.val (I 0))
noncomputable def qsD:TZ Tryz.prog:=kA qsC 214 [(.agg [(I 3),qcD])] (.val (.tup [(.sl false 1 [(.sl false 3 [(I 1),(I (-2)),(I 3)])]),(I 0)]))
noncomputable def qsE:TZ Tryz.prog:=kA qsD 303 [(.agg [(I 3),qgT])] (.val (.tup [qld,(I 0)]))
theorem qCu:jG Tryz.prog 158 [] (.val (B true)):=kR qsE 158 [] (.val (B true))
end Go.AM
