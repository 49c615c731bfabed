/-
  Px26: Ky158. Own work.
-/
import Derived.Test.YtlahcgdnieenpaaGreatDoorPt6
import Derived.Test.YtlahcgdnieenpaaGreatDoorPx17

set_option maxRecDepth 100000
set_option maxHeartbeats 4000000
namespace Go.AM
open Go.RowKit Go.Proofs
def Td:AV := .sl false 3 [(I 1),(I 2),(I (-1)),(I 3),(I (-2)),(I (-3))]
noncomputable def qav:TZ Tryz.prog:=kA Dd 384 [(.agg [(I 3),Td])] (.val (.ptr ([(I 3),Td,(I 25),(I 38),(I 38),(I 25),(I 25),(I 38)]++List.replicate 18 (I 0)) 0))
def CW:AV := .sl false 4 [(I 1),(I 2),(I (-1)),(I 3),(I (-2)),(I (-3)),(I 1),(I 1)]
def nF:AV := .ptr ([(I 3),CW,(I 25),(I 63),(I 63),(I 25),(I 25),(I 63)]++List.replicate 18 (I 0)) 0
noncomputable def qaw:TZ Tryz.prog:=kA qav 384 [(.agg [(I 3),CW])] (.val nF)
def nG:AV := .sl false 5 [(I 1),(I 2),(I (-1)),(I 3),(I (-2)),(I (-3)),(I 1),(I 1),(I 2),(I (-3))]
noncomputable def qax:TZ Tryz.prog:=kA qaw 303 [(.agg [(I 3),nG])] (.val (.tup [(.ptr ([(I 3),nG,(I 63),(I 63),(I 63),(I 63),(I 63),(I 63)]++List.replicate 18 (I 0)) 0),(I 0)]))
noncomputable def qay:TZ Tryz.prog:=kA qax 298 [(.agg [(I 3),Td])] (.val (I 0))
noncomputable def qaz:TZ Tryz.prog:=kA qay 214 [(.agg [(I 3),Td])] (.val (.tup [(.sl false 1 [(.sl false 3 [(I 1),(I (-2)),(I 3)])]),(I 0)]))
noncomputable def qaA:TZ Tryz.prog:=kA qaz 303 [(.agg [(I 3),CW])] (.val (.tup [nF,(I 0)]))
theorem qjv:Jp Tryz.prog 158 [] (.val (B true)):=kR qaA 158 [] (.val (B true))
end Go.AM
