/-
  Px28: Ky67. Own work.
-/
import Derived.Test.YtlahcgdnieenpaaGreatDoorPt6
import Derived.Test.YtlahcgdnieenpaaGreatDoorPx17

set_option maxRecDepth 100000
set_option maxHeartbeats 4000000
namespace Go.AM
open Go.RowKit Go.Proofs
def Rb:AV := .sl true 7 [(I 0),(I 1),(I 2),(I 0),(I 1),(I 2),(I 0)]
def qdd:AV := .ptr [(I 2),Rb,(.sl false 7 [(I (-1)),(I (-1)),(I (-1)),(I 0),(I 1),(I 2),(I 3)]),(.sl false 7 [(I 3),(I 4),(I 5),(I 6),(I (-1)),(I (-1)),(I (-1))])] 0
noncomputable def qjc:TZ Tryz.prog:=kA Dd 187 [qdd,(I (-1))] (.val (I 3))
noncomputable def qjd:TZ Tryz.prog:=kA qjc 122 [(.agg [(I 2),Rb])] (.val (.tup [(.sl false 2 [(I 2),(I 4)]),(I 0)]))
noncomputable def qje:TZ Tryz.prog:=kA qjd 120 [(.agg [(I 2),Rb])] (.val (.tup [(.sl false 4 [(I 7),(I 5),(I 3),(I 3)]),(I 0)]))
noncomputable def qjf:TZ Tryz.prog:=kA qje 123 [(.agg [(I 2),Rb]),(I 3)] (.val (.tup [(I 1),(I 0)]))
noncomputable def qjg:TZ Tryz.prog:=kA qjf 126 [(.agg [(I 2),Rb]),(.sl false 7 [(I (-1)),(I (-1)),(I 1),(I (-1)),(I 0),(I (-1)),(I 1)])] (.val (.tup [(I 5),(I 0)]))
noncomputable def qjh:TZ Tryz.prog:=kA qjg 174 [(.agg [(I 2),Rb]),(.sl true 0 [])] (.val (.tup [qdd,(I 0)]))
noncomputable def qji:TZ Tryz.prog:=kA qjh 123 [(.agg [(I 2),Rb]),(I 0)] (.val (.tup [(I 2),(I 0)]))
theorem ql7:Jp Tryz.prog 67 [] (.val (B true)):=kR qji 67 [] (.val (B true))
end Go.AM
