/-
  Px20: Ky443. Own work.
-/
import Derived.Test.YtlahcgdnieenpaaGreatDoorPt6
import Derived.Test.YtlahcgdnieenpaaGreatDoorPx17

set_option maxRecDepth 100000
set_option maxHeartbeats 4000000
namespace Go.AM
open Go.RowKit Go.Proofs Go.Proofs.Tryz
def Wc:AV := .sl true 3 [(I 0),(I 1),(I 1),(I 2),(I 2),(I 3)]
def CX:AV := .sl true 5 [(I 3),(I 1),(I 2),(I (-2)),(I 1)]
noncomputable def qbv:TZ prog:=kA Dd 19 [(.agg [(I 4),Wc]),CX,(.sl true 3 [(I 1),(I 3),(I 1)])] (.val (I 0))
noncomputable def qbw:TZ prog:=kA qbv 510 [(.agg [(I 4),Wc]),(.sl true 4 [(I 4),(I 1),(I 3),(I 2)])] (.val (.tup [(I 3),(I 0)]))
noncomputable def qbx:TZ prog:=kA qbw 139 [(.agg [(I 4),Wc])] (.val (I 0))
noncomputable def qby:TZ prog:=kA qbx 512 [(.agg [(I 4),Wc]),CX,(.sl true 3 [(I 1),(I 3),(I 1)])] (.val (.tup [(.sl false 4 [(I 2),(I 2),(I 0),(I 1),(I 0),(I 0),(I 1),(I 1),(I 0),(I 1),(I 1),(I 0)]),(I 0)]))
noncomputable def qbz:TZ prog:=kA qby 39 [(.ptr ([(I 4),Wc,(I 0),(I 1),(I 0),(I 0),(I 0),(I 0),(I 0),(I 0),(I 1),(I 0),(I 1),(I 0),(I 0),(I 0),(I 0),(I 0),(I 0),(I 1),(I 0),(I 1),(I 0),(I 0),(I 0),(I 0),(I 0),(I 0),(I 1)]++List.replicate 37 (I 0)) 0),(.sl true 4 [(I 4),(I 1),(I 3),(I 2)])] (.made 4 1 [(I 1),(I 4),(I 3),(I 2)])
noncomputable def qbA:TZ prog:=kA qbz 511 [(.agg [(I 4),Wc]),(.sl true 4 [(I 1),(I 4),(I 3),(I 2)]),(.sl true 3 [(I 4),(I 1),(I 2)])] (.val (.tup [(.sl false 2 [(I 1),(I 4)]),(I 0)]))
noncomputable def qbB:TZ prog:=kA qbA 15 [(.agg [(I 4),Wc]),(.sl true 4 [(I 1),(I 4),(I 3),(I 2)]),(.sl true 3 [(I 4),(I 1),(I 2)])] (.val (.tup [(.sl false 3 [(I (-2)),(I (-3)),(I 2)]),(I 0)]))
noncomputable def qbC:TZ prog:=kA qbB 19 [(.agg [(I 4),Wc]),(.sl true 2 [(I 1),(I 2)]),(.sl true 2 [(I 2),(I 1)])] (.val (I 18))
noncomputable def qbD:TZ prog:=kA qbC 14 [(.agg [(I 4),Wc]),CX] (.val (.tup [(.sl false 3 [(I 1),(I 1),(I 3)]),(I 0)]))
theorem qjF:Jp prog 443 [] (.val (B true)):=kR qbD 443 [] (.val (B true))
end Go.AM
