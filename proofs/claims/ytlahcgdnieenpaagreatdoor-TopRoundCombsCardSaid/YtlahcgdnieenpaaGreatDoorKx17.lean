/-
  Kx17: Ky443. Own work.
-/
import Derived.Test.YtlahcgdnieenpaaGreatDoorKt5
import Derived.Test.YtlahcgdnieenpaaGreatDoorKx15

set_option maxRecDepth 100000
set_option maxHeartbeats 4000000
namespace Go.AM
open Go.RowKit Go.Proofs
def JE:AV := .sl true 3 [(I 0),(I 1),(I 1),(I 2),(I 2),(I 3)]
def qgU:AV := .sl true 5 [(I 3),(I 1),(I 2),(I (-2)),(I 1)]
noncomputable def qtz:TZ Tryz.prog:=kA qdP 19 [(.agg [(I 4),JE]),qgU,(.sl true 3 [(I 1),(I 3),(I 1)])] (.val (I 0))
noncomputable def qtA:TZ Tryz.prog:=kA qtz 510 [(.agg [(I 4),JE]),(.sl true 4 [(I 4),(I 1),(I 3),(I 2)])] (.val (.tup [(I 3),(I 0)]))
noncomputable def qtB:TZ Tryz.prog:=kA qtA 139 [(.agg [(I 4),JE])] (.val (I 0))
noncomputable def qtC:TZ Tryz.prog:=kA qtB 512 [(.agg [(I 4),JE]),qgU,(.sl true 3 [(I 1),(I 3),(I 1)])] (.val (.tup [(.sl false 4 [(I 2),(I 2),(I 0),(I 1),(I 0),(I 0),(I 1),(I 1),(I 0),(I 1),(I 1),(I 0)]),(I 0)]))
noncomputable def qtD:TZ Tryz.prog:=kA qtC 39 [(.ptr ([(I 4),JE,(I 0),(I 1),(I 0),(I 0),(I 0),(I 0),(I 0),(I 0),(I 1),(I 0),(I 1),(I 0),(I 0),(I 0),(I 0),(I 0),(I 0),(I 1),(I 0),(I 1),(I 0),(I 0),(I 0),(I 0),(I 0),(I 0),(I 1)]++List.replicate 37 (I 0)) 0),(.sl true 4 [(I 4),(I 1),(I 3),(I 2)])] (.made 4 1 [(I 1),(I 4),(I 3),(I 2)])
noncomputable def qtE:TZ Tryz.prog:=kA qtD 511 [(.agg [(I 4),JE]),(.sl true 4 [(I 1),(I 4),(I 3),(I 2)]),(.sl true 3 [(I 4),(I 1),(I 2)])] (.val (.tup [(.sl false 2 [(I 1),(I 4)]),(I 0)]))
noncomputable def qtF:TZ Tryz.prog:=kA qtE 15 [(.agg [(I 4),JE]),(.sl true 4 [(I 1),(I 4),(I 3),(I 2)]),(.sl true 3 [(I 4),(I 1),(I 2)])] (.val (.tup [(.sl false 3 [(I (-2)),(I (-3)),(I 2)]),(I 0)]))
noncomputable def qtG:TZ Tryz.prog:=kA qtF 19 [(.agg [(I 4),JE]),(.sl true 2 [(I 1),(I 2)]),(.sl true 2 [(I 2),(I 1)])] (.val (I 18))
noncomputable def qtH:TZ Tryz.prog:=kA qtG 14 [(.agg [(I 4),JE]),qgU] (.val (.tup [(.sl false 3 [(I 1),(I 1),(I 3)]),(I 0)]))
theorem qCE:jG Tryz.prog 443 [] (.val (B true)):=kR qtH 443 [] (.val (B true))
end Go.AM
