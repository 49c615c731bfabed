/-
  Px25: Ky206. Own work.
-/
import Derived.Test.YtlahcgdnieenpaaGreatDoorPt6
import Derived.Test.YtlahcgdnieenpaaGreatDoorPx17

set_option maxRecDepth 100000
set_option maxHeartbeats 4000000
namespace Go.AM
open Go.RowKit Go.Proofs Go.Proofs.Tryz
def XA:AV := .ptr [(.sl false 4 [(I 100),(I 110),(I 20),(I 60),(I 5),(I 50),(I 80),(I 90),(I 90),(I 10),(I 30),(I 3),(I 60),(I 80),(I 150),(I 150),(I 0),(I 40),(I 4),(I 110),(I 150),(I 130),(I 130),(I 25),(I 50),(I 6),(I 80),(I 105)])] 0
noncomputable def qaB:TZ prog:=kA Dd 373 [XA] (.val (.fn (.func 487) [] [(.ptr [(.sl false 4 [(I 50),(I 60),(I 80),(I 110)])] 0)]))
noncomputable def qaC:TZ prog:=kA qaB 360 [XA,(I 80)] (.val (.agg [(I 1),(I 1),(I 0),(I 1),(I 0),(I 0),(I 0),(I 0),(I 0),(I 0),(I 0),(I 0),(I 0),(I 0)]))
noncomputable def qaD:TZ prog:=kA qaC 360 [XA,(I 110)] (.val (.agg [(I 0),(I 0),(I 1),(I 0),(I 0),(I 0),(I 0),(I 0),(I 0),(I 0),(I 0),(I 0),(I 0),(I 0)]))
noncomputable def qaE:TZ prog:=kA qaD 360 [XA,(I 60)] (.val (.agg ([(I 1),(I 1)]++List.replicate 12 (I 0))))
noncomputable def qaF:TZ prog:=kA qaE 360 [XA,(I 50)] (.val (.agg ([(I 1)]++List.replicate 13 (I 0))))
noncomputable def qaG:TZ prog:=kA qaF 371 [XA,(I 2)] (.val (.tup [(I 18),(.sl false 2 [(I 80),(I 110)])]))
def nH:AV := .sl false 4 [(I 100),(I 110),(I 20),(I 60),(I 5),(I 90),(I 90),(I 10),(I 30),(I 3),(I 150),(I 150),(I 0),(I 40),(I 4),(I 130),(I 130),(I 25),(I 50),(I 6)]
noncomputable def qaH:TZ prog:=kA qaG 358 [nH] (.val (.tup [XA,(I 0)]))
noncomputable def qaI:TZ prog:=kA qaH 371 [XA,(I 1)] (.val (.tup [(I 14),(.sl false 1 [(I 80)])]))
noncomputable def qaJ:TZ prog:=kA qaI 283 [nH] (.val (.tup [(.sl false 1 [(I 2)]),(I 0)]))
theorem qjx:Jp prog 206 [] (.val (B true)):=kR qaJ 206 [] (.val (B true))
end Go.AM
