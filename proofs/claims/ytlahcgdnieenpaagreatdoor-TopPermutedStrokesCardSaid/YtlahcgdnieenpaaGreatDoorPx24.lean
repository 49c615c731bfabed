/-
  Px24: Ky274. Own work.
-/
import Derived.Test.YtlahcgdnieenpaaGreatDoorPt6
import Derived.Test.YtlahcgdnieenpaaGreatDoorPx17

set_option maxRecDepth 100000
set_option maxHeartbeats 4000000
namespace Go.AM
open Go.RowKit Go.Proofs Go.Proofs.Tryz
def Yb:AV := .sl false 3 [(I 3),(I 10),(I 2),(I 5),(I 4),(I 6),(I 2),(I 8),(I 7)]
noncomputable def qaK:TZ prog:=kA Dd 415 [Yb] (.val (.tup [(.ptr [Yb,(I 15),(I 24)] 0),(I 0)]))
noncomputable def qaL:TZ prog:=kA qaK 474 [(.ptr [Yb,(I 15),(I 24)] 0),(.agg [(I 3),(I 8),(I 21)]),(I 2)] (.val (.agg [(I 7),(I 10),(I 28)]))
noncomputable def qaM:TZ prog:=kA qaL 474 [(.ptr [Yb,(I 15),(I 24)] 0),(.agg [(I 5),(I 5),(I 22)]),(I 1)] (.val (.agg [(I 7),(I 10),(I 28)]))
noncomputable def qaN:TZ prog:=kA qaM 474 [(.ptr [Yb,(I 15),(I 24)] 0),(.agg [(I 3),(I 8),(I 20)]),(I 2)] (.val (.agg [(I 7),(I 10),(I 27)]))
noncomputable def qaO:TZ prog:=kA qaN 474 [(.ptr [Yb,(I 15),(I 24)] 0),(.agg [(I 6),(I 7),(I 22)]),(I 0)] (.val (.agg [(I 7),(I 10),(I 24)]))
noncomputable def qaP:TZ prog:=kA qaO 474 [(.ptr [Yb,(I 15),(I 24)] 0),(.agg [(I 5),(I 5),(I 19)]),(I 1)] (.val (.agg [(I 7),(I 10),(I 25)]))
noncomputable def qaQ:TZ prog:=kA qaP 474 [(.ptr [Yb,(I 15),(I 24)] 0),(.agg [(I 6),(I 7),(I 23)]),(I 0)] (.val (.agg [(I 7),(I 10),(I 25)]))
noncomputable def qaR:TZ prog:=kA qaQ 421 [(.ptr [Yb,(I 15),(I 24)] 0),(I (-1)),(I (-1))] (.val (I 1))
noncomputable def qaS:TZ prog:=kA qaR 351 [Yb,(I 1),(I 2)] (.val (.tup [(I 2),(I 0)]))
noncomputable def qaT:TZ prog:=kA qaS 351 [Yb,(I 0),(I 1)] (.val (.tup [(I 0),(I 0)]))
theorem qjz:Jp prog 274 [] (.val (B true)):=kR qaT 274 [] (.val (B true))
end Go.AM
