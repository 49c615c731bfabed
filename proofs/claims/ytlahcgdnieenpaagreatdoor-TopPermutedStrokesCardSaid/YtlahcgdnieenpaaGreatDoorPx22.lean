/-
  Px22: Ky399. Own work.
-/
import Derived.Test.YtlahcgdnieenpaaGreatDoorPt6
import Derived.Test.YtlahcgdnieenpaaGreatDoorPx17

set_option maxRecDepth 100000
set_option maxHeartbeats 4000000
namespace Go.AM
open Go.RowKit Go.Proofs Go.Proofs.Tryz
def HS:AV := .sl false 4 [(I 0),(I 4),(I 4),(I 4),(I 6),(I 4),(I 2),(I 1)]
noncomputable def qbi:TZ prog:=kA Dd 532 [(.agg [(I 10),HS])] (.val (.tup [(.ptr ([(I 10),HS,(I 1),(I 1),(I 2),(I 1),(I 1),(I 1),(I 2),(I 2),(I 1),(I 1)]++List.replicate 990 (I 0)++[(I 2),(I 0),(I 0),(I 0),(I 1),(I 1),(I 1),(I 1),(I 2)]++List.replicate 992 (I 0)) 0),(I 0)]))
noncomputable def qbj:TZ prog:=kA qbi 540 [(I 15)] (.made 4 1 [(I 0),(I 1),(I 2),(I 3)])
noncomputable def qbk:TZ prog:=kA qbj 452 [(.agg [(I 10),HS])] (.val (.tup [(.sl true 0 []),(I 5)]))
noncomputable def qbl:TZ prog:=kA qbk 454 [(.agg [(I 10),HS]),(I 0),(I 1)] (.val (.tup [(I 1),(I 0)]))
def nM:AV := .agg [(I 10),(.sl false 2 [(I 0),(I 10),(I 3),(I 10)])]
noncomputable def qbm:TZ prog:=kA qbl 451 [nM] (.val (.tup [(.sl false 2 [(.sl false 1 [(I 0)]),(.sl false 1 [(I 1)])]),(I 0)]))
noncomputable def qbn:TZ prog:=kA qbm 450 [(.agg [(I 10),HS])] (.val (.tup [(.sl false 4 [(I 0),(I 2),(I 3),(I 1)]),(I 2),(I 0)]))
noncomputable def qbo:TZ prog:=kA qbn 455 [(.agg [(I 10),HS])] (.val (.tup [(I 2),(I 0)]))
noncomputable def qbp:TZ prog:=kA qbo 532 [nM] (.val (.tup [(.ptr ([(I 10),(.sl false 2 [(I 0),(I 10),(I 3),(I 10)]),(I 2),(I 2),(I 2),(I 2),(I 2),(I 2),(I 2),(I 2),(I 2),(I 2)]++List.replicate 990 (I 0)++[(I 2),(I 0),(I 1),(I 2),(I 3),(I 4),(I 5),(I 6),(I 7),(I 8),(I 9)]++List.replicate 990 (I 0)) 0),(I 0)]))
theorem qjD:Jp prog 399 [] (.val (B true)):=kR qbp 399 [] (.val (B true))
end Go.AM
