/-
  Kx19: Ky399. Own work.
-/
import Derived.Test.YtlahcgdnieenpaaGreatDoorKt5
import Derived.Test.YtlahcgdnieenpaaGreatDoorKx15

set_option maxRecDepth 100000
set_option maxHeartbeats 4000000
namespace Go.AM
open Go.RowKit Go.Proofs
def Wp:AV := .sl false 4 [(I 0),(I 4),(I 4),(I 4),(I 6),(I 4),(I 2),(I 1)]
noncomputable def qtm:TZ Tryz.prog:=kA qdP 532 [(.agg [(I 10),Wp])] (.val (.tup [(.ptr ([(I 10),Wp,(I 1),(I 1),(I 2),(I 1),(I 1),(I 1),(I 2),(I 2),(I 1),(I 1)]++List.replicate 990 (I 0)++[(I 2),(I 0),(I 0),(I 0),(I 1),(I 1),(I 1),(I 1),(I 2)]++List.replicate 992 (I 0)) 0),(I 0)]))
noncomputable def qtn:TZ Tryz.prog:=kA qtm 540 [(I 15)] (.made 4 1 [(I 0),(I 1),(I 2),(I 3)])
noncomputable def qto:TZ Tryz.prog:=kA qtn 452 [(.agg [(I 10),Wp])] (.val (.tup [(.sl true 0 []),(I 5)]))
noncomputable def qtp:TZ Tryz.prog:=kA qto 454 [(.agg [(I 10),Wp]),(I 0),(I 1)] (.val (.tup [(I 1),(I 0)]))
def qlk:AV := .agg [(I 10),(.sl false 2 [(I 0),(I 10),(I 3),(I 10)])]
noncomputable def qtq:TZ Tryz.prog:=kA qtp 451 [qlk] (.val (.tup [(.sl false 2 [(.sl false 1 [(I 0)]),(.sl false 1 [(I 1)])]),(I 0)]))
noncomputable def qtr:TZ Tryz.prog:=kA qtq 450 [(.agg [(I 10),Wp])] (.val (.tup [(.sl false 4 [(I 0),(I 2),(I 3),(I 1)]),(I 2),(I 0)]))
noncomputable def qts:TZ Tryz.prog:=kA qtr 455 [(.agg [(I 10),Wp])] (.val (.tup [(I 2),(I 0)]))
noncomputable def qtt:TZ Tryz.prog:=kA qts 532 [qlk] (.val (.tup [(.ptr ([(I 10),(.sl false 2 [(I 0),(I 10),(I 3),(I 10)]),(I 2),(I 2),(I 2),(I 2),(I 2),(I 2),(I 2),(I 2),(I 2),(I 2)]++List.replicate 990 (I 0)++[(I 2),(I 0),(I 1),(I 2),(I 3),(I 4),(I 5),(I 6),(I 7),(I 8),(I 9)]++List.replicate 990 (I 0)) 0),(I 0)]))
theorem qCC:jG Tryz.prog 399 [] (.val (B true)):=kR qtt 399 [] (.val (B true))
end Go.AM
