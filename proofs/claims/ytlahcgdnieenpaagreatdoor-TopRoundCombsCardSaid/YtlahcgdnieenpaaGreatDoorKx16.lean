/-
  Kx16: Ky442. Own work.
-/
import Derived.Test.YtlahcgdnieenpaaGreatDoorKt5
import Derived.Test.YtlahcgdnieenpaaGreatDoorKx15

set_option maxRecDepth 100000
set_option maxHeartbeats 4000000
namespace Go.AM
open Go.RowKit Go.Proofs
def VE:AV := .sl true 3 [(I 20),(I 50),(I 50),(I 50),(I 80),(I 50)]
def qcI:AV := .sl true 4 [(I 0),(I 100),(I 144),(I 1),(I 225),(I 400),(I 0),(I 200),(I 300),(I 2),(I 100),(I 100)]
noncomputable def qtu:TZ Tryz.prog:=kA qdP 643 [(.agg [(I 100),VE,qcI])] (.val (I 0))
noncomputable def qtv:TZ Tryz.prog:=kA qtu 578 [(.agg [(I 100),VE,qcI])] (.val (.ptr ([(I 100),VE,qcI,(.sl false 3 [(I 300),(I 444),(I 225),(I 400),(I 100),(I 100)])]++List.replicate 14 (I 0)++[(I 1),(I 0),(I 0),(I 0),(I 0),(I 0),(I 0),(I 0),(I 0),(I 0),(I 0),(I 1),(I 0),(I 2),(I 0),(I 0),(I 0),(I 0),(I 0),(I 0),(I 0),(I 0),(I 0),(I 0),(I 2),(I 0),(I 1),(I 0),(I 0),(I 0),(I 0),(I 0),(I 0),(I 0),(I 0),(I 0),(I 0),(I 1)]++List.replicate 92 (I 0)) 0))
def qll:AV := .sl false 2 [(I 0),(I 100),(I 144),(I 1),(I 225),(I 400)]
noncomputable def qtw:TZ Tryz.prog:=kA qtv 578 [(.agg [(I 100),VE,qll])] (.val (.ptr ([(I 100),VE,qll,(.sl false 3 [(I 100),(I 144),(I 225),(I 400),(I 0),(I 0)])]++List.replicate 27 (I 0)++[(I 1),(I 0),(I 0),(I 0),(I 0),(I 0),(I 0),(I 0),(I 0),(I 0),(I 0),(I 1)]++List.replicate 105 (I 0)) 0))
noncomputable def qtx:TZ Tryz.prog:=kA qtw 493 [(.agg [(I 100),VE,qcI]),(I 0),(I 1)] (.val (.tup [(.agg [(I 2),(I 3)]),(I 0)]))
noncomputable def qty:TZ Tryz.prog:=kA qtx 494 [(.agg [(I 100),VE,(.sl true 2 [(I 0),(I 100),(I 144),(I 2),(I 100),(I 100)])]),(I 1)] (.val (.tup [(I 323),(I 0)]))
theorem qCD:jG Tryz.prog 442 [] (.val (B true)):=kR qty 442 [] (.val (B true))
end Go.AM
