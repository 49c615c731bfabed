/-
  Px19: Ky442. Own work.
-/
import Derived.Test.YtlahcgdnieenpaaGreatDoorPt6
import Derived.Test.YtlahcgdnieenpaaGreatDoorPx17

set_option maxRecDepth 100000
set_option maxHeartbeats 4000000
namespace Go.AM
open Go.RowKit Go.Proofs
def Nz:AV := .sl true 3 [(I 20),(I 50),(I 50),(I 50),(I 80),(I 50)]
def Ti:AV := .sl true 4 [(I 0),(I 100),(I 144),(I 1),(I 225),(I 400),(I 0),(I 200),(I 300),(I 2),(I 100),(I 100)]
noncomputable def qbq:TZ Tryz.prog:=kA Dd 643 [(.agg [(I 100),Nz,Ti])] (.val (I 0))
noncomputable def qbr:TZ Tryz.prog:=kA qbq 578 [(.agg [(I 100),Nz,Ti])] (.val (.ptr ([(I 100),Nz,Ti,(.sl false 3 [(I 300),(I 444),(I 225),(I 400),(I 100),(I 100)])]++List.replicate 14 (I 0)++[(I 1),(I 0),(I 0),(I 0),(I 0),(I 0),(I 0),(I 0),(I 0),(I 0),(I 0),(I 1),(I 0),(I 2),(I 0),(I 0),(I 0),(I 0),(I 0),(I 0),(I 0),(I 0),(I 0),(I 0),(I 2),(I 0),(I 1),(I 0),(I 0),(I 0),(I 0),(I 0),(I 0),(I 0),(I 0),(I 0),(I 0),(I 1)]++List.replicate 92 (I 0)) 0))
def nN:AV := .sl false 2 [(I 0),(I 100),(I 144),(I 1),(I 225),(I 400)]
noncomputable def qbs:TZ Tryz.prog:=kA qbr 578 [(.agg [(I 100),Nz,nN])] (.val (.ptr ([(I 100),Nz,nN,(.sl false 3 [(I 100),(I 144),(I 225),(I 400),(I 0),(I 0)])]++List.replicate 27 (I 0)++[(I 1),(I 0),(I 0),(I 0),(I 0),(I 0),(I 0),(I 0),(I 0),(I 0),(I 0),(I 1)]++List.replicate 105 (I 0)) 0))
noncomputable def qbt:TZ Tryz.prog:=kA qbs 493 [(.agg [(I 100),Nz,Ti]),(I 0),(I 1)] (.val (.tup [(.agg [(I 2),(I 3)]),(I 0)]))
noncomputable def qbu:TZ Tryz.prog:=kA qbt 494 [(.agg [(I 100),Nz,(.sl true 2 [(I 0),(I 100),(I 144),(I 2),(I 100),(I 100)])]),(I 1)] (.val (.tup [(I 323),(I 0)]))
theorem qjE:Jp Tryz.prog 442 [] (.val (B true)):=kR qbu 442 [] (.val (B true))
end Go.AM
