/-
  Px23: Ky341. Own work.
-/
import Derived.Test.YtlahcgdnieenpaaGreatDoorPt6
import Derived.Test.YtlahcgdnieenpaaGreatDoorPx17

set_option maxRecDepth 100000
set_option maxHeartbeats 4000000
namespace Go.AM
open Go.RowKit Go.Proofs
def nI:AV := .sl false 4 [(I 100),(I 110),(I 60),(I 110),(I 90),(I 95),(I 75),(I 100),(I 120),(I 125),(I 80),(I 110),(I 80),(I 80),(I 70),(I 200)]
def UI:AV := .agg [(I 10),nI,(.sl false 1 [(I 3),(I 1)])]
noncomputable def qaU:TZ Tryz.prog:=kA Dd 97 [UI] (.val (I 0))
def nJ:AV := .ptr ([(I 10),nI,(.sl false 1 [(I 3),(I 1)]),(I 0),(I 3),(I 0),(I 1),(I 2),(I 3),(I 0),(I 1)]++List.replicate 12 (I 0)++[(.v (.int .u64 0)),(.v (.int .u64 8)),(.v (.int .u64 0)),(.v (.int .u64 0)),(.v (.int .u64 0)),(.v (.int .u64 0)),(.v (.int .u64 0)),(.v (.int .u64 0)),(.v (.int .u64 0)),(.v (.int .u64 0))]) 0
noncomputable def qaV:TZ Tryz.prog:=kA qaU 468 [UI,(.sl true 1 [(I 0)])] (.val (.tup [nJ,(I 0)]))
noncomputable def qaW:TZ Tryz.prog:=kA qaV 407 [UI,(I 0)] (.val (.tup [(.sl false 2 [(I 2),(I 3)]),(I 0)]))
noncomputable def qaX:TZ Tryz.prog:=kA qaW 47 [nJ] (.made 4 1 [(I 3),(I 1),(I 0),(I 2)])
noncomputable def qaY:TZ Tryz.prog:=kA qaX 408 [UI,(I 1),(I 0)] (.val (.tup [(B true),(I 0)]))
def nK:AV := .sl false 4 [(I 100),(I 110),(I 90),(I 110),(I 90),(I 95),(I 75),(I 100),(I 120),(I 125),(I 80),(I 110),(I 80),(I 80),(I 70),(I 200)]
noncomputable def qaZ:TZ Tryz.prog:=kA qaY 46 [(.agg [(I 10),nK,(.sl false 1 [(I 3),(I 1)])]),(.sl true 0 [])] (.val (.tup [(.ptr ([(I 10),nK,(.sl false 1 [(I 3),(I 1)]),(I 0),(I 1),(I 0),(I 1),(I 2),(I 3),(I 0),(I 1)]++List.replicate 12 (I 0)++[(.v (.int .u64 0)),(.v (.int .u64 8)),(.v (.int .u64 0)),(.v (.int .u64 0)),(.v (.int .u64 0)),(.v (.int .u64 0)),(.v (.int .u64 0)),(.v (.int .u64 0)),(.v (.int .u64 0)),(.v (.int .u64 0))]) 0),(I 0)]))
noncomputable def qa0:TZ Tryz.prog:=kA qaZ 409 [UI] (.val (.tup [(I 2),(I 0)]))
theorem qjB:Jp Tryz.prog 341 [] (.val (B true)):=kR qa0 341 [] (.val (B true))
end Go.AM
