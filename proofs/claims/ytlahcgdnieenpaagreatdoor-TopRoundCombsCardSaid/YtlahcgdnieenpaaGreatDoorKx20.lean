/-
  Kx20: Ky341. Own work.
-/
import Derived.Test.YtlahcgdnieenpaaGreatDoorKt5
import Derived.Test.YtlahcgdnieenpaaGreatDoorKx15

set_option maxRecDepth 100000
set_option maxHeartbeats 4000000
namespace Go.AM
open Go.RowKit Go.Proofs
def qlg:AV := .sl false 4 [(I 100),(I 110),(I 60),(I 110),(I 90),(I 95),(I 75),(I 100),(I 120),(I 125),(I 80),(I 110),(I 80),(I 80),(I 70),(I 200)]
def qax:AV := .agg [(I 10),qlg,(.sl false 1 [(I 3),(I 1)])]
noncomputable def qsY:TZ Tryz.prog:=kA qdP 97 [qax] (.val (I 0))
def qlh:AV := .ptr ([(I 10),qlg,(.sl false 1 [(I 3),(I 1)]),(I 0),(I 3),(I 0),(I 1),(I 2),(I 3),(I 0),(I 1)]++List.replicate 12 (I 0)++[(.v (.int .u64 0)),(.v (.int .u64 8)),(.v (.int .u64 0)),(.v (.int .u64 0)),(.v (.int .u64 0)),(.v (.int .u64 0)),(.v (.int .u64 0)),(.v (.int .u64 0)),(.v (.int .u64 0)),(.v (.int .u64 0))]) 0
noncomputable def qsZ:TZ Tryz.prog:=kA qsY 468 [qax,(.sl true 1 [(I 0)])] (.val (.tup [qlh,(I 0)]))
noncomputable def qs0:TZ Tryz.prog:=kA qsZ 407 [qax,(I 0)] (.val (.tup [(.sl false 2 [(I 2),(I 3)]),(I 0)]))
noncomputable def qs1:TZ Tryz.prog:=kA qs0 47 [qlh] (.made 4 1 [(I 3),(I 1),(I 0),(I 2)])
noncomputable def qs2:TZ Tryz.prog:=kA qs1 408 [qax,(I 1),(I 0)] (.val (.tup [(B true),(I 0)]))
def qli:AV := .sl false 4 [(I 100),(I 110),(I 90),(I 110),(I 90),(I 95),(I 75),(I 100),(I 120),(I 125),(I 80),(I 110),(I 80),(I 80),(I 70),(I 200)]
noncomputable def qs3:TZ Tryz.prog:=kA qs2 46 [(.agg [(I 10),qli,(.sl false 1 [(I 3),(I 1)])]),(.sl true 0 [])] (.val (.tup [(.ptr ([(I 10),qli,(.sl false 1 [(I 3),(I 1)]),(I 0),(I 1),(I 0),(I 1),(I 2),(I 3),(I 0),(I 1)]++List.replicate 12 (I 0)++[(.v (.int .u64 0)),(.v (.int .u64 8)),(.v (.int .u64 0)),(.v (.int .u64 0)),(.v (.int .u64 0)),(.v (.int .u64 0)),(.v (.int .u64 0)),(.v (.int .u64 0)),(.v (.int .u64 0)),(.v (.int .u64 0))]) 0),(I 0)]))
noncomputable def qs4:TZ Tryz.prog:=kA qs3 409 [qax] (.val (.tup [(I 2),(I 0)]))
theorem qCA:jG Tryz.prog 341 [] (.val (B true)):=kR qs4 341 [] (.val (B true))
end Go.AM
