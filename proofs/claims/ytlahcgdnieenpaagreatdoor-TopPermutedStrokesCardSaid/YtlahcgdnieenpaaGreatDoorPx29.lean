/-
  Px29: Ky37. Own work.
-/
import Derived.Test.YtlahcgdnieenpaaGreatDoorPt6
import Derived.Test.YtlahcgdnieenpaaGreatDoorPx17

set_option maxRecDepth 100000
set_option maxHeartbeats 4000000
namespace Go.AM
open Go.RowKit Go.Proofs Go.Proofs.Tryz
def lH:AV := .sl true 2 [(.sl true 4 [(I 1),(I 0),(I 2),(I 3)]),(.sl true 4 [(I 1),(I 2),(I 3),(I 0)])]
noncomputable def qi2:TZ prog:=kA Dd 44 [(.agg [(I 4),lH])] (.val (I 0))
def ZG:AV := .ptr [(I 4),lH,(.sl false 2 [(I 1),(I 0),(I 2),(I 3),(I 0),(I 0),(I 3),(I 0),(I 1),(I 2),(I 0),(I 0)])] 0
def lJ:AV := .agg [(I 1),(I 0),(I 2),(I 0),(I 0),(I 0)]
def lK:AV := .agg [(I 0),(I 1),(I 2),(I 0),(I 0),(I 0)]
noncomputable def qi3:TZ prog:=kA qi2 106 [ZG,lJ,(I 0)] (.val lK)
def lN:AV := .agg [(I 0),(I 1),(I 0),(I 2),(I 0),(I 0)]
noncomputable def qi4:TZ prog:=kA qi3 106 [ZG,lJ,(I 1)] (.val lN)
def qdb:AV := .agg [(I 2),(I 1),(I 0),(I 0),(I 0),(I 0)]
def xV:AV := .agg [(I 1),(I 2),(I 0),(I 0),(I 0),(I 0)]
noncomputable def qi5:TZ prog:=kA qi4 106 [ZG,qdb,(I 0)] (.val xV)
def xW:AV := .agg [(I 0),(I 2),(I 1),(I 0),(I 0),(I 0)]
noncomputable def qi6:TZ prog:=kA qi5 106 [ZG,qdb,(I 1)] (.val xW)
noncomputable def qi7:TZ prog:=kA qi6 106 [ZG,lK,(I 0)] (.val lJ)
def LT:AV := .agg [(I 0),(I 0),(I 1),(I 2),(I 0),(I 0)]
noncomputable def qi8:TZ prog:=kA qi7 106 [ZG,lK,(I 1)] (.val LT)
def qdc:AV := .agg [(I 1),(I 0),(I 0),(I 2),(I 0),(I 0)]
noncomputable def qi9:TZ prog:=kA qi8 106 [ZG,lN,(I 0)] (.val qdc)
def Te:AV := .agg [(I 2),(I 0),(I 1),(I 0),(I 0),(I 0)]
noncomputable def qja:TZ prog:=kA qi9 106 [ZG,lN,(I 1)] (.val Te)
noncomputable def qjb:TZ prog:=kA qja 106 [ZG,xW,(I 0)] (.val Te)
def Tf:AV := .agg [(I 2),(I 0),(I 0),(I 1),(I 0),(I 0)]
noncomputable def qa1:TZ prog:=kA qjb 107 [ZG,Tf,(.fn (.func 106) [ZG] [])] (.mapp [((.agg #[(.int .i64 2),(.int .i64 0),(.int .i64 0),(.int .i64 1),(.int .i64 0),(.int .i64 0)]),0,(I 0)),((.agg #[(.int .i64 0),(.int .i64 2),(.int .i64 0),(.int .i64 1),(.int .i64 0),(.int .i64 0)]),0,(I 1)),((.agg #[(.int .i64 1),(.int .i64 2),(.int .i64 0),(.int .i64 0),(.int .i64 0),(.int .i64 0)]),0,(I 1)),((.agg #[(.int .i64 1),(.int .i64 0),(.int .i64 2),(.int .i64 0),(.int .i64 0),(.int .i64 0)]),0,(I 2)),((.agg #[(.int .i64 2),(.int .i64 1),(.int .i64 0),(.int .i64 0),(.int .i64 0),(.int .i64 0)]),0,(I 2)),((.agg #[(.int .i64 0),(.int .i64 1),(.int .i64 2),(.int .i64 0),(.int .i64 0),(.int .i64 0)]),0,(I 2)),((.agg #[(.int .i64 0),(.int .i64 1),(.int .i64 0),(.int .i64 2),(.int .i64 0),(.int .i64 0)]),0,(I 3)),((.agg #[(.int .i64 0),(.int .i64 2),(.int .i64 1),(.int .i64 0),(.int .i64 0),(.int .i64 0)]),0,(I 3)),((.agg #[(.int .i64 0),(.int .i64 0),(.int .i64 1),(.int .i64 2),(.int .i64 0),(.int .i64 0)]),0,(I 3)),((.agg #[(.int .i64 1),(.int .i64 0),(.int .i64 0),(.int .i64 2),(.int .i64 0),(.int .i64 0)]),0,(I 4)),((.agg #[(.int .i64 2),(.int .i64 0),(.int .i64 1),(.int .i64 0),(.int .i64 0),(.int .i64 0)]),0,(I 4)),((.agg #[(.int .i64 0),(.int .i64 0),(.int .i64 2),(.int .i64 1),(.int .i64 0),(.int .i64 0)]),0,(I 4))])
noncomputable def qa2:TZ prog:=kA qa1 106 [ZG,Te,(I 0)] (.val xW)
def nL:AV := .agg [(I 0),(I 2),(I 0),(I 1),(I 0),(I 0)]
noncomputable def qa3:TZ prog:=kA qa2 106 [ZG,Te,(I 1)] (.val nL)
def Tg:AV := .agg [(I 0),(I 0),(I 2),(I 1),(I 0),(I 0)]
noncomputable def qa4:TZ prog:=kA qa3 106 [ZG,Tg,(I 0)] (.val Tg)
noncomputable def qa5:TZ prog:=kA qa4 106 [ZG,Tg,(I 1)] (.val qdc)
noncomputable def qa6:TZ prog:=kA qa5 106 [ZG,Tf,(I 0)] (.val nL)
noncomputable def qa7:TZ prog:=kA qa6 106 [ZG,Tf,(I 1)] (.val xV)
noncomputable def qa8:TZ prog:=kA qa7 106 [ZG,xW,(I 1)] (.val Tg)
noncomputable def qa9:TZ prog:=kA qa8 106 [ZG,LT,(I 0)] (.val LT)
noncomputable def qba:TZ prog:=kA qa9 106 [ZG,LT,(I 1)] (.val Tf)
noncomputable def qbb:TZ prog:=kA qba 107 [ZG,xV,(.fn (.func 106) [ZG] [])] (.mapp [((.agg #[(.int .i64 1),(.int .i64 2),(.int .i64 0),(.int .i64 0),(.int .i64 0),(.int .i64 0)]),0,(I 0)),((.agg #[(.int .i64 2),(.int .i64 1),(.int .i64 0),(.int .i64 0),(.int .i64 0),(.int .i64 0)]),0,(I 1)),((.agg #[(.int .i64 0),(.int .i64 1),(.int .i64 2),(.int .i64 0),(.int .i64 0),(.int .i64 0)]),0,(I 1)),((.agg #[(.int .i64 0),(.int .i64 2),(.int .i64 1),(.int .i64 0),(.int .i64 0),(.int .i64 0)]),0,(I 2)),((.agg #[(.int .i64 1),(.int .i64 0),(.int .i64 2),(.int .i64 0),(.int .i64 0),(.int .i64 0)]),0,(I 2)),((.agg #[(.int .i64 0),(.int .i64 0),(.int .i64 1),(.int .i64 2),(.int .i64 0),(.int .i64 0)]),0,(I 2)),((.agg #[(.int .i64 2),(.int .i64 0),(.int .i64 1),(.int .i64 0),(.int .i64 0),(.int .i64 0)]),0,(I 3)),((.agg #[(.int .i64 0),(.int .i64 0),(.int .i64 2),(.int .i64 1),(.int .i64 0),(.int .i64 0)]),0,(I 3)),((.agg #[(.int .i64 0),(.int .i64 1),(.int .i64 0),(.int .i64 2),(.int .i64 0),(.int .i64 0)]),0,(I 3)),((.agg #[(.int .i64 2),(.int .i64 0),(.int .i64 0),(.int .i64 1),(.int .i64 0),(.int .i64 0)]),0,(I 3)),((.agg #[(.int .i64 0),(.int .i64 2),(.int .i64 0),(.int .i64 1),(.int .i64 0),(.int .i64 0)]),0,(I 4)),((.agg #[(.int .i64 1),(.int .i64 0),(.int .i64 0),(.int .i64 2),(.int .i64 0),(.int .i64 0)]),0,(I 4))])
noncomputable def qbc:TZ prog:=kA qbb 107 [ZG,LT,(.fn (.func 34) [ZG] [])] (.mapp [((.agg #[(.int .i64 0),(.int .i64 0),(.int .i64 1),(.int .i64 2),(.int .i64 0),(.int .i64 0)]),0,(I 0)),((.agg #[(.int .i64 0),(.int .i64 1),(.int .i64 2),(.int .i64 0),(.int .i64 0),(.int .i64 0)]),0,(I 1)),((.agg #[(.int .i64 1),(.int .i64 0),(.int .i64 2),(.int .i64 0),(.int .i64 0),(.int .i64 0)]),0,(I 2)),((.agg #[(.int .i64 1),(.int .i64 2),(.int .i64 0),(.int .i64 0),(.int .i64 0),(.int .i64 0)]),0,(I 2)),((.agg #[(.int .i64 0),(.int .i64 2),(.int .i64 0),(.int .i64 1),(.int .i64 0),(.int .i64 0)]),0,(I 3)),((.agg #[(.int .i64 2),(.int .i64 1),(.int .i64 0),(.int .i64 0),(.int .i64 0),(.int .i64 0)]),0,(I 3)),((.agg #[(.int .i64 2),(.int .i64 0),(.int .i64 0),(.int .i64 1),(.int .i64 0),(.int .i64 0)]),0,(I 3)),((.agg #[(.int .i64 2),(.int .i64 0),(.int .i64 1),(.int .i64 0),(.int .i64 0),(.int .i64 0)]),0,(I 4)),((.agg #[(.int .i64 1),(.int .i64 0),(.int .i64 0),(.int .i64 2),(.int .i64 0),(.int .i64 0)]),0,(I 4)),((.agg #[(.int .i64 0),(.int .i64 2),(.int .i64 1),(.int .i64 0),(.int .i64 0),(.int .i64 0)]),0,(I 5)),((.agg #[(.int .i64 0),(.int .i64 1),(.int .i64 0),(.int .i64 2),(.int .i64 0),(.int .i64 0)]),0,(I 5)),((.agg #[(.int .i64 0),(.int .i64 0),(.int .i64 2),(.int .i64 1),(.int .i64 0),(.int .i64 0)]),0,(I 5))])
noncomputable def qbd:TZ prog:=kA qbc 136 [ZG,LT,xV,(I 1)] (.val (.tup [(I 2),(I 2),(B true)]))
def Th:AV := .sl true 2 [(.sl true 4 [(I 1),(I 0),(I 2),(I 3)]),(.sl true 4 [(I 0),(I 1),(I 3),(I 2)])]
noncomputable def qbe:TZ prog:=kA qbd 44 [(.agg [(I 4),Th])] (.val (I 0))
noncomputable def qbf:TZ prog:=kA qbe 28 [(.agg [(I 4),lH]),(.sl true 2 [(I 0),(I 1)])] (.val (.tup [(.sl false 4 [(I 0),(I 2),(I 3),(I 1)]),(I 0)]))
noncomputable def qbg:TZ prog:=kA qbf 31 [(.agg [(I 4),Th]),(.sl true 2 [(.sl true 4 [(I 0),(I 0),(I 1),(I 2)]),(.sl true 4 [(I 0),(I 1),(I 0),(I 2)])])] (.val (.tup [(.ptr [(I 4),Th,(.sl false 2 [(I 1),(I 0),(I 2),(I 3),(I 0),(I 0),(I 0),(I 1),(I 3),(I 2),(I 0),(I 0)])] 0),(I 0)]))
noncomputable def qbh:TZ prog:=kA qbg 20 [(.agg [(I 4),Th]),(.sl true 2 [(I 0),(I 1)]),(.sl true 2 [(I 1),(I 0)])] (.val (I 0))
theorem ql5:Jp prog 37 [] (.val (B true)):=kR qbh 37 [] (.val (B true))
end Go.AM
