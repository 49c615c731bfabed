/-
  Px27: Ky113. Own work.
-/
import Derived.Test.YtlahcgdnieenpaaGreatDoorPt6
import Derived.Test.YtlahcgdnieenpaaGreatDoorPx17

set_option maxRecDepth 100000
set_option maxHeartbeats 4000000
namespace Go.AM
open Go.RowKit Go.Proofs Go.Proofs.Tryz
def Jw:AV := .sl true 7 [(I 2),(I 2),(I 6),(I 5),(I 5),(I 6),(I (-1))]
def Ta:AV := .sl true 7 [(I 3),(I 3),(I 3),(I 3),(I 3),(I 3),(I 3)]
def nD:AV := .ptr ([Jw,Ta,(I 0),(I 0),(I 2),(I 0),(I 0),(I 2),(I 2)]++List.replicate 23 (I 0)) 0
noncomputable def qal:TZ prog:=kA Dd 226 [nD,Ta] (.val (.agg ([(I 1),(I 1),(I 2),(I 1),(I 1),(I 2),(I 3)]++List.replicate 23 (I 0))))
def Xz:AV := .sl true 7 [(I 5),(I 5),(I 5),(I 5),(I 5),(I 5),(I 5)]
def Tb:AV := .ptr ([Jw,Xz,(I 0),(I 0),(I 2),(I 0),(I 0),(I 2),(I 2)]++List.replicate 23 (I 0)) 0
noncomputable def qam:TZ prog:=kA qal 232 [Tb,Xz,(I 2)] (.val (I (-1)))
def Tc:AV := .sl true 7 [(I 4),(I 4),(I 4),(I 4),(I 4),(I 4),(I 4)]
def nE:AV := .ptr ([Jw,Tc,(I 0),(I 0),(I 2),(I 0),(I 0),(I 2),(I 2)]++List.replicate 23 (I 0)) 0
noncomputable def qan:TZ prog:=kA qam 232 [nE,Tc,(I 2)] (.val (I (-1)))
noncomputable def qao:TZ prog:=kA qan 230 [(.agg [Jw,Xz]),(I 2),(I 0)] (.val (.tup [Tb,(I 0)]))
noncomputable def qap:TZ prog:=kA qao 226 [Tb,(.sl false 7 [(I 4),(I 4),(I 4),(I 4),(I 4),(I 4),(I 4)])] (.val (.agg ([(I 2),(I 2),(I 3),(I 2),(I 2),(I 3),(I 4)]++List.replicate 23 (I 0))))
noncomputable def qaq:TZ prog:=kA qap 163 [(.agg [Jw,Xz]),(I 2)] (.val (.tup [(.sl false 4 [(.sl false 2 [(I 0),(I 1)]),(.sl false 2 [(I 3),(I 4)]),(.sl false 2 [(I 2),(I 5)]),(.sl false 1 [(I 6)])]),(I 0)]))
noncomputable def qar:TZ prog:=kA qaq 230 [(.agg [Jw,Xz]),(I 4),(I 0)] (.val (.tup [Tb,(I 0)]))
noncomputable def qas:TZ prog:=kA qar 166 [(.agg [Jw,Xz]),(I 4)] (.val (.tup [(I 3),(I 0)]))
noncomputable def qat:TZ prog:=kA qas 241 [Xz] (.val (I 5))
noncomputable def qau:TZ prog:=kA qat 168 [(.agg [Jw,Xz]),(I 2)] (.val (.tup [(.sl false 5 [(I 1),(I 2),(I 3),(I 4),(I 5)]),(I 0)]))
noncomputable def tT:TZ prog:=kA qau 167 [(.agg [Jw,Tc]),(I 2),(I 5)] (.val (.tup [(I 3),(I 0)]))
noncomputable def tU:TZ prog:=kA tT 165 [(.agg [Jw,Ta])] (.val (.tup [(I 4),(I 0)]))
noncomputable def tV:TZ prog:=kA tU 227 [(.agg [Jw,Tc]),(I 2)] (.val (.tup [nE,(I 0)]))
noncomputable def tW:TZ prog:=kA tV 227 [(.agg [Jw,Ta]),(I 2)] (.val (.tup [nD,(I 0)]))
theorem qjt:Jp prog 113 [] (.val (B true)):=kR tW 113 [] (.val (B true))
end Go.AM
