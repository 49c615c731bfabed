/-
  Kx24: Ky113. Own work.
-/
import Derived.Test.YtlahcgdnieenpaaGreatDoorKt5
import Derived.Test.YtlahcgdnieenpaaGreatDoorKx15

set_option maxRecDepth 100000
set_option maxHeartbeats 4000000
namespace Go.AM
open Go.RowKit Go.Proofs
def Z0:AV := .sl true 7 [(I 2),(I 2),(I 6),(I 5),(I 5),(I 6),(I (-1))]
def qcA:AV := .sl true 7 [(I 3),(I 3),(I 3),(I 3),(I 3),(I 3),(I 3)]
def qlb:AV := .ptr ([Z0,qcA,(I 0),(I 0),(I 2),(I 0),(I 0),(I 2),(I 2)]++List.replicate 23 (I 0)) 0
noncomputable def qsp:TZ Tryz.prog:=kA qdP 226 [qlb,qcA] (.val (.agg ([(I 1),(I 1),(I 2),(I 1),(I 1),(I 2),(I 3)]++List.replicate 23 (I 0))))
def YC:AV := .sl true 7 [(I 5),(I 5),(I 5),(I 5),(I 5),(I 5),(I 5)]
def qcB:AV := .ptr ([Z0,YC,(I 0),(I 0),(I 2),(I 0),(I 0),(I 2),(I 2)]++List.replicate 23 (I 0)) 0
noncomputable def qsq:TZ Tryz.prog:=kA qsp 232 [qcB,YC,(I 2)] (.val (I (-1)))
def qcC:AV := .sl true 7 [(I 4),(I 4),(I 4),(I 4),(I 4),(I 4),(I 4)]
def qlc:AV := .ptr ([Z0,qcC,(I 0),(I 0),(I 2),(I 0),(I 0),(I 2),(I 2)]++List.replicate 23 (I 0)) 0
noncomputable def qsr:TZ Tryz.prog:=kA qsq 232 [qlc,qcC,(I 2)] (.val (I (-1)))
noncomputable def qss:TZ Tryz.prog:=kA qsr 230 [(.agg [Z0,YC]),(I 2),(I 0)] (.val (.tup [qcB,(I 0)]))
noncomputable def qst:TZ Tryz.prog:=kA qss 226 [qcB,(.sl false 7 [(I 4),(I 4),(I 4),(I 4),(I 4),(I 4),(I 4)])] (.val (.agg ([(I 2),(I 2),(I 3),(I 2),(I 2),(I 3),(I 4)]++List.replicate 23 (I 0))))
noncomputable def qsu:TZ Tryz.prog:=kA qst 163 [(.agg [Z0,YC]),(I 2)] (.val (.tup [(.sl false 4 [(.sl false 2 [(I 0),(I 1)]),(.sl false 2 [(I 3),(I 4)]),(.sl false 2 [(I 2),(I 5)]),(.sl false 1 [(I 6)])]),(I 0)]))
noncomputable def qsv:TZ Tryz.prog:=kA qsu 230 [(.agg [Z0,YC]),(I 4),(I 0)] (.val (.tup [qcB,(I 0)]))
noncomputable def qsw:TZ Tryz.prog:=kA qsv 166 [(.agg [Z0,YC]),(I 4)] (.val (.tup [(I 3),(I 0)]))
noncomputable def qsx:TZ Tryz.prog:=kA qsw 241 [YC] (.val (I 5))
noncomputable def qsy:TZ Tryz.prog:=kA qsx 168 [(.agg [Z0,YC]),(I 2)] (.val (.tup [(.sl false 5 [(I 1),(I 2),(I 3),(I 4),(I 5)]),(I 0)]))
noncomputable def qod:TZ Tryz.prog:=kA qsy 167 [(.agg [Z0,qcC]),(I 2),(I 5)] (.val (.tup [(I 3),(I 0)]))
noncomputable def qoe:TZ Tryz.prog:=kA qod 165 [(.agg [Z0,qcA])] (.val (.tup [(I 4),(I 0)]))
noncomputable def qof:TZ Tryz.prog:=kA qoe 227 [(.agg [Z0,qcC]),(I 2)] (.val (.tup [qlc,(I 0)]))
noncomputable def qog:TZ Tryz.prog:=kA qof 227 [(.agg [Z0,qcA]),(I 2)] (.val (.tup [qlb,(I 0)]))
theorem qCs:jG Tryz.prog 113 [] (.val (B true)):=kR qog 113 [] (.val (B true))
end Go.AM
