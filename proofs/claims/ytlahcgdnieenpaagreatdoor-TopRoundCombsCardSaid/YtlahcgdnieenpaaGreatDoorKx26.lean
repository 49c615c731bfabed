/-
  Kx26: Ky37. Own work.
-/
import Derived.Test.YtlahcgdnieenpaaGreatDoorKt5
import Derived.Test.YtlahcgdnieenpaaGreatDoorKx15

set_option maxRecDepth 100000
set_option maxHeartbeats 4000000
namespace Go.AM
open Go.RowKit Go.Proofs
def qor:AV := .sl true 2 [(.sl true 4 [(I 1),(I 0),(I 2),(I 3)]),(.sl true 4 [(I 1),(I 2),(I 3),(I 0)])]
noncomputable def qBY:TZ Tryz.prog:=kA qdP 44 [(.agg [(I 4),qor])] (.val (I 0))
def QN:AV := .ptr [(I 4),qor,(.sl false 2 [(I 1),(I 0),(I 2),(I 3),(I 0),(I 0),(I 3),(I 0),(I 1),(I 2),(I 0),(I 0)])] 0
def qos:AV := .agg [(I 1),(I 0),(I 2),(I 0),(I 0),(I 0)]
def qot:AV := .agg [(I 0),(I 1),(I 2),(I 0),(I 0),(I 0)]
noncomputable def qBZ:TZ Tryz.prog:=kA qBY 106 [QN,qos,(I 0)] (.val qot)
def qou:AV := .agg [(I 0),(I 1),(I 0),(I 2),(I 0),(I 0)]
noncomputable def qB0:TZ Tryz.prog:=kA qBZ 106 [QN,qos,(I 1)] (.val qou)
def qvk:AV := .agg [(I 2),(I 1),(I 0),(I 0),(I 0),(I 0)]
def qjA:AV := .agg [(I 1),(I 2),(I 0),(I 0),(I 0),(I 0)]
noncomputable def qB1:TZ Tryz.prog:=kA qB0 106 [QN,qvk,(I 0)] (.val qjA)
def qjB:AV := .agg [(I 0),(I 2),(I 1),(I 0),(I 0),(I 0)]
noncomputable def qB2:TZ Tryz.prog:=kA qB1 106 [QN,qvk,(I 1)] (.val qjB)
noncomputable def qB3:TZ Tryz.prog:=kA qB2 106 [QN,qot,(I 0)] (.val qos)
def qdK:AV := .agg [(I 0),(I 0),(I 1),(I 2),(I 0),(I 0)]
noncomputable def qB4:TZ Tryz.prog:=kA qB3 106 [QN,qot,(I 1)] (.val qdK)
def qvl:AV := .agg [(I 1),(I 0),(I 0),(I 2),(I 0),(I 0)]
noncomputable def qB5:TZ Tryz.prog:=kA qB4 106 [QN,qou,(I 0)] (.val qvl)
def qcE:AV := .agg [(I 2),(I 0),(I 1),(I 0),(I 0),(I 0)]
noncomputable def qB6:TZ Tryz.prog:=kA qB5 106 [QN,qou,(I 1)] (.val qcE)
noncomputable def qB7:TZ Tryz.prog:=kA qB6 106 [QN,qjB,(I 0)] (.val qcE)
def qcF:AV := .agg [(I 2),(I 0),(I 0),(I 1),(I 0),(I 0)]
noncomputable def qs5:TZ Tryz.prog:=kA qB7 107 [QN,qcF,(.fn (.func 106) [QN] [])] (.mapp [((.agg #[(.int .i64 2),(.int .i64 0),(.int .i64 0),(.int .i64 1),(.int .i64 0),(.int .i64 0)]),0,(I 0)),((.agg #[(.int .i64 0),(.int .i64 2),(.int .i64 0),(.int .i64 1),(.int .i64 0),(.int .i64 0)]),0,(I 1)),((.agg #[(.int .i64 1),(.int .i64 2),(.int .i64 0),(.int .i64 0),(.int .i64 0),(.int .i64 0)]),0,(I 1)),((.agg #[(.int .i64 1),(.int .i64 0),(.int .i64 2),(.int .i64 0),(.int .i64 0),(.int .i64 0)]),0,(I 2)),((.agg #[(.int .i64 2),(.int .i64 1),(.int .i64 0),(.int .i64 0),(.int .i64 0),(.int .i64 0)]),0,(I 2)),((.agg #[(.int .i64 0),(.int .i64 1),(.int .i64 2),(.int .i64 0),(.int .i64 0),(.int .i64 0)]),0,(I 2)),((.agg #[(.int .i64 0),(.int .i64 1),(.int .i64 0),(.int .i64 2),(.int .i64 0),(.int .i64 0)]),0,(I 3)),((.agg #[(.int .i64 0),(.int .i64 2),(.int .i64 1),(.int .i64 0),(.int .i64 0),(.int .i64 0)]),0,(I 3)),((.agg #[(.int .i64 0),(.int .i64 0),(.int .i64 1),(.int .i64 2),(.int .i64 0),(.int .i64 0)]),0,(I 3)),((.agg #[(.int .i64 1),(.int .i64 0),(.int .i64 0),(.int .i64 2),(.int .i64 0),(.int .i64 0)]),0,(I 4)),((.agg #[(.int .i64 2),(.int .i64 0),(.int .i64 1),(.int .i64 0),(.int .i64 0),(.int .i64 0)]),0,(I 4)),((.agg #[(.int .i64 0),(.int .i64 0),(.int .i64 2),(.int .i64 1),(.int .i64 0),(.int .i64 0)]),0,(I 4))])
noncomputable def qs6:TZ Tryz.prog:=kA qs5 106 [QN,qcE,(I 0)] (.val qjB)
def qlj:AV := .agg [(I 0),(I 2),(I 0),(I 1),(I 0),(I 0)]
noncomputable def qs7:TZ Tryz.prog:=kA qs6 106 [QN,qcE,(I 1)] (.val qlj)
def qcG:AV := .agg [(I 0),(I 0),(I 2),(I 1),(I 0),(I 0)]
noncomputable def qs8:TZ Tryz.prog:=kA qs7 106 [QN,qcG,(I 0)] (.val qcG)
noncomputable def qs9:TZ Tryz.prog:=kA qs8 106 [QN,qcG,(I 1)] (.val qvl)
noncomputable def qta:TZ Tryz.prog:=kA qs9 106 [QN,qcF,(I 0)] (.val qlj)
noncomputable def qtb:TZ Tryz.prog:=kA qta 106 [QN,qcF,(I 1)] (.val qjA)
noncomputable def qtc:TZ Tryz.prog:=kA qtb 106 [QN,qjB,(I 1)] (.val qcG)
noncomputable def qtd:TZ Tryz.prog:=kA qtc 106 [QN,qdK,(I 0)] (.val qdK)
noncomputable def qte:TZ Tryz.prog:=kA qtd 106 [QN,qdK,(I 1)] (.val qcF)
noncomputable def qtf:TZ Tryz.prog:=kA qte 107 [QN,qjA,(.fn (.func 106) [QN] [])] (.mapp [((.agg #[(.int .i64 1),(.int .i64 2),(.int .i64 0),(.int .i64 0),(.int .i64 0),(.int .i64 0)]),0,(I 0)),((.agg #[(.int .i64 2),(.int .i64 1),(.int .i64 0),(.int .i64 0),(.int .i64 0),(.int .i64 0)]),0,(I 1)),((.agg #[(.int .i64 0),(.int .i64 1),(.int .i64 2),(.int .i64 0),(.int .i64 0),(.int .i64 0)]),0,(I 1)),((.agg #[(.int .i64 0),(.int .i64 2),(.int .i64 1),(.int .i64 0),(.int .i64 0),(.int .i64 0)]),0,(I 2)),((.agg #[(.int .i64 1),(.int .i64 0),(.int .i64 2),(.int .i64 0),(.int .i64 0),(.int .i64 0)]),0,(I 2)),((.agg #[(.int .i64 0),(.int .i64 0),(.int .i64 1),(.int .i64 2),(.int .i64 0),(.int .i64 0)]),0,(I 2)),((.agg #[(.int .i64 2),(.int .i64 0),(.int .i64 1),(.int .i64 0),(.int .i64 0),(.int .i64 0)]),0,(I 3)),((.agg #[(.int .i64 0),(.int .i64 0),(.int .i64 2),(.int .i64 1),(.int .i64 0),(.int .i64 0)]),0,(I 3)),((.agg #[(.int .i64 0),(.int .i64 1),(.int .i64 0),(.int .i64 2),(.int .i64 0),(.int .i64 0)]),0,(I 3)),((.agg #[(.int .i64 2),(.int .i64 0),(.int .i64 0),(.int .i64 1),(.int .i64 0),(.int .i64 0)]),0,(I 3)),((.agg #[(.int .i64 0),(.int .i64 2),(.int .i64 0),(.int .i64 1),(.int .i64 0),(.int .i64 0)]),0,(I 4)),((.agg #[(.int .i64 1),(.int .i64 0),(.int .i64 0),(.int .i64 2),(.int .i64 0),(.int .i64 0)]),0,(I 4))])
noncomputable def qtg:TZ Tryz.prog:=kA qtf 107 [QN,qdK,(.fn (.func 34) [QN] [])] (.mapp [((.agg #[(.int .i64 0),(.int .i64 0),(.int .i64 1),(.int .i64 2),(.int .i64 0),(.int .i64 0)]),0,(I 0)),((.agg #[(.int .i64 0),(.int .i64 1),(.int .i64 2),(.int .i64 0),(.int .i64 0),(.int .i64 0)]),0,(I 1)),((.agg #[(.int .i64 1),(.int .i64 0),(.int .i64 2),(.int .i64 0),(.int .i64 0),(.int .i64 0)]),0,(I 2)),((.agg #[(.int .i64 1),(.int .i64 2),(.int .i64 0),(.int .i64 0),(.int .i64 0),(.int .i64 0)]),0,(I 2)),((.agg #[(.int .i64 0),(.int .i64 2),(.int .i64 0),(.int .i64 1),(.int .i64 0),(.int .i64 0)]),0,(I 3)),((.agg #[(.int .i64 2),(.int .i64 1),(.int .i64 0),(.int .i64 0),(.int .i64 0),(.int .i64 0)]),0,(I 3)),((.agg #[(.int .i64 2),(.int .i64 0),(.int .i64 0),(.int .i64 1),(.int .i64 0),(.int .i64 0)]),0,(I 3)),((.agg #[(.int .i64 2),(.int .i64 0),(.int .i64 1),(.int .i64 0),(.int .i64 0),(.int .i64 0)]),0,(I 4)),((.agg #[(.int .i64 1),(.int .i64 0),(.int .i64 0),(.int .i64 2),(.int .i64 0),(.int .i64 0)]),0,(I 4)),((.agg #[(.int .i64 0),(.int .i64 2),(.int .i64 1),(.int .i64 0),(.int .i64 0),(.int .i64 0)]),0,(I 5)),((.agg #[(.int .i64 0),(.int .i64 1),(.int .i64 0),(.int .i64 2),(.int .i64 0),(.int .i64 0)]),0,(I 5)),((.agg #[(.int .i64 0),(.int .i64 0),(.int .i64 2),(.int .i64 1),(.int .i64 0),(.int .i64 0)]),0,(I 5))])
noncomputable def qth:TZ Tryz.prog:=kA qtg 136 [QN,qdK,qjA,(I 1)] (.val (.tup [(I 2),(I 2),(B true)]))
def qcH:AV := .sl true 2 [(.sl true 4 [(I 1),(I 0),(I 2),(I 3)]),(.sl true 4 [(I 0),(I 1),(I 3),(I 2)])]
noncomputable def qti:TZ Tryz.prog:=kA qth 44 [(.agg [(I 4),qcH])] (.val (I 0))
noncomputable def qtj:TZ Tryz.prog:=kA qti 28 [(.agg [(I 4),qor]),(.sl true 2 [(I 0),(I 1)])] (.val (.tup [(.sl false 4 [(I 0),(I 2),(I 3),(I 1)]),(I 0)]))
noncomputable def qtk:TZ Tryz.prog:=kA qtj 31 [(.agg [(I 4),qcH]),(.sl true 2 [(.sl true 4 [(I 0),(I 0),(I 1),(I 2)]),(.sl true 4 [(I 0),(I 1),(I 0),(I 2)])])] (.val (.tup [(.ptr [(I 4),qcH,(.sl false 2 [(I 1),(I 0),(I 2),(I 3),(I 0),(I 0),(I 0),(I 1),(I 3),(I 2),(I 0),(I 0)])] 0),(I 0)]))
noncomputable def qtl:TZ Tryz.prog:=kA qtk 20 [(.agg [(I 4),qcH]),(.sl true 2 [(I 0),(I 1)]),(.sl true 2 [(I 1),(I 0)])] (.val (I 0))
theorem qER:jG Tryz.prog 37 [] (.val (B true)):=kR qtl 37 [] (.val (B true))
end Go.AM
