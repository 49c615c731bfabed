/-
  Kx7: Tb7. Own work.
-/
import Derived.Test.YtlahcgdnieenpaaGreatDoorKt5
import Derived.Test.YtlahcgdnieenpaaGreatDoorProg

set_option maxRecDepth 100000
set_option maxHeartbeats 0
namespace Go.AM
open Go.RowKit Go.Proofs
def qud:List (TE Tryz.prog):=[en Tryz.func299,en Tryz.func300,en Tryz.func301,en Tryz.func302,en Tryz.func303,en Tryz.func304,en Tryz.func305,en Tryz.func306,en Tryz.func307 [[(6,8)]],en Tryz.func308]
def que:List (TE Tryz.prog):=[en Tryz.func309,en Tryz.func310,en Tryz.func311 [[(1,4),(1,6),(4,6),(1,9),(4,9),(6,9),(1,12),(4,12),(6,12),(9,12),(1,14),(4,14),(6,14),(9,14),(12,14),(1,16),(4,16),(6,16),(9,16),(12,16),(14,16),(1,17),(4,17),(6,17),(9,17),(12,17),(14,17),(16,17),(9,18),(12,18),(14,18)]],en Tryz.func312,en Tryz.func313,en Tryz.func314,en Tryz.func315 [[(2,3),(2,6),(3,6)]],en Tryz.func316,en Tryz.func317 [[(1,3),(1,7),(12,14),(12,18)]],en Tryz.func318]
def quf:List (TE Tryz.prog):=[en Tryz.func319,en Tryz.func320,en Tryz.func321,en Tryz.func322 [[(0,1),(0,3),(0,5),(1,5),(3,5),(4,5)]],en Tryz.func323,en Tryz.func324,en Tryz.func325,en Tryz.func326,en Tryz.func327,en Tryz.func328]
def qug:List (TE Tryz.prog):=[en Tryz.func329 [[(7,9),(7,12)]],en Tryz.func330,en Tryz.func331,en Tryz.func332 [[(11,18)],[(6,12)],[(13,19)]],en Tryz.func333,en Tryz.func334 [[(2,5)],[(2,5)],[(2,5)]],en Tryz.func335,en Tryz.func336,en Tryz.func337 [[(10,17)],[(5,11)],[(13,19)]],en Tryz.func338]
def quh:List (TE Tryz.prog):=[en Tryz.func339,en Tryz.func340,en Tryz.func341 [[(0,1),(4,5),(9,10),(19,20)]],en Tryz.func342,en Tryz.func343,en Tryz.func344,en Tryz.func345 [[(4,9)]],en Tryz.func346 [[(8,10)]],en Tryz.func347,en Tryz.func348]
def qui:List (TE Tryz.prog):=[en Tryz.func349,en Tryz.func350 [[(1,7),(3,7)]],en Tryz.func351,en Tryz.func352,en Tryz.func353 [[(6,7),(6,10)],[(0,1),(0,4)]]]
end Go.AM
