/-
  Px10: Tb6. Own work.
-/
import Derived.Test.YtlahcgdnieenpaaGreatDoorPt5
import Derived.Test.YtlahcgdnieenpaaGreatDoorProg

set_option maxRecDepth 100000
set_option maxHeartbeats 0
namespace Go.AM
open Go.RowKit Go.Proofs Go.Proofs.Tryz
def qb9:List (TE prog):=[en func289,en func290 [[(3,7)]],en func291 [[(3,7)]],en func292 [[(14,19)],[(4,11),(5,11)],[(4,10),(5,10),(4,12),(5,12),(10,12),(11,12),(4,13),(5,13),(10,13),(11,13),(12,13)]],en func293,en func294 [[(1,5),(1,10),(5,10),(1,12)]],en func295,en func296,en func297,en func298]
def qca:List (TE prog):=[en func299,en func300,en func301,en func302,en func303,en func304,en func305,en func306,en func307 [[(6,8)]],en func308]
def qcb:List (TE prog):=[en func309,en func310,en func311 [[(1,4),(1,6),(4,6),(1,9),(4,9),(6,9),(1,12),(4,12),(6,12),(9,12),(1,14),(4,14),(6,14),(9,14),(12,14),(1,16),(4,16),(6,16),(9,16),(12,16),(14,16),(1,17),(4,17),(6,17),(9,17),(12,17),(14,17),(16,17),(9,18),(12,18),(14,18)]],en func312,en func313,en func314,en func315 [[(2,3),(2,6),(3,6)]],en func316,en func317 [[(1,3),(1,7),(12,14),(12,18)]],en func318]
def qcc:List (TE prog):=[en func319,en func320,en func321,en func322 [[(0,1),(0,3),(0,5),(1,5),(3,5),(4,5)]],en func323,en func324,en func325,en func326,en func327,en func328]
def qcd:List (TE prog):=[en func329 [[(7,9),(7,12)]],en func330,en func331,en func332 [[(11,18)],[(6,12)],[(13,19)]],en func333,en func334 [[(2,5)],[(2,5)],[(2,5)]],en func335,en func336,en func337 [[(10,17)],[(5,11)],[(13,19)]],en func338]
def qce:List (TE prog):=[en func339,en func340,en func341 [[(0,1),(4,5),(9,10),(19,20)]],en func342,en func343,en func344,en func345 [[(4,9)]],en func346 [[(8,10)]],en func347,en func348]
def qcf:List (TE prog):=[en func349,en func350 [[(1,7),(3,7)]],en func351,en func352,en func353 [[(6,7),(6,10)],[(0,1),(0,4)]]]
end Go.AM
