/-
  Kx8: Tb8. Own work.
-/
import Derived.Test.YtlahcgdnieenpaaGreatDoorKt5
import Derived.Test.YtlahcgdnieenpaaGreatDoorProg

set_option maxRecDepth 100000
set_option maxHeartbeats 0
namespace Go.AM
open Go.RowKit Go.Proofs
def quj:List (TE Tryz.prog):=[en Tryz.func354 [[(21,26),(24,26),(21,30),(24,30)],[(1,3),(1,5),(3,5)],[(1,3),(1,5),(3,5)]],en Tryz.func355 [[(3,7)]],en Tryz.func356 [[(3,7)]],en Tryz.func357,en Tryz.func358,en Tryz.func359,en Tryz.func360,en Tryz.func361,en Tryz.func362,en Tryz.func363]
def quk:List (TE Tryz.prog):=[en Tryz.func364,en Tryz.func365,en Tryz.func366,en Tryz.func367,en Tryz.func368,en Tryz.func369,en Tryz.func370,en Tryz.func371 [[(1,3),(3,6)],[(1,4),(2,4)]],en Tryz.func372,en Tryz.func373]
def qul:List (TE Tryz.prog):=[en Tryz.func374 [[(0,5),(3,5)]],en Tryz.func375,en Tryz.func376,en Tryz.func377,en Tryz.func378,en Tryz.func379,en Tryz.func380,en Tryz.func381,en Tryz.func382,en Tryz.func383]
def qum:List (TE Tryz.prog):=[en Tryz.func384 [[(0,2),(0,4)],[(0,1),(0,2),(0,7),(1,7),(2,7),(6,7),(0,9),(1,9),(2,9),(6,9),(7,9),(0,10),(6,10),(7,10),(0,14),(6,14)],[(0,4),(3,4)]],en Tryz.func385,en Tryz.func386,en Tryz.func387,en Tryz.func388,en Tryz.func389 [[(7,11)]],en Tryz.func390,en Tryz.func391,en Tryz.func392,en Tryz.func393]
def qun:List (TE Tryz.prog):=[en Tryz.func394,en Tryz.func395 [[(0,8),(4,8),(7,8)]],en Tryz.func396 [[(4,8)]],en Tryz.func397 [[(3,7)]],en Tryz.func398,en Tryz.func399 [[(11,12),(11,13),(51,52)]],en Tryz.func400 [] false,en Tryz.func401,en Tryz.func402,en Tryz.func403]
def qup:List (TE Tryz.prog):=[en Tryz.func404,en Tryz.func405,en Tryz.func406]
end Go.AM
