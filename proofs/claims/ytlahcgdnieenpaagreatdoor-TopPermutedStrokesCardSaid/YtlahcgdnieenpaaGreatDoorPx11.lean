/-
  Px11: Tb7. Own work.
-/
import Derived.Test.YtlahcgdnieenpaaGreatDoorPt5
import Derived.Test.YtlahcgdnieenpaaGreatDoorProg

set_option maxRecDepth 100000
set_option maxHeartbeats 0
namespace Go.AM
open Go.RowKit Go.Proofs Go.Proofs.Tryz
def qcg:List (TE prog):=[en func354 [[(21,26),(24,26),(21,30),(24,30)],[(1,3),(1,5),(3,5)],[(1,3),(1,5),(3,5)]],en func355 [[(3,7)]],en func356 [[(3,7)]],en func357,en func358,en func359,en func360,en func361,en func362,en func363]
def qch:List (TE prog):=[en func364,en func365,en func366,en func367,en func368,en func369,en func370,en func371 [[(1,3),(3,6)],[(1,4),(2,4)]],en func372,en func373]
def qci:List (TE prog):=[en func374 [[(0,5),(3,5)]],en func375,en func376,en func377,en func378,en func379,en func380,en func381,en func382,en func383]
def qcj:List (TE prog):=[en func384 [[(0,2),(0,4)],[(0,1),(0,2),(0,7),(1,7),(2,7),(6,7),(0,9),(1,9),(2,9),(6,9),(7,9),(0,10),(6,10),(7,10),(0,14),(6,14)],[(0,4),(3,4)]],en func385,en func386,en func387,en func388,en func389 [[(7,11)]],en func390,en func391,en func392,en func393]
def qck:List (TE prog):=[en func394,en func395 [[(0,8),(4,8),(7,8)]],en func396 [[(4,8)]],en func397 [[(3,7)]],en func398,en func399 [[(11,12),(11,13),(51,52)]],en func400 [] false,en func401,en func402,en func403]
def qcl:List (TE prog):=[en func404,en func405,en func406,en func407 [[(0,4),(3,4)]],en func408,en func409,en func410,en func411 [[(3,7)]],en func412,en func413 [[(4,9),(4,14),(9,14)]]]
def qcm:List (TE prog):=[en func414,en func415,en func416 [[(3,4),(3,9),(4,9),(5,9)]]]
end Go.AM
