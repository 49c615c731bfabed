/-
  Px5: Tb1. Own work.
-/
import Derived.Test.YtlahcgdnieenpaaGreatDoorPt5
import Derived.Test.YtlahcgdnieenpaaGreatDoorProg

set_option maxRecDepth 100000
set_option maxHeartbeats 0
namespace Go.AM
open Go.RowKit Go.Proofs Go.Proofs.Tryz
def qk1:List (TE prog):=[en func6,en func7,en func9,en func11,en func12,en func14,en func15,en func19,en func20,en func22]
def qk2:List (TE prog):=[en func24 [[(3,8)]],en func26,en func28 [[(0,1),(0,2),(0,3)]],en func29,en func30,en func31,en func32,en func33,en func34,en func35]
def qk3:List (TE prog):=[en func36,en func37 [[(0,3)],[(19,20),(34,35)]],en func38,en func39,en func40,en func41,en func43 [[(3,7)]],en func44,en func46,en func47]
def qk4:List (TE prog):=[en func51,en func52 [[(3,6),(3,9),(6,9),(3,14),(6,14),(9,14),(10,14),(3,19),(6,19),(9,19),(10,19),(14,19),(3,21),(6,21),(9,21),(10,21),(14,21),(19,21),(3,24),(6,24),(9,24),(10,24),(14,24),(19,24),(21,24),(14,25)],[(2,8),(6,8)]],en func53,en func55,en func56 [[(4,5),(4,6)]],en func57,en func58,en func59,en func60,en func61]
def qk5:List (TE prog):=[en func62,en func63,en func64,en func65,en func66,en func67,en func68,en func69,en func70,en func71]
def qk6:List (TE prog):=[en func72,en func73,en func74 [[(2,5)],[(3,8),(4,8)]],en func75,en func76,en func77,en func78 [[(0,2)],[(0,2),(6,8)],[(0,2),(0,3),(2,3)]]]
end Go.AM
