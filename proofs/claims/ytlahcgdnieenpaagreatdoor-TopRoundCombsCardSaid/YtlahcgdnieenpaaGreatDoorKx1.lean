/-
  Kx1: Tb1. Own work.
-/
import Derived.Test.YtlahcgdnieenpaaGreatDoorKt5
import Derived.Test.YtlahcgdnieenpaaGreatDoorProg

set_option maxRecDepth 100000
set_option maxHeartbeats 0
namespace Go.AM
open Go.RowKit Go.Proofs
def qDV:List (TE Tryz.prog):=[en Tryz.func6,en Tryz.func7,en Tryz.func8,en Tryz.func9,en Tryz.func10 [[(3,7)]],en Tryz.func11,en Tryz.func14,en Tryz.func15,en Tryz.func19,en Tryz.func20]
def qDW:List (TE Tryz.prog):=[en Tryz.func22,en Tryz.func24 [[(3,8)]],en Tryz.func26,en Tryz.func28 [[(0,1),(0,2),(0,3)]],en Tryz.func29,en Tryz.func30,en Tryz.func31,en Tryz.func32,en Tryz.func33,en Tryz.func34]
def qDX:List (TE Tryz.prog):=[en Tryz.func35,en Tryz.func36,en Tryz.func37 [[(0,3)],[(19,20),(34,35)]],en Tryz.func38,en Tryz.func39,en Tryz.func40,en Tryz.func41,en Tryz.func43 [[(3,7)]],en Tryz.func44,en Tryz.func46]
def qDY:List (TE Tryz.prog):=[en Tryz.func47,en Tryz.func51,en Tryz.func52 [[(3,6),(3,9),(6,9),(3,14),(6,14),(9,14),(10,14),(3,19),(6,19),(9,19),(10,19),(14,19),(3,21),(6,21),(9,21),(10,21),(14,21),(19,21),(3,24),(6,24),(9,24),(10,24),(14,24),(19,24),(21,24),(14,25)],[(2,8),(6,8)]],en Tryz.func53,en Tryz.func55,en Tryz.func56 [[(4,5),(4,6)]],en Tryz.func57,en Tryz.func58,en Tryz.func59,en Tryz.func60]
def qDZ:List (TE Tryz.prog):=[en Tryz.func61,en Tryz.func62,en Tryz.func63,en Tryz.func64,en Tryz.func65,en Tryz.func66,en Tryz.func67,en Tryz.func68,en Tryz.func69,en Tryz.func70]
def qD0:List (TE Tryz.prog):=[en Tryz.func71,en Tryz.func72]
end Go.AM
