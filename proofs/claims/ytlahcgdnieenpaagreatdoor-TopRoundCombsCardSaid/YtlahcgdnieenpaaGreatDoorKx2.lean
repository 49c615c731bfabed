/-
  Kx2: Tb2. Own work.
-/
import Derived.Test.YtlahcgdnieenpaaGreatDoorKt5
import Derived.Test.YtlahcgdnieenpaaGreatDoorProg

set_option maxRecDepth 100000
set_option maxHeartbeats 0
namespace Go.AM
open Go.RowKit Go.Proofs
def qD1:List (TE Tryz.prog):=[en Tryz.func73,en Tryz.func74 [[(2,5)],[(3,8),(4,8)]],en Tryz.func75,en Tryz.func76,en Tryz.func77,en Tryz.func78 [[(0,2)],[(0,2),(6,8)],[(0,2),(0,3),(2,3)]],en Tryz.func79 [[(3,7)]],en Tryz.func80 [[(3,7)]],en Tryz.func81 [[(3,7)]],en Tryz.func82]
def qD2:List (TE Tryz.prog):=[en Tryz.func83 [[(2,4),(2,7),(4,7),(2,9),(4,9),(7,9),(7,14),(9,14)]],en Tryz.func84 [] false,en Tryz.func85 [] false,en Tryz.func86,en Tryz.func87,en Tryz.func88 [] false,en Tryz.func89,en Tryz.func91 [[(7,11)]],en Tryz.func92 [[(1,3),(2,3)]],en Tryz.func93]
def qD3:List (TE Tryz.prog):=[en Tryz.func94,en Tryz.func97 [[(1,3),(8,10),(17,20)]],en Tryz.func98,en Tryz.func99,en Tryz.func100 [[(3,7),(3,9),(7,9)],[(3,5),(11,13)]],en Tryz.func101,en Tryz.func102,en Tryz.func103 [[(6,12),(11,12),(17,19)]],en Tryz.func105,en Tryz.func106]
def qtT:List (TE Tryz.prog):=[en Tryz.func107 [[(0,1),(0,2),(1,2),(0,3),(1,3),(2,3),(0,4),(1,4),(2,4),(3,4),(0,6),(1,6),(2,6),(3,6),(4,6),(2,8),(3,8),(6,8)]],en Tryz.func108,en Tryz.func109,en Tryz.func110,en Tryz.func111,en Tryz.func112,en Tryz.func113 [[(0,2),(1,2)]],en Tryz.func114,en Tryz.func115,en Tryz.func116]
def qtU:List (TE Tryz.prog):=[en Tryz.func117,en Tryz.func118,en Tryz.func119,en Tryz.func120,en Tryz.func121 [[(0,3),(1,3)],[(0,4),(3,4)]],en Tryz.func122,en Tryz.func123,en Tryz.func124,en Tryz.func125 [[(0,4),(14,19)]]]
end Go.AM
