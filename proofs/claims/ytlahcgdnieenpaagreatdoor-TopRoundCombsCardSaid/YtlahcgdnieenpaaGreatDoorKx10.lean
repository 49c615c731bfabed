/-
  Kx10: Tb10. Own work.
-/
import Derived.Test.YtlahcgdnieenpaaGreatDoorKt5
import Derived.Test.YtlahcgdnieenpaaGreatDoorProg

set_option maxRecDepth 100000
set_option maxHeartbeats 0
namespace Go.AM
open Go.RowKit Go.Proofs
def quv:List (TE Tryz.prog):=[en Tryz.func449,en Tryz.func450,en Tryz.func451,en Tryz.func452,en Tryz.func453,en Tryz.func454 [[(0,1),(0,2),(0,4),(1,4),(2,4),(3,4),(0,5),(1,5),(2,5),(3,5),(4,5),(0,6),(1,6),(2,6),(3,6),(4,6),(5,6)],[(0,3),(2,3)],[(2,10),(3,10),(9,10)]],en Tryz.func455,en Tryz.func456,en Tryz.func457 [[(0,5),(0,9),(5,9)]],en Tryz.func458]
def quw:List (TE Tryz.prog):=[en Tryz.func459 [[(1,6),(4,6),(1,9),(4,9)]],en Tryz.func460 [[(1,5),(1,10),(5,10),(1,12)]],en Tryz.func461 [[(3,7)]],en Tryz.func462 [[(3,7)]],en Tryz.func463 [[(3,7)]],en Tryz.func464,en Tryz.func465 [[(1,7),(1,11),(7,11),(1,17),(7,17),(11,17)]],en Tryz.func466,en Tryz.func467 [[(3,5),(11,13)]],en Tryz.func468]
def qux:List (TE Tryz.prog):=[en Tryz.func469 [[(0,6),(5,6),(0,8),(5,8)],[(0,1),(0,2)]],en Tryz.func470,en Tryz.func471,en Tryz.func472 [[(4,6)]],en Tryz.func473,en Tryz.func474 [[(1,8),(1,11),(8,11),(1,14),(8,14),(11,14)]],en Tryz.func475,en Tryz.func476,en Tryz.func477,en Tryz.func478]
def quy:List (TE Tryz.prog):=[en Tryz.func479,en Tryz.func480,en Tryz.func481,en Tryz.func482,en Tryz.func483,en Tryz.func484,en Tryz.func485,en Tryz.func486 [[(7,11)]],en Tryz.func487,en Tryz.func488]
def quz:List (TE Tryz.prog):=[en Tryz.func489 [[(1,5),(3,5),(1,7),(3,7)]],en Tryz.func490,en Tryz.func491,en Tryz.func492 [[(1,7),(5,7),(1,11),(5,11)],[(5,12)],[(5,10),(15,20)]],en Tryz.func493,en Tryz.func494,en Tryz.func495,en Tryz.func496,en Tryz.func497,en Tryz.func498 [[(0,4)]]]
def quA:List (TE Tryz.prog):=[en Tryz.func499]
end Go.AM
