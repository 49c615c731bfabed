/-
  Kx12: Tb12. Own work.
-/
import Derived.Test.YtlahcgdnieenpaaGreatDoorKt5
import Derived.Test.YtlahcgdnieenpaaGreatDoorProg

set_option maxRecDepth 100000
set_option maxHeartbeats 0
namespace Go.AM
open Go.RowKit Go.Proofs
def quH:List (TE Tryz.prog):=[en Tryz.func551,en Tryz.func552,en Tryz.func553 [[(0,9),(4,9),(8,9),(0,13),(4,13),(8,13),(0,17),(4,17),(8,17)]],en Tryz.func554 [[(0,9),(4,9),(8,9),(0,13),(4,13),(8,13),(0,17),(4,17),(8,17)]],en Tryz.func555 [[(0,9),(4,9),(8,9),(0,13),(4,13),(8,13),(0,17),(4,17),(8,17)]],en Tryz.func556,en Tryz.func557,en Tryz.func558 [[(7,12)],[(9,13)]],en Tryz.func559 [[(11,15)]],en Tryz.func560 [[(11,15)]]]
def quI:List (TE Tryz.prog):=[en Tryz.func561,en Tryz.func562 [[(7,11)]],en Tryz.func563 [[(7,12)],[(9,13)],[(3,8)],[(9,13)],[(3,8)],[(9,13)]],en Tryz.func564,en Tryz.func565 [[(7,11)],[(7,11)],[(7,11)],[(7,11)]],en Tryz.func566 [[(7,11)],[(7,11)],[(7,11)],[(7,11)],[(7,11)],[(7,11)],[(7,11)],[(7,11)],[(7,11)]],en Tryz.func567,en Tryz.func568,en Tryz.func569,en Tryz.func570]
def quJ:List (TE Tryz.prog):=[en Tryz.func571,en Tryz.func572,en Tryz.func573,en Tryz.func574,en Tryz.func575,en Tryz.func576,en Tryz.func577 [[(1,3),(3,5)],[(1,3),(1,6),(3,6),(1,9),(3,9),(6,9),(1,10),(3,10),(6,10)],[(0,2),(1,2),(0,3),(1,3),(2,3)]],en Tryz.func578 [[(0,2),(0,4),(0,7),(2,7),(4,7),(6,7)],[(0,5),(3,5)],[(3,6)],[(3,6)],[(0,1)],[(0,1)]],en Tryz.func579,en Tryz.func580 [[(0,3),(0,6),(3,6),(0,8),(3,8),(6,8),(3,10),(8,10)]]]
def quK:List (TE Tryz.prog):=[en Tryz.func581,en Tryz.func582,en Tryz.func583,en Tryz.func584,en Tryz.func585,en Tryz.func586 [[(16,22),(16,24),(22,24),(16,25),(22,25)],[(2,7),(4,7),(2,10),(4,10)]],en Tryz.func587 [[(2,5),(2,9),(5,9),(2,12),(5,12),(2,15),(5,15),(9,15),(12,15),(2,17),(5,17),(9,17),(12,17),(5,19)]],en Tryz.func588,en Tryz.func589,en Tryz.func590]
def quL:List (TE Tryz.prog):=[en Tryz.func591,en Tryz.func592 [[(1,4),(1,6)]],en Tryz.func593,en Tryz.func594 [[(4,7),(4,9),(4,12),(7,12),(9,12),(4,15),(7,15),(9,15)],[(2,5),(2,9),(5,9),(2,12),(5,12),(2,15),(5,15),(9,15),(12,15),(2,17),(5,17),(9,17),(12,17),(5,19)],[(6,12),(9,12),(6,14),(9,14)],[(2,6),(4,6)]],en Tryz.func595,en Tryz.func596 [] false,en Tryz.func597,en Tryz.func598 [[(4,6),(4,9),(6,9),(8,9)]],en Tryz.func599,en Tryz.func600]
def quM:List (TE Tryz.prog):=[en Tryz.func601,en Tryz.func602,en Tryz.func603 [[(0,2),(1,2)]] false]
end Go.AM
