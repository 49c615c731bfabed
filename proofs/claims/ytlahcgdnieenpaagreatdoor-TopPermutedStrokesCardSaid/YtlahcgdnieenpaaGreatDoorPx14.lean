/-
  Px14: Tb10. Own work.
-/
import Derived.Test.YtlahcgdnieenpaaGreatDoorPt5
import Derived.Test.YtlahcgdnieenpaaGreatDoorProg

set_option maxRecDepth 100000
set_option maxHeartbeats 0
namespace Go.AM
open Go.RowKit Go.Proofs Go.Proofs.Tryz
def qcy:List (TE prog):=[en func524,en func525,en func526,en func527,en func528,en func529 [[(3,7)]],en func530 [[(3,7)]],en func531 [[(0,5)],[(0,4)],[(1,5)],[(3,7)]],en func532,en func533]
def qcz:List (TE prog):=[en func534 [[(5,9)]],en func535,en func536 [[(5,19),(9,19),(5,20),(9,20)]],en func537 [[(4,11),(8,11)]],en func538 [[(0,1)],[(1,3),(1,7),(3,7),(1,8),(3,8)]],en func539,en func540,en func541,en func542,en func543]
def qcA:List (TE prog):=[en func544,en func545,en func546,en func547,en func548 [[(1,3),(1,6)]],en func549 [[(0,4)],[(3,7)]],en func550 [[(2,6),(2,10),(6,10),(9,10),(2,14),(6,14),(9,14),(10,14),(2,22),(6,22),(9,22),(10,22),(14,22),(2,23),(6,23),(9,23)]],en func551,en func552,en func553 [[(0,9),(4,9),(8,9),(0,13),(4,13),(8,13),(0,17),(4,17),(8,17)]]]
def qcB:List (TE prog):=[en func554 [[(0,9),(4,9),(8,9),(0,13),(4,13),(8,13),(0,17),(4,17),(8,17)]],en func555 [[(0,9),(4,9),(8,9),(0,13),(4,13),(8,13),(0,17),(4,17),(8,17)]],en func556,en func557,en func558 [[(7,12)],[(9,13)]],en func559 [[(11,15)]],en func560 [[(11,15)]],en func561,en func562 [[(7,11)]],en func563 [[(7,12)],[(9,13)],[(3,8)],[(9,13)],[(3,8)],[(9,13)]]]
def qcC:List (TE prog):=[en func564,en func565 [[(7,11)],[(7,11)],[(7,11)],[(7,11)]],en func566 [[(7,11)],[(7,11)],[(7,11)],[(7,11)],[(7,11)],[(7,11)],[(7,11)],[(7,11)],[(7,11)]],en func567,en func568,en func569,en func570,en func571,en func572,en func573]
def qcD:List (TE prog):=[en func574,en func575,en func576,en func577 [[(1,3),(3,5)],[(1,3),(1,6),(3,6),(1,9),(3,9),(6,9),(1,10),(3,10),(6,10)],[(0,2),(1,2),(0,3),(1,3),(2,3)]],en func578 [[(0,2),(0,4),(0,7),(2,7),(4,7),(6,7)],[(0,5),(3,5)],[(3,6)],[(3,6)],[(0,1)],[(0,1)]],en func579,en func580 [[(0,3),(0,6),(3,6),(0,8),(3,8),(6,8),(3,10),(8,10)]],en func581,en func582,en func583]
def qcE:List (TE prog):=[en func584,en func585,en func586 [[(16,22),(16,24),(22,24),(16,25),(22,25)],[(2,7),(4,7),(2,10),(4,10)]]]
end Go.AM
