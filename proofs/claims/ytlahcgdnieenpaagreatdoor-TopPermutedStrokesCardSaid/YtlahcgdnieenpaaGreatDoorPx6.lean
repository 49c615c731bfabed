/-
  Px6: Tb2. Own work.
-/
import Derived.Test.YtlahcgdnieenpaaGreatDoorPt5
import Derived.Test.YtlahcgdnieenpaaGreatDoorProg

set_option maxRecDepth 100000
set_option maxHeartbeats 0
namespace Go.AM
open Go.RowKit Go.Proofs Go.Proofs.Tryz
def qk7:List (TE prog):=[en func79 [[(3,7)]],en func80 [[(3,7)]],en func81 [[(3,7)]],en func82,en func83 [[(2,4),(2,7),(4,7),(2,9),(4,9),(7,9),(7,14),(9,14)]],en func84 [] false,en func85 [] false,en func86,en func87,en func88 [] false]
def qk8:List (TE prog):=[en func89,en func91 [[(7,11)]],en func92 [[(1,3),(2,3)]],en func93,en func94,en func97 [[(1,3),(8,10),(17,20)]],en func98,en func99,en func100 [[(3,7),(3,9),(7,9)],[(3,5),(11,13)]],en func101]
def qk9:List (TE prog):=[en func102,en func103 [[(6,12),(11,12),(17,19)]],en func105,en func106,en func107 [[(0,1),(0,2),(1,2),(0,3),(1,3),(2,3),(0,4),(1,4),(2,4),(3,4),(0,6),(1,6),(2,6),(3,6),(4,6),(2,8),(3,8),(6,8)]],en func108,en func109,en func110,en func111,en func112]
def qbQ:List (TE prog):=[en func113 [[(0,2),(1,2)]],en func114,en func115,en func116,en func117,en func118,en func119,en func120,en func121 [[(0,3),(1,3)],[(0,4),(3,4)]],en func122]
def qbR:List (TE prog):=[en func123,en func124,en func125 [[(0,4),(14,19)]],en func126,en func127 [[(3,7)]],en func128,en func129,en func130,en func131 [[(3,6),(3,13),(6,13),(9,13),(3,16),(6,16),(9,16),(13,16),(3,19),(6,19),(9,19),(3,21),(6,21),(9,21),(13,21),(16,21),(19,21)],[(1,3)],[(1,3)]],en func132]
def qbS:List (TE prog):=[en func133,en func134 [[(1,2),(1,5),(2,5),(3,5),(1,6),(2,6),(3,6),(5,6)]],en func135 [[(2,7),(4,7),(2,9),(4,9),(2,11),(4,11),(7,11),(9,11)]],en func136 [[(1,6),(4,6)],[(1,5),(4,5)]],en func137 [[(0,1),(0,2),(1,2),(0,3),(1,3),(2,3),(0,4),(1,4),(0,5),(1,5),(2,5),(3,5),(4,5)]],en func138,en func139 [[(1,4),(1,6),(4,6),(1,7),(12,14),(19,22)]]]
end Go.AM
