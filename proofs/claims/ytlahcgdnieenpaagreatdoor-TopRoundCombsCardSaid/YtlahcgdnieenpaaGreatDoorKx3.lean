/-
  Kx3: Tb3. Own work.
-/
import Derived.Test.YtlahcgdnieenpaaGreatDoorKt5
import Derived.Test.YtlahcgdnieenpaaGreatDoorProg

set_option maxRecDepth 100000
set_option maxHeartbeats 0
namespace Go.AM
open Go.RowKit Go.Proofs
def qtV:List (TE Tryz.prog):=[en Tryz.func126,en Tryz.func127 [[(3,7)]],en Tryz.func128,en Tryz.func129,en Tryz.func130,en Tryz.func131 [[(3,6),(3,13),(6,13),(9,13),(3,16),(6,16),(9,16),(13,16),(3,19),(6,19),(9,19),(3,21),(6,21),(9,21),(13,21),(16,21),(19,21)],[(1,3)],[(1,3)]],en Tryz.func132,en Tryz.func133,en Tryz.func134 [[(1,2),(1,5),(2,5),(3,5),(1,6),(2,6),(3,6),(5,6)]],en Tryz.func135 [[(2,7),(4,7),(2,9),(4,9),(2,11),(4,11),(7,11),(9,11)]]]
def qtW:List (TE Tryz.prog):=[en Tryz.func136 [[(1,6),(4,6)],[(1,5),(4,5)]],en Tryz.func137 [[(0,1),(0,2),(1,2),(0,3),(1,3),(2,3),(0,4),(1,4),(0,5),(1,5),(2,5),(3,5),(4,5)]],en Tryz.func138,en Tryz.func139 [[(1,4),(1,6),(4,6),(1,7),(12,14),(19,22)]],en Tryz.func140,en Tryz.func141,en Tryz.func142 [[(7,13)],[(7,9)],[(7,8)]] false,en Tryz.func143,en Tryz.func144,en Tryz.func145]
def qtX:List (TE Tryz.prog):=[en Tryz.func146,en Tryz.func147,en Tryz.func148,en Tryz.func149,en Tryz.func150,en Tryz.func151,en Tryz.func152,en Tryz.func153,en Tryz.func154 [[(4,8)],[(4,8)]],en Tryz.func155]
def qtY:List (TE Tryz.prog):=[en Tryz.func156,en Tryz.func157,en Tryz.func158,en Tryz.func159,en Tryz.func160,en Tryz.func161,en Tryz.func162 [[(5,8)],[(4,6),(4,9)]],en Tryz.func163,en Tryz.func164,en Tryz.func165]
def qtZ:List (TE Tryz.prog):=[en Tryz.func166,en Tryz.func167,en Tryz.func168 [[(0,2),(0,3)]],en Tryz.func169 [[(5,8)]],en Tryz.func170,en Tryz.func171 [[(3,7)]],en Tryz.func172 [[(10,13),(10,16),(10,18)],[(3,5),(3,8)]]]
end Go.AM
