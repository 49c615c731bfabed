/-
  Px7: Tb3. Own work.
-/
import Derived.Test.YtlahcgdnieenpaaGreatDoorPt5
import Derived.Test.YtlahcgdnieenpaaGreatDoorProg

set_option maxRecDepth 100000
set_option maxHeartbeats 0
namespace Go.AM
open Go.RowKit Go.Proofs Go.Proofs.Tryz
def qbT:List (TE prog):=[en func140,en func141,en func142 [[(7,13)],[(7,9)],[(7,8)]] false,en func143,en func144,en func145,en func146,en func147,en func148,en func149]
def qbU:List (TE prog):=[en func150,en func151,en func152,en func153,en func154 [[(4,8)],[(4,8)]],en func155,en func156,en func157,en func158,en func159]
def qbV:List (TE prog):=[en func160,en func161,en func162 [[(5,8)],[(4,6),(4,9)]],en func163,en func164,en func165,en func166,en func167,en func168 [[(0,2),(0,3)]],en func169 [[(5,8)]]]
def qbW:List (TE prog):=[en func170,en func171 [[(3,7)]],en func172 [[(10,13),(10,16),(10,18)],[(3,5),(3,8)]],en func173,en func174,en func175,en func176,en func177 [[(5,11),(6,11)]],en func178 [[(2,8),(3,8)]],en func179]
def qbX:List (TE prog):=[en func180 [[(5,8),(5,10),(5,15),(8,15),(10,15),(11,15),(5,16),(8,16),(10,16),(11,16),(15,16)],[(3,6)]],en func181,en func182,en func183,en func184,en func185,en func186 [[(1,6)]],en func187 [[(4,8),(4,9),(4,10)],[(1,2),(6,12),(7,12)],[],[],[(1,6)]],en func188,en func189]
def qbY:List (TE prog):=[en func190 [[(1,6),(4,6),(1,9),(4,9)]],en func191,en func192]
end Go.AM
