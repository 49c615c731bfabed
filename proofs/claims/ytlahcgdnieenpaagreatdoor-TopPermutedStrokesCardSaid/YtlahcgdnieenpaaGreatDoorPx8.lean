/-
  Px8: Tb4. Own work.
-/
import Derived.Test.YtlahcgdnieenpaaGreatDoorPt5
import Derived.Test.YtlahcgdnieenpaaGreatDoorProg

set_option maxRecDepth 100000
set_option maxHeartbeats 0
namespace Go.AM
open Go.RowKit Go.Proofs Go.Proofs.Tryz
def qbZ:List (TE prog):=[en func193 [[(8,12)]],en func194,en func195,en func196,en func197,en func198,en func199 [[(7,11)]],en func200,en func201,en func202 [[(0,4)]]]
def qb0:List (TE prog):=[en func203,en func204,en func205,en func206 [[(7,8)]],en func207,en func208,en func209,en func210,en func211,en func212]
def qb1:List (TE prog):=[en func213,en func214 [[(4,7),(6,7)]],en func215,en func216,en func217 [[(5,6)]],en func218,en func219,en func220 [[(11,13)],[(0,4),(15,21)],[(3,10)]],en func221,en func222 [[(3,7)]]]
def qb2:List (TE prog):=[en func223 [[(3,7)]],en func224,en func225,en func226 [[(0,1),(0,4),(0,5),(1,5),(4,5)]],en func227,en func228,en func229,en func230,en func231,en func232]
def qb3:List (TE prog):=[en func233,en func234,en func235,en func236,en func237,en func238,en func239,en func240,en func241,en func242]
def qb4:List (TE prog):=[en func243,en func244,en func245,en func246,en func247,en func248,en func249 [[(1,7),(2,7)]],en func250,en func251 [[(8,13)],[(9,13)]],en func252 [[(11,15)]]]
end Go.AM
