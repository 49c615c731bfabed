/-
  Kx5: Tb5. Own work.
-/
import Derived.Test.YtlahcgdnieenpaaGreatDoorKt5
import Derived.Test.YtlahcgdnieenpaaGreatDoorProg

set_option maxRecDepth 100000
set_option maxHeartbeats 0
namespace Go.AM
open Go.RowKit Go.Proofs
def qt4:List (TE Tryz.prog):=[en Tryz.func213,en Tryz.func214 [[(4,7),(6,7)]],en Tryz.func215,en Tryz.func216,en Tryz.func217 [[(5,6)]],en Tryz.func218,en Tryz.func219,en Tryz.func220 [[(11,13)],[(0,4),(15,21)],[(3,10)]],en Tryz.func221,en Tryz.func222 [[(3,7)]]]
def qt5:List (TE Tryz.prog):=[en Tryz.func223 [[(3,7)]],en Tryz.func224,en Tryz.func225,en Tryz.func226 [[(0,1),(0,4),(0,5),(1,5),(4,5)]],en Tryz.func227,en Tryz.func228,en Tryz.func229,en Tryz.func230,en Tryz.func231,en Tryz.func232]
def qt6:List (TE Tryz.prog):=[en Tryz.func233,en Tryz.func234,en Tryz.func235,en Tryz.func236,en Tryz.func237,en Tryz.func238,en Tryz.func239,en Tryz.func240,en Tryz.func241,en Tryz.func242]
def qt7:List (TE Tryz.prog):=[en Tryz.func243,en Tryz.func244,en Tryz.func245,en Tryz.func246,en Tryz.func247,en Tryz.func248,en Tryz.func249 [[(1,7),(2,7)]],en Tryz.func250,en Tryz.func251 [[(8,13)],[(9,13)]],en Tryz.func252 [[(11,15)]]]
def qt8:List (TE Tryz.prog):=[en Tryz.func253 [[(11,15)]],en Tryz.func254,en Tryz.func255 [[(7,11)]],en Tryz.func256 [[(8,13)],[(9,13)],[(4,9)],[(9,13)],[(4,9)],[(9,13)]],en Tryz.func257 [[(7,11)],[(8,12)],[(8,12)],[(7,11)]],en Tryz.func258 [[(7,11)],[(8,12)],[(8,12)],[(7,11)],[(7,11)],[(8,12)],[(8,12)],[(7,11)],[(7,11)]],en Tryz.func259,en Tryz.func260]
end Go.AM
