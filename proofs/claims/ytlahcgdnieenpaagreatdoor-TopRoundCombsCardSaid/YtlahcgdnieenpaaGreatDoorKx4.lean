/-
  Kx4: Tb4. Own work.
-/
import Derived.Test.YtlahcgdnieenpaaGreatDoorKt5
import Derived.Test.YtlahcgdnieenpaaGreatDoorProg

set_option maxRecDepth 100000
set_option maxHeartbeats 0
namespace Go.AM
open Go.RowKit Go.Proofs
def qt0:List (TE Tryz.prog):=[en Tryz.func173,en Tryz.func174,en Tryz.func175,en Tryz.func176,en Tryz.func177 [[(5,11),(6,11)]],en Tryz.func178 [[(2,8),(3,8)]],en Tryz.func179,en Tryz.func180 [[(5,8),(5,10),(5,15),(8,15),(10,15),(11,15),(5,16),(8,16),(10,16),(11,16),(15,16)],[(3,6)]],en Tryz.func181,en Tryz.func182]
def qt1:List (TE Tryz.prog):=[en Tryz.func183,en Tryz.func184,en Tryz.func185,en Tryz.func186 [[(1,6)]],en Tryz.func187 [[(4,8),(4,9),(4,10)],[(1,2),(6,12),(7,12)],[],[],[(1,6)]],en Tryz.func188,en Tryz.func189,en Tryz.func190 [[(1,6),(4,6),(1,9),(4,9)]],en Tryz.func191,en Tryz.func192]
def qt2:List (TE Tryz.prog):=[en Tryz.func193 [[(8,12)]],en Tryz.func194,en Tryz.func195,en Tryz.func196,en Tryz.func197,en Tryz.func198,en Tryz.func199 [[(7,11)]],en Tryz.func200,en Tryz.func201,en Tryz.func202 [[(0,4)]]]
def qt3:List (TE Tryz.prog):=[en Tryz.func203,en Tryz.func204,en Tryz.func205,en Tryz.func206 [[(7,8)]],en Tryz.func207,en Tryz.func208,en Tryz.func209,en Tryz.func210,en Tryz.func211,en Tryz.func212]
end Go.AM
