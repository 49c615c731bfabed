/-
  Kx9: Tb9. Own work.
-/
import Derived.Test.YtlahcgdnieenpaaGreatDoorKt5
import Derived.Test.YtlahcgdnieenpaaGreatDoorProg

set_option maxRecDepth 100000
set_option maxHeartbeats 0
namespace Go.AM
open Go.RowKit Go.Proofs
def quq:List (TE Tryz.prog):=[en Tryz.func407 [[(0,4),(3,4)]],en Tryz.func408,en Tryz.func409,en Tryz.func410,en Tryz.func411 [[(3,7)]],en Tryz.func412,en Tryz.func413 [[(4,9),(4,14),(9,14)]],en Tryz.func414,en Tryz.func415,en Tryz.func416 [[(3,4),(3,9),(4,9),(5,9)]]]
def qur:List (TE Tryz.prog):=[en Tryz.func417,en Tryz.func418,en Tryz.func419,en Tryz.func420,en Tryz.func421 [[],[(0,1),(5,9)]],en Tryz.func422,en Tryz.func423,en Tryz.func424,en Tryz.func425,en Tryz.func426]
def qus:List (TE Tryz.prog):=[en Tryz.func427 [[(4,5),(4,8),(5,8),(4,11),(5,11),(8,11),(4,15),(5,15),(8,15),(11,15),(4,18),(5,18),(8,18),(11,18),(15,18),(4,22)]],en Tryz.func428,en Tryz.func429,en Tryz.func430 [[(0,7),(3,7),(6,7)]],en Tryz.func431,en Tryz.func432 [[(2,5)]],en Tryz.func433 [[(7,11)]],en Tryz.func434,en Tryz.func435,en Tryz.func436 [[(3,8)],[(3,8)]]]
def qut:List (TE Tryz.prog):=[en Tryz.func437,en Tryz.func438,en Tryz.func439,en Tryz.func440,en Tryz.func441,en Tryz.func442 [[(0,1),(12,13),(32,33),(32,34),(33,34),(32,35),(33,35),(34,35)]],en Tryz.func443 [[(0,1),(0,2),(1,2),(0,3),(1,3),(2,3),(0,4),(1,4),(2,4),(0,5),(1,5),(2,5)],[(0,1),(0,2),(1,2),(0,3),(1,3),(2,3),(0,4),(1,4),(2,4)]],en Tryz.func444 [[(0,1)],[(0,1)],[(0,1),(0,2),(0,3)],[(0,1)],[(53,54)]],en Tryz.func445,en Tryz.func446]
def quu:List (TE Tryz.prog):=[en Tryz.func447 [[(3,5)]],en Tryz.func448]
end Go.AM
