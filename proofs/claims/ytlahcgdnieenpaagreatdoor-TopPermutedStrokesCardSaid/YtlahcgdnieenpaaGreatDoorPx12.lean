/-
  Px12: Tb8. Own work.
-/
import Derived.Test.YtlahcgdnieenpaaGreatDoorPt5
import Derived.Test.YtlahcgdnieenpaaGreatDoorProg

set_option maxRecDepth 100000
set_option maxHeartbeats 0
namespace Go.AM
open Go.RowKit Go.Proofs Go.Proofs.Tryz
def qcn:List (TE prog):=[en func417,en func418,en func419,en func420,en func421 [[],[(0,1),(5,9)]],en func422,en func423,en func424,en func425,en func426]
def qco:List (TE prog):=[en func427 [[(4,5),(4,8),(5,8),(4,11),(5,11),(8,11),(4,15),(5,15),(8,15),(11,15),(4,18),(5,18),(8,18),(11,18),(15,18),(4,22)]],en func428,en func429,en func430 [[(0,7),(3,7),(6,7)]],en func431,en func432 [[(2,5)]],en func433 [[(7,11)]],en func434,en func435,en func436 [[(3,8)],[(3,8)]]]
def qcp:List (TE prog):=[en func437,en func438,en func439,en func440,en func441,en func442 [[(0,1),(12,13),(32,33),(32,34),(33,34),(32,35),(33,35),(34,35)]],en func443 [[(0,1),(0,2),(1,2),(0,3),(1,3),(2,3),(0,4),(1,4),(2,4),(0,5),(1,5),(2,5)],[(0,1),(0,2),(1,2),(0,3),(1,3),(2,3),(0,4),(1,4),(2,4)]],en func444 [[(0,1)],[(0,1)],[(0,1),(0,2),(0,3)],[(0,1)],[(53,54)]],en func445,en func446]
def qcq:List (TE prog):=[en func447 [[(3,5)]],en func448,en func449,en func450,en func451,en func452,en func453,en func454 [[(0,1),(0,2),(0,4),(1,4),(2,4),(3,4),(0,5),(1,5),(2,5),(3,5),(4,5),(0,6),(1,6),(2,6),(3,6),(4,6),(5,6)],[(0,3),(2,3)],[(2,10),(3,10),(9,10)]],en func455,en func456]
def qcr:List (TE prog):=[en func457 [[(0,5),(0,9),(5,9)]],en func458,en func459 [[(1,6),(4,6),(1,9),(4,9)]],en func460 [[(1,5),(1,10),(5,10),(1,12)]],en func461 [[(3,7)]],en func462 [[(3,7)]],en func463 [[(3,7)]],en func464,en func465 [[(1,7),(1,11),(7,11),(1,17),(7,17),(11,17)]]]
end Go.AM
