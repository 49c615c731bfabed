/-
  Px13: Tb9. Own work.
-/
import Derived.Test.YtlahcgdnieenpaaGreatDoorPt5
import Derived.Test.YtlahcgdnieenpaaGreatDoorProg

set_option maxRecDepth 100000
set_option maxHeartbeats 0
namespace Go.AM
open Go.RowKit Go.Proofs Go.Proofs.Tryz
def qcs:List (TE prog):=[en func466,en func467 [[(3,5),(11,13)]],en func468,en func469 [[(0,6),(5,6),(0,8),(5,8)],[(0,1),(0,2)]],en func470,en func471,en func472 [[(4,6)]],en func473,en func474 [[(1,8),(1,11),(8,11),(1,14),(8,14),(11,14)]],en func475]
def qct:List (TE prog):=[en func476,en func477,en func478,en func479,en func480,en func481,en func482,en func483,en func484,en func485]
def qcu:List (TE prog):=[en func486 [[(7,11)]],en func487,en func488,en func489 [[(1,5),(3,5),(1,7),(3,7)]],en func490,en func491,en func492 [[(1,7),(5,7),(1,11),(5,11)],[(5,12)],[(5,10),(15,20)]],en func493,en func494,en func495]
def qcv:List (TE prog):=[en func496,en func497,en func498 [[(0,4)]],en func499,en func500,en func501 [[(3,7)]],en func502 [[(3,7)]],en func503,en func504,en func505]
def qcw:List (TE prog):=[en func506,en func507,en func508 [[(6,13),(8,13),(6,15),(8,15)]],en func509 [[(2,5)],[(4,8),(15,19)],[(6,10)]],en func510,en func511,en func512,en func513 [[(0,5)]],en func514 [[(3,7)]],en func515 [[(3,7)]]]
def qcx:List (TE prog):=[en func516,en func517,en func518,en func519 [[(0,1),(0,3),(1,3),(0,7),(1,7),(3,7),(0,8),(1,8),(3,8)]],en func520,en func521,en func522,en func523]
end Go.AM
