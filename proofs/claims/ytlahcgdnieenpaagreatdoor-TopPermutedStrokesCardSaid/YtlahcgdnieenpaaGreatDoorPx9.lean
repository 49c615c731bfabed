/-
  Px9: Tb5. Own work.
-/
import Derived.Test.YtlahcgdnieenpaaGreatDoorPt5
import Derived.Test.YtlahcgdnieenpaaGreatDoorProg

set_option maxRecDepth 100000
set_option maxHeartbeats 0
namespace Go.AM
open Go.RowKit Go.Proofs Go.Proofs.Tryz
def qb5:List (TE prog):=[en func253 [[(11,15)]],en func254,en func255 [[(7,11)]],en func256 [[(8,13)],[(9,13)],[(4,9)],[(9,13)],[(4,9)],[(9,13)]],en func257 [[(7,11)],[(8,12)],[(8,12)],[(7,11)]],en func258 [[(7,11)],[(8,12)],[(8,12)],[(7,11)],[(7,11)],[(8,12)],[(8,12)],[(7,11)],[(7,11)]],en func259,en func260,en func261,en func262 [[(7,12)],[(9,13)]]]
def qb6:List (TE prog):=[en func263 [[(11,15)]],en func264 [[(11,15)]],en func265,en func266 [[(7,11)]],en func267 [[(7,12)],[(9,13)],[(3,8)],[(9,13)],[(3,8)],[(9,13)]],en func268,en func269 [[(7,11)],[(7,11)],[(7,11)],[(7,11)]],en func270 [[(7,11)],[(7,11)],[(7,11)],[(7,11)],[(7,11)],[(7,11)],[(7,11)],[(7,11)],[(7,11)]],en func271,en func273]
def qb7:List (TE prog):=[en func274,en func275 [] false,en func276,en func277,en func278,en func279,en func280,en func281 [[(0,7),(3,7),(6,7),(0,10),(3,10),(6,10),(0,13),(3,13),(6,13)]],en func282,en func283]
def qb8:List (TE prog):=[en func284,en func285,en func286,en func287,en func288 [[(9,14)],[(5,9)]]]
end Go.AM
