/-
  Kx6: Tb6. Own work.
-/
import Derived.Test.YtlahcgdnieenpaaGreatDoorKt5
import Derived.Test.YtlahcgdnieenpaaGreatDoorProg

set_option maxRecDepth 100000
set_option maxHeartbeats 0
namespace Go.AM
open Go.RowKit Go.Proofs
def qt9:List (TE Tryz.prog):=[en Tryz.func261,en Tryz.func262 [[(7,12)],[(9,13)]],en Tryz.func263 [[(11,15)]],en Tryz.func264 [[(11,15)]],en Tryz.func265,en Tryz.func266 [[(7,11)]],en Tryz.func267 [[(7,12)],[(9,13)],[(3,8)],[(9,13)],[(3,8)],[(9,13)]],en Tryz.func268,en Tryz.func269 [[(7,11)],[(7,11)],[(7,11)],[(7,11)]],en Tryz.func270 [[(7,11)],[(7,11)],[(7,11)],[(7,11)],[(7,11)],[(7,11)],[(7,11)],[(7,11)],[(7,11)]]]
def qua:List (TE Tryz.prog):=[en Tryz.func271,en Tryz.func273,en Tryz.func274,en Tryz.func275 [] false,en Tryz.func276,en Tryz.func277,en Tryz.func278,en Tryz.func279,en Tryz.func280,en Tryz.func281 [[(0,7),(3,7),(6,7),(0,10),(3,10),(6,10),(0,13),(3,13),(6,13)]]]
def qub:List (TE Tryz.prog):=[en Tryz.func282,en Tryz.func283,en Tryz.func284,en Tryz.func285,en Tryz.func286,en Tryz.func287,en Tryz.func288 [[(9,14)],[(5,9)]],en Tryz.func289,en Tryz.func290 [[(3,7)]],en Tryz.func291 [[(3,7)]]]
def quc:List (TE Tryz.prog):=[en Tryz.func292 [[(14,19)],[(4,11),(5,11)],[(4,10),(5,10),(4,12),(5,12),(10,12),(11,12),(4,13),(5,13),(10,13),(11,13),(12,13)]],en Tryz.func293,en Tryz.func294 [[(1,5),(1,10),(5,10),(1,12)]],en Tryz.func295,en Tryz.func296,en Tryz.func297,en Tryz.func298]
end Go.AM
