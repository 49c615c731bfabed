/-
  Kx11: Tb11. Own work.
-/
import Derived.Test.YtlahcgdnieenpaaGreatDoorKt5
import Derived.Test.YtlahcgdnieenpaaGreatDoorProg

set_option maxRecDepth 100000
set_option maxHeartbeats 0
namespace Go.AM
open Go.RowKit Go.Proofs
def quB:List (TE Tryz.prog):=[en Tryz.func500,en Tryz.func501 [[(3,7)]],en Tryz.func502 [[(3,7)]],en Tryz.func503,en Tryz.func504,en Tryz.func505,en Tryz.func506,en Tryz.func507,en Tryz.func508 [[(6,13),(8,13),(6,15),(8,15)]],en Tryz.func509 [[(2,5)],[(4,8),(15,19)],[(6,10)]]]
def quC:List (TE Tryz.prog):=[en Tryz.func510,en Tryz.func511,en Tryz.func512,en Tryz.func513 [[(0,5)]],en Tryz.func514 [[(3,7)]],en Tryz.func515 [[(3,7)]],en Tryz.func516,en Tryz.func517,en Tryz.func518,en Tryz.func519 [[(0,1),(0,3),(1,3),(0,7),(1,7),(3,7),(0,8),(1,8),(3,8)]]]
def quD:List (TE Tryz.prog):=[en Tryz.func520,en Tryz.func521,en Tryz.func522,en Tryz.func523,en Tryz.func524,en Tryz.func525,en Tryz.func526,en Tryz.func527,en Tryz.func528,en Tryz.func529 [[(3,7)]]]
def quE:List (TE Tryz.prog):=[en Tryz.func530 [[(3,7)]],en Tryz.func531 [[(0,5)],[(0,4)],[(1,5)],[(3,7)]],en Tryz.func532,en Tryz.func533,en Tryz.func534 [[(5,9)]],en Tryz.func535,en Tryz.func536 [[(5,19),(9,19),(5,20),(9,20)]],en Tryz.func537 [[(4,11),(8,11)]],en Tryz.func538 [[(0,1)],[(1,3),(1,7),(3,7),(1,8),(3,8)]],en Tryz.func539]
def quF:List (TE Tryz.prog):=[en Tryz.func540,en Tryz.func541,en Tryz.func542,en Tryz.func543,en Tryz.func544,en Tryz.func545,en Tryz.func546,en Tryz.func547,en Tryz.func548 [[(1,3),(1,6)]],en Tryz.func549 [[(0,4)],[(3,7)]]]
def quG:List (TE Tryz.prog):=[en Tryz.func550 [[(2,6),(2,10),(6,10),(9,10),(2,14),(6,14),(9,14),(10,14),(2,22),(6,22),(9,22),(10,22),(14,22),(2,23),(6,23),(9,23)]]]
end Go.AM
