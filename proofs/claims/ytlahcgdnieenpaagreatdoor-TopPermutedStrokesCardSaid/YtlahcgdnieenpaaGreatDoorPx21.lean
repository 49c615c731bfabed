/-
  Px21: Ky444. Own work.
-/
import Derived.Test.YtlahcgdnieenpaaGreatDoorPt6
import Derived.Test.YtlahcgdnieenpaaGreatDoorPx17

set_option maxRecDepth 100000
set_option maxHeartbeats 4000000
namespace Go.AM
open Go.RowKit Go.Proofs Go.Proofs.Tryz
def nO:AV := .sl true 5 [(I 5),(I 6),(I 15),(I 15),(I 20),(I 22),(I 25),(I 26),(I 35),(I 37)]
def YP:AV := .agg [(.sl true 2 [(I 10),(I 3),(I 15),(I 2)]),nO]
noncomputable def qbE:TZ prog:=kA Dd 666 [YP] (.val (I 0))
noncomputable def qbF:TZ prog:=kA qbE 517 [YP,(.agg [(I 0),(I 6)])] (.val (.tup [(.sl true 0 []),(I 19)]))
noncomputable def qbG:TZ prog:=kA qbF 517 [YP,(.agg [(I 0),(I 5)])] (.val (.tup [(.sl false 3 [(I 0),(I 1),(I 3)]),(I 0)]))
noncomputable def qbH:TZ prog:=kA qbG 525 [YP,(.sl true 2 [(I 0),(I 2)])] (.val (I 14))
noncomputable def qbI:TZ prog:=kA qbH 523 [YP,(.sl true 2 [(I 0),(I 5),(I 0),(I 15)])] (.val (I 16))
noncomputable def qbJ:TZ prog:=kA qbI 524 [YP] (.val (.tup [(.sl false 2 [(I 0),(I 4)]),(I 0)]))
noncomputable def qbK:TZ prog:=kA qbJ 522 [YP] (.val (.tup [(I 5),(I 0)]))
noncomputable def qbL:TZ prog:=kA qbK 519 [YP,(I 1)] (.val (.tup [(.sl false 5 [(I 5),(I 6),(I 20),(I 21),(I 22)]),(I 0)]))
noncomputable def qbM:TZ prog:=kA qbL 521 [YP] (.val (.tup [(.sl false 2 [(I 0),(I 15),(I 1),(I 5)]),(I 0)]))
noncomputable def qbN:TZ prog:=kA qbM 526 [YP,(.agg [(I 0),(I 5)])] (.val (.tup [(I 1),(I 0)]))
def nP:AV := .agg [(.sl false 1 [(I 10),(I 3)]),nO]
noncomputable def tX:TZ prog:=kA qbN 521 [nP] (.val (.tup [(.sl true 0 []),(I 19)]))
noncomputable def tY:TZ prog:=kA tX 520 [nP] (.val (.tup [(.sl false 1 [(I 2)]),(I 0)]))
theorem qjG:Jp prog 444 [] (.val (B true)):=kR tY 444 [] (.val (B true))
end Go.AM
