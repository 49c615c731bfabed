/-
  Kx18: Ky444. Own work.
-/
import Derived.Test.YtlahcgdnieenpaaGreatDoorKt5
import Derived.Test.YtlahcgdnieenpaaGreatDoorKx15

set_option maxRecDepth 100000
set_option maxHeartbeats 4000000
namespace Go.AM
open Go.RowKit Go.Proofs
def qlm:AV := .sl true 5 [(I 5),(I 6),(I 15),(I 15),(I 20),(I 22),(I 25),(I 26),(I 35),(I 37)]
def jP:AV := .agg [(.sl true 2 [(I 10),(I 3),(I 15),(I 2)]),qlm]
noncomputable def qtI:TZ Tryz.prog:=kA qdP 666 [jP] (.val (I 0))
noncomputable def qtJ:TZ Tryz.prog:=kA qtI 517 [jP,(.agg [(I 0),(I 6)])] (.val (.tup [(.sl true 0 []),(I 19)]))
noncomputable def qtK:TZ Tryz.prog:=kA qtJ 517 [jP,(.agg [(I 0),(I 5)])] (.val (.tup [(.sl false 3 [(I 0),(I 1),(I 3)]),(I 0)]))
noncomputable def qtL:TZ Tryz.prog:=kA qtK 525 [jP,(.sl true 2 [(I 0),(I 2)])] (.val (I 14))
noncomputable def qtM:TZ Tryz.prog:=kA qtL 523 [jP,(.sl true 2 [(I 0),(I 5),(I 0),(I 15)])] (.val (I 16))
noncomputable def qtN:TZ Tryz.prog:=kA qtM 524 [jP] (.val (.tup [(.sl false 2 [(I 0),(I 4)]),(I 0)]))
noncomputable def qtO:TZ Tryz.prog:=kA qtN 522 [jP] (.val (.tup [(I 5),(I 0)]))
noncomputable def qtP:TZ Tryz.prog:=kA qtO 519 [jP,(I 1)] (.val (.tup [(.sl false 5 [(I 5),(I 6),(I 20),(I 21),(I 22)]),(I 0)]))
noncomputable def qtQ:TZ Tryz.prog:=kA qtP 521 [jP] (.val (.tup [(.sl false 2 [(I 0),(I 15),(I 1),(I 5)]),(I 0)]))
noncomputable def qtR:TZ Tryz.prog:=kA qtQ 526 [jP,(.agg [(I 0),(I 5)])] (.val (.tup [(I 1),(I 0)]))
def qln:AV := .agg [(.sl false 1 [(I 10),(I 3)]),qlm]
noncomputable def qoh:TZ Tryz.prog:=kA qtR 521 [qln] (.val (.tup [(.sl true 0 []),(I 19)]))
noncomputable def qoi:TZ Tryz.prog:=kA qoh 520 [qln] (.val (.tup [(.sl false 1 [(I 2)]),(I 0)]))
theorem qCF:jG Tryz.prog 444 [] (.val (B true)):=kR qoi 444 [] (.val (B true))
end Go.AM
