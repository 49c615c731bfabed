/-
  Px18: Rp3. Own work.
-/
import Derived.Test.YtlahcgdnieenpaaGreatDoorPt7
import Derived.Test.YtlahcgdnieenpaaGreatDoorPx17

set_option maxRecDepth 100000
set_option maxHeartbeats 4000000
namespace Go.AM
open Go.RowKit Go.Proofs
theorem qiE:Jp Tryz.prog 12 [I 6] (.val (On false bO)):=kR Dd 12 [I 6] (.val (On false bO))
theorem qls:Jp Tryz.prog 44 [On true bO] (.val (I 0)):=kR Dd 44 [On true bO] (.val (I 0))
theorem qlr:Jp Tryz.prog 44 [On false bO] (.val (I 0)):=kR Dd 44 [On false bO] (.val (I 0))
theorem qlS:Jp Tryz.prog 56 [On true bO] (.val (DK true bO)):=kR Dd 56 [On true bO] (.val (DK true bO))
theorem qlR:Jp Tryz.prog 56 [On false bO] (.val (DK false bO)):=kR Dd 56 [On false bO] (.val (DK false bO))
theorem ql0:Sz12 bO where
 cb:=fun g=>by rw [RM];cases g;exact qlr;exact qls
 nd:=fun g=>by cases g;exact qlR;exact qlS
 many:=by decide
 len:=by decide
end Go.AM
