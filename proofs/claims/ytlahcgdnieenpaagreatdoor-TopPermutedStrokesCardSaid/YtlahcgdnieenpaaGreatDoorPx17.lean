/-
  Px17: TbT. Own work.
-/
import Derived.Test.YtlahcgdnieenpaaGreatDoorPt8
import Derived.Test.YtlahcgdnieenpaaGreatDoorPx5
import Derived.Test.YtlahcgdnieenpaaGreatDoorPx6
import Derived.Test.YtlahcgdnieenpaaGreatDoorPx7
import Derived.Test.YtlahcgdnieenpaaGreatDoorPx8
import Derived.Test.YtlahcgdnieenpaaGreatDoorPx9
import Derived.Test.YtlahcgdnieenpaaGreatDoorPx10
import Derived.Test.YtlahcgdnieenpaaGreatDoorPx11
import Derived.Test.YtlahcgdnieenpaaGreatDoorPx12
import Derived.Test.YtlahcgdnieenpaaGreatDoorPx13
import Derived.Test.YtlahcgdnieenpaaGreatDoorPx14
import Derived.Test.YtlahcgdnieenpaaGreatDoorPx15
import Derived.Test.YtlahcgdnieenpaaGreatDoorPx16

set_option maxRecDepth 100000
set_option maxHeartbeats 0
namespace Go.AM
open Go.RowKit Go.Proofs
noncomputable def TAB:TBL:=(nh 693 ⟨693,true,0,[],Gg,qlH⟩ (nh 656 ⟨656,true,0,[],Gg,qlG⟩ (nh 655 ⟨655,true,0,[],Gg,qlF⟩ (nh 609 ⟨609,true,0,[],Gg,qlE⟩ (nh 272 ⟨272,true,0,[],Gg,kTz⟩ (nh 90 ⟨90,true,0,[],Gg,qlD⟩ (qO 364 (qO 193 (qO 113 (qO 62 (qO 36 (qO 24 (Qh qk1) (Qh qk2)) (qO 51 (Qh qk3) (Qh qk4))) (qO 79 (qO 72 (Qh qk5) (Qh qk6)) (qO 89 (Qh qk7) (qO 102 (Qh qk8) (Qh qk9))))) (qO 150 (qO 133 (qO 123 (Qh qbQ) (Qh qbR)) (qO 140 (Qh qbS) (Qh qbT))) (qO 170 (qO 160 (Qh qbU) (Qh qbV)) (qO 180 (Qh qbW) (qO 190 (Qh qbX) (Qh qbY)))))) (qO 284 (qO 233 (qO 213 (qO 203 (Qh qbZ) (Qh qb0)) (qO 223 (Qh qb1) (Qh qb2))) (qO 253 (qO 243 (Qh qb3) (Qh qb4)) (qO 263 (Qh qb5) (qO 274 (Qh qb6) (Qh qb7))))) (qO 319 (qO 299 (qO 289 (Qh qb8) (Qh qb9)) (qO 309 (Qh qca) (Qh qcb))) (qO 339 (qO 329 (Qh qcc) (Qh qcd)) (qO 349 (Qh qce) (qO 354 (Qh qcf) (Qh qcg))))))) (qO 534 (qO 447 (qO 404 (qO 384 (qO 374 (Qh qch) (Qh qci)) (qO 394 (Qh qcj) (Qh qck))) (qO 417 (qO 414 (Qh qcl) (Qh qcm)) (qO 427 (Qh qcn) (qO 437 (Qh qco) (Qh qcp))))) (qO 486 (qO 466 (qO 457 (Qh qcq) (Qh qcr)) (qO 476 (Qh qcs) (Qh qct))) (qO 506 (qO 496 (Qh qcu) (Qh qcv)) (qO 516 (Qh qcw) (qO 524 (Qh qcx) (Qh qcy)))))) (qO 618 (qO 574 (qO 554 (qO 544 (Qh qcz) (Qh qcA)) (qO 564 (Qh qcB) (Qh qcC))) (qO 587 (qO 584 (Qh qcD) (Qh qcE)) (qO 597 (Qh qcF) (qO 607 (Qh qcG) (Qh qcH))))) (qO 668 (qO 638 (qO 628 (Qh qcI) (Qh qcJ)) (qO 646 (Qh qcK) (qO 658 (Qh qcL) (Qh qcM)))) (qO 690 (qO 678 (Qh qcN) (Qh qcO)) (qO 701 (Qh qcP) (qO 714 (Qh qcQ) (Qh qcR))))))))))))))
theorem dU:TBz Tryz.prog TAB:=(HQ (show CdZ _ _ from uI) (HQ (show CdZ _ _ from uH) (HQ (show CdZ _ _ from uG) (HQ (show CdZ _ _ from uF) (HQ (show CdZ _ _ from iJ) (HQ (show CdZ _ _ from uE) (qm (qm (qm (qm (qm (qm (qv qk1) (qv qk2)) (qm (qv qk3) (qv qk4))) (qm (qm (qv qk5) (qv qk6)) (qm (qv qk7) (qm (qv qk8) (qv qk9))))) (qm (qm (qm (qv qbQ) (qv qbR)) (qm (qv qbS) (qv qbT))) (qm (qm (qv qbU) (qv qbV)) (qm (qv qbW) (qm (qv qbX) (qv qbY)))))) (qm (qm (qm (qm (qv qbZ) (qv qb0)) (qm (qv qb1) (qv qb2))) (qm (qm (qv qb3) (qv qb4)) (qm (qv qb5) (qm (qv qb6) (qv qb7))))) (qm (qm (qm (qv qb8) (qv qb9)) (qm (qv qca) (qv qcb))) (qm (qm (qv qcc) (qv qcd)) (qm (qv qce) (qm (qv qcf) (qv qcg))))))) (qm (qm (qm (qm (qm (qv qch) (qv qci)) (qm (qv qcj) (qv qck))) (qm (qm (qv qcl) (qv qcm)) (qm (qv qcn) (qm (qv qco) (qv qcp))))) (qm (qm (qm (qv qcq) (qv qcr)) (qm (qv qcs) (qv qct))) (qm (qm (qv qcu) (qv qcv)) (qm (qv qcw) (qm (qv qcx) (qv qcy)))))) (qm (qm (qm (qm (qv qcz) (qv qcA)) (qm (qv qcB) (qv qcC))) (qm (qm (qv qcD) (qv qcE)) (qm (qv qcF) (qm (qv qcG) (qv qcH))))) (qm (qm (qm (qv qcI) (qv qcJ)) (qm (qv qcK) (qm (qv qcL) (qv qcM)))) (qm (qm (qv qcN) (qv qcO)) (qm (qv qcP) (qm (qv qcQ) (qv qcR))))))))))))))
noncomputable def Dd:{T:TBL // TBz Tryz.prog T}:=⟨TAB,dU⟩
end Go.AM
