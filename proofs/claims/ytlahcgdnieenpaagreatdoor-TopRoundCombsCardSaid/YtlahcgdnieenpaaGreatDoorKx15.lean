/-
  Kx15: TbT. Own work.
-/
import Derived.Test.YtlahcgdnieenpaaGreatDoorKt7
import Derived.Test.YtlahcgdnieenpaaGreatDoorKx1
import Derived.Test.YtlahcgdnieenpaaGreatDoorKx2
import Derived.Test.YtlahcgdnieenpaaGreatDoorKx3
import Derived.Test.YtlahcgdnieenpaaGreatDoorKx4
import Derived.Test.YtlahcgdnieenpaaGreatDoorKx5
import Derived.Test.YtlahcgdnieenpaaGreatDoorKx6
import Derived.Test.YtlahcgdnieenpaaGreatDoorKx7
import Derived.Test.YtlahcgdnieenpaaGreatDoorKx8
import Derived.Test.YtlahcgdnieenpaaGreatDoorKx9
import Derived.Test.YtlahcgdnieenpaaGreatDoorKx10
import Derived.Test.YtlahcgdnieenpaaGreatDoorKx11
import Derived.Test.YtlahcgdnieenpaaGreatDoorKx12
import Derived.Test.YtlahcgdnieenpaaGreatDoorKx13
import Derived.Test.YtlahcgdnieenpaaGreatDoorKx14

set_option maxRecDepth 100000
set_option maxHeartbeats 0
namespace Go.AM
open Go.RowKit Go.Proofs
noncomputable def TAB:TBL:=(qk2 693 ⟨693,true,0,[],WC,qEv⟩ (qk2 656 ⟨656,true,0,[],WC,qEu⟩ (qk2 655 ⟨655,true,0,[],WC,qEt⟩ (qk2 609 ⟨609,true,0,[],WC,qEs⟩ (qk2 272 ⟨272,true,0,[],WC,kTz⟩ (qk2 90 ⟨90,true,0,[],WC,qEr⟩ (qu 374 (qu 193 (qu 107 (qu 61 (qu 35 (qu 22 (zx qDV) (zx qDW)) (qu 47 (zx qDX) (zx qDY))) (qu 73 (qu 71 (zx qDZ) (zx qD0)) (qu 83 (zx qD1) (qu 94 (zx qD2) (zx qD3))))) (qu 146 (qu 126 (qu 117 (zx qtT) (zx qtU)) (qu 136 (zx qtV) (zx qtW))) (qu 166 (qu 156 (zx qtX) (zx qtY)) (qu 173 (zx qtZ) (qu 183 (zx qt0) (zx qt1)))))) (qu 282 (qu 233 (qu 213 (qu 203 (zx qt2) (zx qt3)) (qu 223 (zx qt4) (zx qt5))) (qu 253 (qu 243 (zx qt6) (zx qt7)) (qu 261 (zx qt8) (qu 271 (zx qt9) (zx qua))))) (qu 329 (qu 299 (qu 292 (zx qub) (zx quc)) (qu 309 (zx qud) (qu 319 (zx que) (zx quf)))) (qu 349 (qu 339 (zx qug) (zx quh)) (qu 354 (zx qui) (qu 364 (zx quj) (zx quk))))))) (qu 540 (qu 449 (qu 407 (qu 394 (qu 384 (zx qul) (zx qum)) (qu 404 (zx qun) (zx qup))) (qu 427 (qu 417 (zx quq) (zx qur)) (qu 437 (zx qus) (qu 447 (zx qut) (zx quu))))) (qu 499 (qu 469 (qu 459 (zx quv) (zx quw)) (qu 479 (zx qux) (qu 489 (zx quy) (zx quz)))) (qu 510 (qu 500 (zx quA) (zx quB)) (qu 520 (zx quC) (qu 530 (zx quD) (zx quE)))))) (qu 615 (qu 571 (qu 551 (qu 550 (zx quF) (zx quG)) (qu 561 (zx quH) (zx quI))) (qu 591 (qu 581 (zx quJ) (zx quK)) (qu 601 (zx quL) (qu 604 (zx quM) (zx quN))))) (qu 661 (qu 635 (qu 625 (zx quO) (zx quP)) (qu 645 (zx quQ) (qu 657 (zx quR) (zx quS)))) (qu 681 (qu 671 (zx quT) (zx quU)) (qu 694 (zx quV) (qu 704 (zx quW) (zx quX))))))))))))))
theorem qpP:TBz Tryz.prog TAB:=(Wo (show CdZ _ _ from qm2) (Wo (show CdZ _ _ from qm1) (Wo (show CdZ _ _ from qm0) (Wo (show CdZ _ _ from qmZ) (Wo (show CdZ _ _ from qrA) (Wo (show CdZ _ _ from qmY) (qd (qd (qd (qd (qd (qd (ql qDV) (ql qDW)) (qd (ql qDX) (ql qDY))) (qd (qd (ql qDZ) (ql qD0)) (qd (ql qD1) (qd (ql qD2) (ql qD3))))) (qd (qd (qd (ql qtT) (ql qtU)) (qd (ql qtV) (ql qtW))) (qd (qd (ql qtX) (ql qtY)) (qd (ql qtZ) (qd (ql qt0) (ql qt1)))))) (qd (qd (qd (qd (ql qt2) (ql qt3)) (qd (ql qt4) (ql qt5))) (qd (qd (ql qt6) (ql qt7)) (qd (ql qt8) (qd (ql qt9) (ql qua))))) (qd (qd (qd (ql qub) (ql quc)) (qd (ql qud) (qd (ql que) (ql quf)))) (qd (qd (ql qug) (ql quh)) (qd (ql qui) (qd (ql quj) (ql quk))))))) (qd (qd (qd (qd (qd (ql qul) (ql qum)) (qd (ql qun) (ql qup))) (qd (qd (ql quq) (ql qur)) (qd (ql qus) (qd (ql qut) (ql quu))))) (qd (qd (qd (ql quv) (ql quw)) (qd (ql qux) (qd (ql quy) (ql quz)))) (qd (qd (ql quA) (ql quB)) (qd (ql quC) (qd (ql quD) (ql quE)))))) (qd (qd (qd (qd (ql quF) (ql quG)) (qd (ql quH) (ql quI))) (qd (qd (ql quJ) (ql quK)) (qd (ql quL) (qd (ql quM) (ql quN))))) (qd (qd (qd (ql quO) (ql quP)) (qd (ql quQ) (qd (ql quR) (ql quS)))) (qd (qd (ql quT) (ql quU)) (qd (ql quV) (qd (ql quW) (ql quX))))))))))))))
noncomputable def qdP:{T:TBL // TBz Tryz.prog T}:=⟨TAB,qpP⟩
end Go.AM
