/-
  Kx30: Tp8. Own work.
-/
import Derived.Test.YtlahcgdnieenpaaGreatDoorKx28
import Derived.Test.YtlahcgdnieenpaaGreatDoorKx29

set_option maxRecDepth 100000
set_option maxHeartbeats 0
set_option linter.unusedVariables false
namespace Go.AM
open Go.RowKit Go.Proofs
theorem qjv {p q i k:Int} (p1:1<=p) (p2:p<=5) (q1:1<=q) (q2:q<=6 - p) (i1:0<=i) (i2:i<p) (k1:0<=k) (k2:k<q):zO p q i k=True:=by
 have hp:p=1\/p=2\/p=3\/p=4\/p=5:=by omega
 rcases hp with rfl | rfl | rfl | rfl | rfl
 . obtain rfl | rfl | rfl | rfl | rfl : q = 1 \/ q = 2 \/ q = 3 \/ q = 4 \/ q = 5 := by omega
   . obtain rfl : i = 0 := by omega
     obtain rfl:k=0:=by omega
     exact qAE
   . obtain rfl : i = 0 := by omega
     obtain rfl | rfl:k=0\/k=1:=by omega
     . exact qAF
     exact qAG
   . obtain rfl : i = 0 := by omega
     obtain rfl | rfl | rfl:k=0\/k=1\/k=2:=by omega
     . exact qAH
     . exact qAI
     exact qAJ
   . obtain rfl : i = 0 := by omega
     obtain rfl | rfl | rfl | rfl:k=0\/k=1\/k=2\/k=3:=by omega
     . exact qAK
     . exact qAL
     . exact qAM
     exact qAN
   obtain rfl:i=0:=by omega
   obtain rfl | rfl | rfl | rfl | rfl:k=0\/k=1\/k=2\/k=3\/k=4:=by omega
   . exact qAO
   . exact qAP
   . exact qAQ
   . exact qAR
   exact qAS
 . obtain rfl | rfl | rfl | rfl : q = 1 \/ q = 2 \/ q = 3 \/ q = 4 := by omega
   . obtain rfl | rfl : i = 0 \/ i = 1 := by omega
     . obtain rfl : k = 0 := by omega
       exact qAT
     obtain rfl:k=0:=by omega
     exact qAU
   . obtain rfl | rfl : i = 0 \/ i = 1 := by omega
     . obtain rfl | rfl : k = 0 \/ k = 1 := by omega
       . exact qAV
       exact qAW
     obtain rfl | rfl:k=0\/k=1:=by omega
     . exact qAX
     exact qAY
   . obtain rfl | rfl : i = 0 \/ i = 1 := by omega
     . obtain rfl | rfl | rfl : k = 0 \/ k = 1 \/ k = 2 := by omega
       . exact qAZ
       . exact qA0
       exact qA1
     obtain rfl | rfl | rfl:k=0\/k=1\/k=2:=by omega
     . exact qA2
     . exact qA3
     exact qA4
   obtain rfl | rfl:i=0\/i=1:=by omega
   . obtain rfl | rfl | rfl | rfl : k = 0 \/ k = 1 \/ k = 2 \/ k = 3 := by omega
     . exact qA5
     . exact qA6
     . exact qA7
     exact qA8
   obtain rfl | rfl | rfl | rfl:k=0\/k=1\/k=2\/k=3:=by omega
   . exact qA9
   . exact qBa
   . exact qBb
   exact qBc
 . obtain rfl | rfl | rfl : q = 1 \/ q = 2 \/ q = 3 := by omega
   . obtain rfl | rfl | rfl : i = 0 \/ i = 1 \/ i = 2 := by omega
     . obtain rfl : k = 0 := by omega
       exact qBd
     . obtain rfl : k = 0 := by omega
       exact qBe
     obtain rfl:k=0:=by omega
     exact qBf
   . obtain rfl | rfl | rfl : i = 0 \/ i = 1 \/ i = 2 := by omega
     . obtain rfl | rfl : k = 0 \/ k = 1 := by omega
       . exact qBg
       exact qBh
     . obtain rfl | rfl : k = 0 \/ k = 1 := by omega
       . exact qBi
       exact qBj
     obtain rfl | rfl:k=0\/k=1:=by omega
     . exact qBk
     exact qBl
   obtain rfl | rfl | rfl:i=0\/i=1\/i=2:=by omega
   . obtain rfl | rfl | rfl : k = 0 \/ k = 1 \/ k = 2 := by omega
     . exact qBm
     . exact qBn
     exact qBo
   . obtain rfl | rfl | rfl : k = 0 \/ k = 1 \/ k = 2 := by omega
     . exact qBp
     . exact qBq
     exact qBr
   obtain rfl | rfl | rfl:k=0\/k=1\/k=2:=by omega
   . exact qBs
   . exact qBt
   exact qBu
 . obtain rfl | rfl : q = 1 \/ q = 2 := by omega
   . obtain rfl | rfl | rfl | rfl : i = 0 \/ i = 1 \/ i = 2 \/ i = 3 := by omega
     . obtain rfl : k = 0 := by omega
       exact qBv
     . obtain rfl : k = 0 := by omega
       exact qBw
     . obtain rfl : k = 0 := by omega
       exact qBx
     obtain rfl:k=0:=by omega
     exact qBy
   obtain rfl | rfl | rfl | rfl:i=0\/i=1\/i=2\/i=3:=by omega
   . obtain rfl | rfl : k = 0 \/ k = 1 := by omega
     . exact qBz
     exact qBA
   . obtain rfl | rfl : k = 0 \/ k = 1 := by omega
     . exact qBB
     exact qBC
   . obtain rfl | rfl : k = 0 \/ k = 1 := by omega
     . exact qBD
     exact qBE
   obtain rfl | rfl:k=0\/k=1:=by omega
   . exact qBF
   exact qBG
 obtain rfl:q=1:=by omega
 obtain rfl | rfl | rfl | rfl | rfl:i=0\/i=1\/i=2\/i=3\/i=4:=by omega
 . obtain rfl : k = 0 := by omega
   exact qBH
 . obtain rfl : k = 0 := by omega
   exact qBI
 . obtain rfl : k = 0 := by omega
   exact qBJ
 . obtain rfl : k = 0 := by omega
   exact qBK
 obtain rfl:k=0:=by omega
 exact qBL
theorem quY {n0 n1 n2 n3:Int} (h0:0<=n0/\n0<256) (h1:0<=n1/\n1<256) (h2:0<=n2/\n2<256) (h3:0<=n3/\n3<256):z8 Tryz.prog 3 [U n0,U n1,U n2,U n3] (B true):=by
 obtain ⟨p,hp⟩:∃ p,1+n0.tmod 5=p:=⟨_,rfl⟩;have a0:=qdJ (m:=5) h0.1 (by omega);obtain ⟨q,hq⟩:∃ q,1+n1.tmod (6 - p)=q:=⟨_,rfl⟩;have a1:=qdJ (m:=6 - p) h1.1 (by omega);obtain ⟨i,hi⟩:∃ i,n2.tmod p=i:=⟨_,rfl⟩;have a2:=qdJ (m:=p) h2.1 (by omega);obtain ⟨k,hk⟩:∃ k,n3.tmod q=k:=⟨_,rfl⟩;have a3:=qdJ (m:=q) h3.1 (by omega);refine J8 (qmd Tryz.func3 qjw qol (by show 4<=_;decide) (qjx h0 h1 h2 h3 hp hq hi hk (by omega) (by omega) (by omega) (by omega) (Wu (fun e st h=>?_) (qoj qu1 qom qD4.2 (qjv (p:=p) (q:=q) (i:=i) (k:=k) (by omega) (by omega) (by omega) (by omega) (by omega) (by omega) (by omega) (by omega))))));cases e with
 | normal=>obtain ⟨xs,g1,g2⟩:=h;exact ⟨xs,g1,by rw [g2];exact ⟨[],rfl⟩⟩
 | ret=>obtain ⟨xs,g1,g2⟩:=h;exact ⟨xs,g1,by rw [g2];exact ⟨[],rfl⟩⟩
 | _=>exact h.elim
end Go.AM
