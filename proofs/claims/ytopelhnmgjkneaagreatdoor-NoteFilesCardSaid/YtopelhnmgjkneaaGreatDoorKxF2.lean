/-
  KxF2: texts joined: FmNR Ns16 Ns19 Ns20 Ns21 Ns22 FmNL Lk3 Ns29 Ns30 Ns31 Ns32 Ns33 Ns34 Ns35 Lx5. Own work.
-/
import Derived.Test.YtopelhnmgjkneaaGreatDoorKxF1
import Derived.Test.YtopelhnmgjkneaaGreatDoorProg
set_option linter.all false
set_option linter.unusedSimpArgs false
set_option linter.unusedVariables false
set_option linter.unusedSectionVars false

set_option maxRecDepth 100000
set_option maxHeartbeats 0
namespace Go.AM
open Go.RowKit Go.Proofs
def qwv:AC:=Subtype.val (p:=fun g=>qo Tryz.prog Tryz.f47 [2,3]=some g) (by refine ⟨?g,?h⟩;case h=>conv=>lhs;reduce)
theorem qwO:qo Tryz.prog Tryz.f47 [2,3]=some qwv:=by kernel_rfl
def qwq:AC:=Subtype.val (p:=fun g=>qo Tryz.prog Tryz.f49 [2,3]=some g) (by refine ⟨?g,?h⟩;case h=>conv=>lhs;reduce)
theorem qwN:qo Tryz.prog Tryz.f49 [2,3]=some qwq:=by kernel_rfl
theorem qwT:ZR Tryz.prog Tryz.f49.results.toList=some [(2,some (true,5)),(3,none)]:=by kernel_rfl
def qwY:AC:=Subtype.val (p:=fun g=>qo Tryz.prog Tryz.f93 [2]=some g) (by refine ⟨?g,?h⟩;case h=>conv=>lhs;reduce)
theorem qwL:qo Tryz.prog Tryz.f93 [2]=some qwY:=by kernel_rfl
def qwF:AC:=Subtype.val (p:=fun g=>qo Tryz.prog Tryz.f94 [2]=some g) (by refine ⟨?g,?h⟩;case h=>conv=>lhs;reduce)
theorem qwH:qo Tryz.prog Tryz.f94 [2]=some qwF:=by kernel_rfl
def qw9:AC:=Subtype.val (p:=fun g=>qo Tryz.prog Tryz.f95 [2]=some g) (by refine ⟨?g,?h⟩;case h=>conv=>lhs;reduce)
theorem qw6:qo Tryz.prog Tryz.f95 [2]=some qw9:=by kernel_rfl
def qwK:AC:=Subtype.val (p:=fun g=>qo Tryz.prog Tryz.f101 [2]=some g) (by refine ⟨?g,?h⟩;case h=>conv=>lhs;reduce)
theorem qwM:qo Tryz.prog Tryz.f101 [2]=some qwK:=by kernel_rfl
theorem qwX:JO Tryz.f101.results.toList=some [2]:=by kernel_rfl
def qw3:AC:=Subtype.val (p:=fun g=>qo Tryz.prog Tryz.f102 [2]=some g) (by refine ⟨?g,?h⟩;case h=>conv=>lhs;reduce)
theorem qw0:qo Tryz.prog Tryz.f102 [2]=some qw3:=by kernel_rfl
theorem qw8:JO Tryz.f102.results.toList=some [2]:=by kernel_rfl
def qwU:AC:=Subtype.val (p:=fun g=>qo Tryz.prog Tryz.f103 [2]=some g) (by refine ⟨?g,?h⟩;case h=>conv=>lhs;reduce)
theorem qwV:qo Tryz.prog Tryz.f103 [2]=some qwU:=by kernel_rfl
theorem qw2:JO Tryz.f103.results.toList=some [2]:=by kernel_rfl
theorem qxn {d:Dy} (h:Wg d=true):(Wh d != 0)=false:=by unfold Wh;rw [h];rfl
theorem qxo {d:Dy} (h:Wg d=false):(Wh d != 0)=true:=by unfold Wh;rw [h];rfl
theorem qwR {n:Nat} (h:n<128):qC Tryz.prog 93 [I (n:Int)] (zQ true (ZJ n)):=by
 refine zO (walk Tryz.func93 qwL (by kernel_rfl) (by show 1≤_;decide) ?_)
 have h1':((n:Int)<128)=True:=by simp only [eq_iff_iff,iff_true];omega
 simp -implicitDefEqProofs (disch:=omega)[qwY,qb,h1']
 rw [qgP (by omega)]
 refine zq (ys:=[U (n:Int)]) (ids:=[]) rfl rfl ?_
 simp -implicitDefEqProofs (disch:=omega)[qb,zP]
 rw [qdj h]
 have e:zQ true [UInt8.ofNat n] = .sl true 1 [U (n:Int)]:=by
  show AV.sl true 1 [U ((UInt8.ofNat n).toNat:Int)]=_
  rw [qnR (by omega)]
 rw [←e]
 exact qG (is:=[]) rfl (.refl _)
theorem qxe:∀ (k n:Nat),n≤k→n≤9223372036854775807→qC Tryz.prog 93 [I (n:Int)] (zQ false (ZJ n)):=by
 intro k
 induction k with
 | zero=>intro n h h9;exact qw5 (qwR (by omega)) .slf
 | succ k ih =>
   intro n h h9
   by_cases h1:n<128
   · exact qw5 (qwR h1) .slf
   · refine zO (walk Tryz.func93 qwL (by kernel_rfl) (by show 1 ≤ _; decide) ?_)
     have h1':((n:Int)<128)=False:=by simp only [eq_iff_iff,iff_false];omega
     have ht:(n:Int).tmod 128=((n % 128:Nat):Int):=rfl
     have hq:(n:Int).tdiv 128=((n / 128:Nat):Int):=rfl
     simp -implicitDefEqProofs (disch:=omega)[qwY,qb,h1',ht,hq]
     rw [qgP (by omega)]
     refine zq (ys:=[U (128+(n:Int) % 128)]) (ids:=[]) rfl rfl ?_
     simp -implicitDefEqProofs (disch:=omega)[qb,zP,hq]
     have hl:=zD (n:=n / 128) (by omega)
     refine qg (ys:=[I ((n / 128:Nat):Int)]) (ids:=[]) rfl (ih (n / 128) (by omega) (by omega)) ?_
     simp -implicitDefEqProofs (disch:=omega)[qb,AV.scalar,qee,qZ,Jp]
     refine ⟨by omega,?_⟩
     have e:qw (ZJ n)=U (128+(n:Int) % 128)::qw (ZJ (n / 128)):=by
      rw [qfa h1]
      show U ((UInt8.ofNat (128+n % 128)).toNat:Int)::_=_
      rw [qnR (by omega)]
      simp [qw]
     have el:(ZJ n).length=1+(ZJ (n / 128)).length:=by rw [qfa h1,List.length_cons];omega
     rw [←e,←el]
     exact qG (qgt (n:=(ZJ n).length) (sz:=1) rfl (by rw [qZ];omega) (Jp _)) (.refl _)
theorem qwB {n:Nat} (h:n≤9223372036854775807):qC Tryz.prog 93 [I (n:Int)] (zQ false (ZJ n)):=qxe n n (Nat.le_refl _) h
theorem qwS (f:Bool) (l:List UInt8) (hl:l.length≤1000000):qC Tryz.prog 95 [zQ f l] (U (qgF l:Int)):=by
 refine qT (walk Tryz.func95 qw6 (by kernel_rfl) (by show 1≤_;decide) ?_)
 simp -implicitDefEqProofs (disch:=omega)[qw9,qb]
 refine qO (fun i:Nat=>⟨[(0,zQ f l),(3,U ((qtr (l.take i) % 256:Nat):Int)),(4,I (i:Int))],[]⟩) (fun i=>i≤l.length) (fun i=>l.length - i) 0 (Nat.zero_le _) rfl ?_
 intro i c1
 refine qW fun K0 hK0=>?_
 simp (disch:=omega)[qb]
 refine qP (fun hc=>?_) (fun hc=>?_)
 · have hi : i < l.length := by simpa using hc
   have ix:((i:Int)+1)=((i+1:Nat):Int):=by omega
   have st:=qk2 hi
   simp -implicitDefEqProofs (disch:=omega)[qb,hi,qvw,qZ]
   rw [hK0,qdL]
   refine qz (i+1) (by omega) (by omega) ?_
   simp only [ix,st]
   congr 5
   simp only [AV.v.injEq,Value.int.injEq,true_and]
   omega
 · have hi : i = l.length := by simp at hc; omega
   subst hi
   subst hK0
   rw [List.take_length]
   simp (disch:=omega)[qb]
   show ((qtr l % 256:Nat):Int)=_
   omega
theorem qwy (f:Bool) (l:List Pt) (hl:l.length<128) (hp:∀ p∈l,qi8 p):qC Tryz.prog 94 [JG f l] (zQ false (qbp l)):=by
 refine zO (walk Tryz.func94 qwH (by kernel_rfl) (by show 1≤_;decide) ?_)
 simp -implicitDefEqProofs (disch:=omega)[qwF,qb]
 refine qg rfl (qwR hl) ?_
 simp -implicitDefEqProofs (disch:=omega)[qb,AV.scalar]
 refine qO (fun q:Nat × AV × List HObj=>⟨[(0,JG f l),(3,q.2.1),(4,I (q.1:Int))],q.2.2⟩) (fun q=>q.1≤l.length∧AccB q.2.2 q.2.1 (ZJ l.length++JV (l.take q.1))) (fun q=>l.length - q.1) (0,zQ true (ZJ l.length),[]) ⟨Nat.zero_le _,.inl (by simp [JV])⟩ rfl ?_
 rintro ⟨i,x,H⟩ ⟨c1,c2⟩
 simp only at c1 c2 ⊢
 refine qW fun K0 hK0=>?_
 simp (disch:=omega)[qb]
 refine qP (fun hc=>?_) (fun hc=>?_)
 · have hi : i < l.length := by simpa using hc
   have ix:((i:Int)+1)=((i+1:Nat):Int):=by omega
   have st:=qiN hi
   have hpi:=hp _ (List.getElem_mem hi)
   have hln:=qfb (l:=l.take i) fun p hq=>hp p (List.mem_of_mem_take hq)
   have hl1:=zD (n:=l.length) (by omega)
   have hlt:(l.take i).length≤128:=by rw [List.length_take];omega
   simp -implicitDefEqProofs (disch:=omega)[qb,hi]
   unfold qi8 at hpi
   have hc9:W8 l[i]≤9223372036854775807:=by unfold W8;split <;> omega
   have ht9:l[i].2.2.toNat≤9223372036854775807:=by omega
   have hcl:=zD hc9
   have htl:=zD ht9
   have hA:(ZJ l.length++JV (l.take i)).length≤3000:=by rw [List.length_append];omega
   have hB:(ZJ l.length++JV (l.take i)++ZJ (W8 l[i])).length≤3100:=by rw [List.length_append];omega
   have et:((l[i].2.2.toNat:Nat):Int)=l[i].2.2:=by omega
   by_cases h0:0≤l[i].2.1
   case pos =>
    have ec:((W8 l[i]:Nat):Int)=26+l[i].2.1:=by unfold W8;rw [if_pos h0];omega
    simp -implicitDefEqProofs (disch:=omega)[qb,h0,hi]
    refine qg (ys:=[I ((W8 l[i]:Nat):Int)]) (ids:=[]) (by rw [ec];rfl) (qwB hc9) ?_
    simp -implicitDefEqProofs (disch:=omega)[qb,AV.scalar]
    refine Xn c2 (by omega) (by omega) (by omega) rfl fun y ws w1 w2 w3 w4=>?_
    simp -implicitDefEqProofs (disch:=omega)[qb,hi]
    refine qg (ys:=[I ((l[i].2.2.toNat:Nat):Int)]) (ids:=[]) (by rw [et];rfl) (qwB ht9) ?_
    simp -implicitDefEqProofs (disch:=omega)[qb,AV.scalar]
    refine Xn (m:=ZJ l[i].2.2.toNat) w3 (by omega) (by omega) (by omega) rfl fun z us u1 u2 u3 u4=>?_
    simp (disch:=omega)[qb]
    rw [hK0]
    refine qz (i+1,z,qH (qH H ws) us) ⟨by simp only;omega,?_⟩ (by simp only;omega) (by simp only [ix])
    rw [st,←List.append_assoc,←List.append_assoc]
    exact u3
   case neg =>
    have ec:((W8 l[i]:Nat):Int)=l[i].1 - 97:=by unfold W8;rw [if_neg h0];omega
    simp -implicitDefEqProofs (disch:=omega)[qb,h0,hi]
    refine qg (ys:=[I ((W8 l[i]:Nat):Int)]) (ids:=[]) (by rw [ec];rfl) (qwB hc9) ?_
    simp -implicitDefEqProofs (disch:=omega)[qb,AV.scalar]
    refine Xn c2 (by omega) (by omega) (by omega) rfl fun y ws w1 w2 w3 w4=>?_
    simp -implicitDefEqProofs (disch:=omega)[qb,hi]
    refine qg (ys:=[I ((l[i].2.2.toNat:Nat):Int)]) (ids:=[]) (by rw [et];rfl) (qwB ht9) ?_
    simp -implicitDefEqProofs (disch:=omega)[qb,AV.scalar]
    refine Xn (m:=ZJ l[i].2.2.toNat) w3 (by omega) (by omega) (by omega) rfl fun z us u1 u2 u3 u4=>?_
    simp (disch:=omega)[qb]
    rw [hK0]
    refine qz (i+1,z,qH (qH H ws) us) ⟨by simp only;omega,?_⟩ (by simp only;omega) (by simp only [ix])
    rw [st,←List.append_assoc,←List.append_assoc]
    exact u3
 · have hi : i = l.length := by simp at hc; omega
   subst hi
   subst hK0
   rw [List.take_length] at c2
   simp (disch:=omega)[qb]
   obtain ⟨g,ids,h1⟩:=c2.pur
   refine qG (is:=ids) (r':=zQ g (qbp l)) ?_ .slf
   rcases c2 with rfl | ⟨id,rfl,_⟩ <;> exact h1
def qwA:AC:=match qwv with
 | .seq _ (.seq _ (.seq _ (.seq _ (.seq _ (.seq _ (.seq _ (.seq _ t)))))))=>t
 | x=>x
theorem qxd (d : Dy) (V : DayV d) (x0 : AV) (H0 : List HObj) (pre : List UInt8) (hpre : qbQ d = pre ++ d.sh.flatMap qij) (hpl : pre.length ≤ 100000) (c0 : qr H0 0 = some (.cells (dyC d))) (c1 : AccB H0 x0 pre) (r0 : ∀ j,rid x0 = some j → 1 ≤ j) :
 AWP Tryz.prog (E1 Tryz.prog) qwA ⟨[(1,.ref 0 0),(4,x0)],H0⟩ (qfB [2,3] (qi7 (.tup [zQ false (qev d),I (W9 d)]))):=by
 have hsl:=V.shl
 have hsm:=V.shm
 have hLl:=V.lens
 have hm:QM=1099511627776:=rfl
 have hpp : ∀ s ∈ d.sh,(∀ p ∈ s.pat,qi8 p) ∧ s.pat.length ≤ 64 := fun s hs => by
  have q:=Z0.1 (hsm s hs).2.2.1
  exact ⟨fun p hp=>qde (by omega) (q.2.1 p hp),q.1⟩
 have hb:=V.bath
 have hel : ∀ s ∈ d.sh,(qij s).length ≤ 1300 := fun s hs => by
  have q:=hsm s hs
  exact qlZ (hpp s hs).1 (hpp s hs).2 q.1.2 (by omega) (by omega)
 simp -implicitDefEqProofs (disch:=omega)[qwA,qwv,qb]
 refine qO (fun q:Nat × AV × List HObj=>⟨[(1,.ref 0 0),(4,q.2.1),(6,I (q.1:Int))],q.2.2⟩) (fun q=>q.1≤d.sh.length∧qr q.2.2 0=some (.cells (dyC d))∧AccB q.2.2 q.2.1 (pre++(d.sh.take q.1).flatMap qij)∧∀ j,rid q.2.1=some j→1≤j) (fun q=>d.sh.length - q.1) (0,x0,H0) ⟨Nat.zero_le _,c0,by simpa using c1,r0⟩ rfl ?_
 clear c0 c1 r0
 rintro ⟨i,x,H⟩ ⟨c1,c2,c3,c4⟩
 simp only at c1 c2 c3 c4 ⊢
 refine qW fun K0 hK0=>?_
 simp -implicitDefEqProofs (disch:=omega)[qb,c2,qf,dyC]
 refine qP (fun hc=>?_) (fun hc=>?_)
 · have hi : i < d.sh.length := by simpa using hc
   have ix:((i:Int)+1)=((i+1:Nat):Int):=by omega
   have st:=qcC (f:=qij) hi
   have hmem:=List.getElem_mem hi
   have q:=hsm _ hmem
   have qp:=hpp _ hmem
   have hA:(pre++(d.sh.take i).flatMap qij).length≤700000:=by
    have:=qcB (f:=qij) (n:=1300) (l:=d.sh.take i) fun s hs=>hel s (List.mem_of_mem_take hs)
    rw [List.length_take] at this
    rw [List.length_append]
    have:min i d.sh.length*1300≤400*1300:=Nat.mul_le_mul_right _ (by omega)
    omega
   generalize hs:d.sh[i]=s at *
   have e1:=zD (n:=s.num.toNat) (by omega)
   have e2:=zD (n:=s.bath.toNat) (by omega)
   have e3:=zD (n:=s.age.toNat) (by omega)
   have e4:=qdk qp.1 (by omega)
   have n1:((s.num.toNat:Nat):Int)=s.num:=by omega
   have n2:((s.bath.toNat:Nat):Int)=s.bath:=by omega
   have n3:((s.age.toNat:Nat):Int)=s.age:=by omega
   have p1:=qwB (n:=s.num.toNat) (by omega)
   have p2:=qwB (n:=s.bath.toNat) (by omega)
   have p3:=qwB (n:=s.age.toNat) (by omega)
   have p4:=qwy false s.pat (by omega) qp.1
   rw [n1] at p1
   rw [n2] at p2
   rw [n3] at p3
   simp -implicitDefEqProofs (disch:=omega)[qb,c2,qf,dyC,hi,hs,shC]
   have hl0:=qj c2
   have z0:qr (H++[HObj.cells [I s.num,I s.bath,I s.age,Pts s.pat]]) 0=some (.cells (dyC d)):=(qk hl0).trans c2
   have s0:qr (H++[HObj.cells [I s.num,I s.bath,I s.age,Pts s.pat]]) H.length=some (.cells [I s.num,I s.bath,I s.age,Pts s.pat]):=Qn
   have a0:AccB (H++[HObj.cells [I s.num,I s.bath,I s.age,Pts s.pat]]) x (pre++(d.sh.take i).flatMap qij):=c3.mono fun j hj=>qk (c3.lt hj)
   have r0:∀ j,rid x=some j→1≤j∧j≠H.length:=fun j hj=>⟨c4 j hj,by have:=c3.lt hj;omega⟩
   have g0:H.length<(H++[HObj.cells [I s.num,I s.bath,I s.age,Pts s.pat]]).length:=by simp
   generalize H++[HObj.cells [I s.num,I s.bath,I s.age,Pts s.pat]]=H1 at *
   clear c3 c2
   generalize H.length=L at *
   refine qg (ys:=[I s.num]) (ids:=[]) rfl p1 ?_
   simp -implicitDefEqProofs (disch:=omega)[qb,AV.scalar]
   refine Xn (m:=ZJ s.num.toNat) a0 (by omega) (by omega) (by omega) rfl fun y1 ws1 w1 w2 w3 w4=>?_
   have z1:qr (qH H1 ws1) 0=some (.cells (dyC d)):=(w1 0 (by omega) (fun e=>by have:=r0 0 e;omega)).trans z0
   have s1:qr (qH H1 ws1) L=some (.cells [I s.num,I s.bath,I s.age,Pts s.pat]):=(w1 L (by omega) (fun e=>by have:=r0 L e;omega)).trans s0
   have l1:((pre++(d.sh.take i).flatMap qij)++ZJ s.num.toNat).length≤702000:=by rw [List.length_append];omega
   have a1:AccB (qH H1 ws1) y1 ((pre++(d.sh.take i).flatMap qij)++ZJ s.num.toNat):=w3
   have r1:∀ j,rid y1=some j→1≤j∧j≠L:=fun j hj=>by rw [w4] at hj;injection hj;omega
   have g1:L<(qH H1 ws1).length:=by omega
   clear w1 w2 w3 w4
   simp -implicitDefEqProofs (disch:=omega)[qb,z1,s1,qf,dyC,hi,hs]
   generalize qH H1 ws1=H2 at *
   refine qg (ys:=[I s.bath]) (ids:=[]) rfl p2 ?_
   simp -implicitDefEqProofs (disch:=omega)[qb,AV.scalar]
   refine Xn (m:=ZJ s.bath.toNat) a1 (by omega) (by omega) (by omega) rfl fun y2 ws2 w1 w2 w3 w4=>?_
   have z2:qr (qH H2 ws2) 0=some (.cells (dyC d)):=(w1 0 (by omega) (fun e=>by have:=r1 0 e;omega)).trans z1
   have s2:qr (qH H2 ws2) L=some (.cells [I s.num,I s.bath,I s.age,Pts s.pat]):=(w1 L (by omega) (fun e=>by have:=r1 L e;omega)).trans s1
   have l2:((pre++(d.sh.take i).flatMap qij)++ZJ s.num.toNat++ZJ s.bath.toNat).length≤704000:=by rw [List.length_append];omega
   have a2:AccB (qH H2 ws2) y2 ((pre++(d.sh.take i).flatMap qij)++ZJ s.num.toNat++ZJ s.bath.toNat):=w3
   have r2:∀ j,rid y2=some j→1≤j∧j≠L:=fun j hj=>by rw [w4] at hj;injection hj;omega
   have g2:L<(qH H2 ws2).length:=by omega
   clear w1 w2 w3 w4
   simp -implicitDefEqProofs (disch:=omega)[qb,z2,s2,qf,dyC,hi,hs]
   generalize qH H2 ws2=H3 at *
   refine qg (ys:=[I s.age]) (ids:=[]) rfl p3 ?_
   simp -implicitDefEqProofs (disch:=omega)[qb,AV.scalar]
   refine Xn (m:=ZJ s.age.toNat) a2 (by omega) (by omega) (by omega) rfl fun y3 ws3 w1 w2 w3 w4=>?_
   have z3:qr (qH H3 ws3) 0=some (.cells (dyC d)):=(w1 0 (by omega) (fun e=>by have:=r2 0 e;omega)).trans z2
   have s3:qr (qH H3 ws3) L=some (.cells [I s.num,I s.bath,I s.age,Pts s.pat]):=(w1 L (by omega) (fun e=>by have:=r2 L e;omega)).trans s2
   have l3:((pre++(d.sh.take i).flatMap qij)++ZJ s.num.toNat++ZJ s.bath.toNat++ZJ s.age.toNat).length≤706000:=by rw [List.length_append];omega
   have a3:AccB (qH H3 ws3) y3 ((pre++(d.sh.take i).flatMap qij)++ZJ s.num.toNat++ZJ s.bath.toNat++ZJ s.age.toNat):=w3
   have r3:∀ j,rid y3=some j→1≤j∧j≠L:=fun j hj=>by rw [w4] at hj;injection hj;omega
   have g3:L<(qH H3 ws3).length:=by omega
   clear w1 w2 w3 w4
   simp -implicitDefEqProofs (disch:=omega)[qb,z3,s3,qf,dyC,hi,hs]
   generalize qH H3 ws3=H4 at *
   refine qg (ys:=[Pts s.pat]) (ids:=[]) rfl p4 ?_
   simp -implicitDefEqProofs (disch:=omega)[qb,AV.scalar]
   refine Xn (m:=qbp s.pat) a3 (by omega) (by omega) (by omega) rfl fun y4 ws4 w1 w2 w3 w4=>?_
   have z4:qr (qH H4 ws4) 0=some (.cells (dyC d)):=(w1 0 (by omega) (fun e=>by have:=r3 0 e;omega)).trans z3
   have s4:qr (qH H4 ws4) L=some (.cells [I s.num,I s.bath,I s.age,Pts s.pat]):=(w1 L (by omega) (fun e=>by have:=r3 L e;omega)).trans s3
   have l4:((pre++(d.sh.take i).flatMap qij)++ZJ s.num.toNat++ZJ s.bath.toNat++ZJ s.age.toNat++qbp s.pat).length≤708000:=by rw [List.length_append];omega
   have a4:AccB (qH H4 ws4) y4 ((pre++(d.sh.take i).flatMap qij)++ZJ s.num.toNat++ZJ s.bath.toNat++ZJ s.age.toNat++qbp s.pat):=w3
   have r4:∀ j,rid y4=some j→1≤j∧j≠L:=fun j hj=>by rw [w4] at hj;injection hj;omega
   have g4:L<(qH H4 ws4).length:=by omega
   clear w1 w2 w3 w4
   simp -implicitDefEqProofs (disch:=omega)[qb,z4,s4,qf,dyC,hi,hs]
   generalize qH H4 ws4=H5 at *
   rw [hK0]
   refine qz (i+1,y4,H5) ⟨by simp only;omega,z4,?_,fun j hj=>(r4 j hj).1⟩ (by simp only;omega) (by simp only [ix])
   have e:qij s=ZJ s.num.toNat++ZJ s.bath.toNat++ZJ s.age.toNat++qbp s.pat:=rfl
   rw [st,e]
   simp only [←List.append_assoc]
   exact a4
 · have hi : i = d.sh.length := by simp at hc; omega
   subst hi
   subst hK0
   rw [List.take_length,←hpre] at c3
   have hbl:Wg d=true:=jw.2 V
   simp -implicitDefEqProofs (disch:=omega)[qb,c3.lenW]
   by_cases hL:65536≤(qbQ d).length
   case pos =>
    have hL':(65536≤((qbQ d).length:Int))=True:=by simp only [eq_iff_iff,iff_true];omega
    have hE:W9 d=7:=by unfold W9;rw [hbl,if_pos rfl,if_pos hL]
    have hF:qev d=[]:=if_neg (by rw [hE];decide)
    rw [hE,hF]
    simp -implicitDefEqProofs (disch:=omega)[qb,hL']
    exact qG (r' := .tup [.sl true 0 [],I 7]) (is:=[]) rfl (.tupL (.cons .slf (.cons (.refl _) .nil)))
   have hL':(65536≤((qbQ d).length:Int))=False:=by simp only [eq_iff_iff,iff_false];omega
   have hE:W9 d=0:=by unfold W9;rw [hbl,if_pos rfl,if_neg hL]
   have hF:qev d=qbQ d++[UInt8.ofNat (qgF (qbQ d))]:=if_pos hE
   rw [hE,hF]
   simp -implicitDefEqProofs (disch:=omega)[qb,hL']
   obtain ⟨fx,ids,hpu⟩:=c3.pur
   have hpa:qE (hpf H) [x]=some ([zQ fx (qbQ d)],ids++[]):=by
    rcases c3 with rfl | ⟨id,rfl,_⟩ <;> (simp only [qE,qU,hpu])
   refine qg hpa (qwS fx (qbQ d) (by omega)) ?_
   simp -implicitDefEqProofs (disch:=omega)[qb,AV.scalar]
   refine zq (ys:=[U (qgF (qbQ d):Int)]) (ids:=[]) rfl rfl ?_
   have hsu:qgF (qbQ d)≤255:=by unfold qgF;omega
   have eb:[U (qgF (qbQ d):Int)]=qw [UInt8.ofNat (qgF (qbQ d))]:=by
    show _=[U ((UInt8.ofNat (qgF (qbQ d))).toNat:Int)]
    rw [qnR hsu]
   simp -implicitDefEqProofs (disch:=omega)[qb,zP]
   rw [eb]
   refine Xn (m:=[UInt8.ofNat (qgF (qbQ d))]) c3 (by omega) (by simp) (by simp) rfl fun y ws w1 w2 w3 w4=>?_
   simp (disch:=omega)[qb]
   obtain ⟨fy,jds,hpy⟩:=w3.pur
   refine qG (r' := .tup [zQ fy (qbQ d++[UInt8.ofNat (qgF (qbQ d))]),I 0]) (is:=jds++[]) ?_ (.tupL (.cons .slf (.cons (.refl _) .nil)))
   simp only [qU,Qq,hpy]
   rfl
theorem qwI (d:Dy) (hd:DyI d):qC Tryz.prog 47 [DyV d] (.tup [zQ false (qev d),I (W9 d)]):=by
 refine zO (walk Tryz.func47 qwO (by kernel_rfl) (by show 1≤_;decide) ?_)
 simp -implicitDefEqProofs (disch:=omega)[qb,qwv,dyC]
 refine qg (ys:=[DyV d]) (ids:=[]) rfl (qdl d hd) ?_
 simp -implicitDefEqProofs (disch:=omega)[qb,AV.scalar]
 cases hbl:Wg d with
 | false =>
   have hE:W9 d=2:=by unfold W9;rw [hbl];rfl
   have hF:qev d=[]:=if_neg (by rw [hE];decide)
   rw [hE,hF]
   simp -implicitDefEqProofs (disch:=omega)[qb,qxo hbl]
   exact qG (r' := .tup [.sl true 0 [],I 2]) (is:=[]) rfl (.tupL (.cons .slf (.cons (.refl _) .nil)))
 | true =>
 have V:=jw.1 hbl
 have hrl:=V.rl
 have hbt:=V.bath
 have hla:=V.laid
 have hsl:=V.shl
 have hpt:=Z0.1 V.pat
 have hLl:=V.lens
 have hbk : ∀ b ∈ d.rc,(∀ p ∈ b.2,qi8 p) ∧ b.2.length ≤ 8 ∧ 1 ≤ b.1.length ∧ b.1.length ≤ 8 := fun b hb => by
  obtain ⟨j,hj,rfl⟩:=List.mem_iff_getElem.1 hb
  have q:=Q6 (V.rb j hj)
  have hn:=qc9 q.1
  refine ⟨fun p hp=>qde (n:=(d.rc.take j).length) (by rw [List.length_take];omega) (q.2.2.2.2 p hp),q.2.2.1,?_,hn⟩
  cases hnm:d.rc[j].1 with
  | nil=>have:=q.1;rw [hnm] at this;cases this
  | cons c r=>simp
 simp -implicitDefEqProofs (disch:=omega)[qb,qxn hbl]
 refine qg (ys:=[I (d.rc.length:Int)]) (ids:=[]) rfl (qwR (by omega)) ?_
 simp -implicitDefEqProofs (disch:=omega)[qb,AV.scalar]
 refine qO (fun q:Nat × AV × List HObj=>⟨[(1,.ref 0 0),(4,q.2.1),(5,I (q.1:Int))],q.2.2⟩) (fun q=>q.1≤d.rc.length∧qr q.2.2 0=some (.cells (dyC d))∧AccB q.2.2 q.2.1 (ZJ d.rc.length++(d.rc.take q.1).flatMap qhk)∧∀ j,rid q.2.1=some j→1≤j) (fun q=>d.rc.length - q.1) (0,zQ true (ZJ d.rc.length),[.cells (dyC d)]) ⟨Nat.zero_le _,rfl,.inl (by simp),by simp [rid]⟩ rfl ?_
 rintro ⟨i,x,H⟩ ⟨c1,z0,a0,r0⟩
 simp only at c1 z0 a0 r0 ⊢
 refine qW fun K0 hK0=>?_
 simp -implicitDefEqProofs (disch:=omega)[qb,z0,qf,dyC]
 have g0:=qj z0
 have hpl:=zD (n:=d.rc.length) (by omega)
 have hA:(ZJ d.rc.length++(d.rc.take i).flatMap qhk).length≤10000:=by
  have := qcB (f := qhk) (n := 200) (l := d.rc.take i) fun b hb => by
   have q:=hbk b (List.mem_of_mem_take hb)
   exact qlY q.1 q.2.1 q.2.2.2
  rw [List.length_take] at this
  rw [List.length_append]
  have:min i d.rc.length*200≤32*200:=Nat.mul_le_mul_right _ (by omega)
  omega
 refine qP (fun hc=>?_) (fun hc=>?_)
 · have hi : i < d.rc.length := by simpa using hc
   have ix:((i:Int)+1)=((i+1:Nat):Int):=by omega
   have st:=qcC (f:=qhk) hi
   have q:=hbk _ (List.getElem_mem hi)
   generalize hb:d.rc[i]=b at *
   have e1:=zD (n:=b.1.length) (by omega)
   have e3:=qdk q.1 (by omega)
   have p1:=qwB (n:=b.1.length) (by omega)
   have p3:=qwy false b.2 (by omega) q.1
   simp -implicitDefEqProofs (disch:=omega)[qb,z0,qf,dyC,hi,hb]
   refine qg (ys:=[I (b.1.length:Int)]) (ids:=[]) rfl p1 ?_
   simp -implicitDefEqProofs (disch:=omega)[qb,AV.scalar]
   refine Xn (m:=ZJ b.1.length) a0 (by omega) (by omega) (by omega) rfl fun y1 ws1 w1 w2 w3 w4=>?_
   have z1:qr (qH H ws1) 0=some (.cells (dyC d)):=(w1 0 (by omega) (fun e=>by have:=r0 0 e;omega)).trans z0
   have l1:((ZJ d.rc.length++(d.rc.take i).flatMap qhk)++ZJ b.1.length).length≤12000:=by rw [List.length_append];omega
   have a1:AccB (qH H ws1) y1 ((ZJ d.rc.length++(d.rc.take i).flatMap qhk)++ZJ b.1.length):=w3
   have r1:∀ j,rid y1=some j→1≤j:=fun j hj=>by rw [w4] at hj;injection hj;omega
   have g1:0<(qH H ws1).length:=by omega
   clear w1 w2 w3 w4
   simp -implicitDefEqProofs (disch:=omega)[qb,z1,qf,dyC,hi,hb]
   generalize qH H ws1=G1 at *
   refine Xn (m:=b.1) a1 (by omega) (by omega) (by omega) rfl fun y2 ws2 w1 w2 w3 w4=>?_
   have z2:qr (qH G1 ws2) 0=some (.cells (dyC d)):=(w1 0 (by omega) (fun e=>by have:=r1 0 e;omega)).trans z1
   have l2:((ZJ d.rc.length++(d.rc.take i).flatMap qhk)++ZJ b.1.length++b.1).length≤14000:=by rw [List.length_append];omega
   have a2:AccB (qH G1 ws2) y2 ((ZJ d.rc.length++(d.rc.take i).flatMap qhk)++ZJ b.1.length++b.1):=w3
   have r2:∀ j,rid y2=some j→1≤j:=fun j hj=>by rw [w4] at hj;injection hj;omega
   have g2:0<(qH G1 ws2).length:=by omega
   clear w1 w2 w3 w4
   simp -implicitDefEqProofs (disch:=omega)[qb,z2,qf,dyC,hi,hb]
   generalize qH G1 ws2=G2 at *
   refine qg (ys:=[Pts b.2]) (ids:=[]) rfl p3 ?_
   simp -implicitDefEqProofs (disch:=omega)[qb,AV.scalar]
   refine Xn (m:=qbp b.2) a2 (by omega) (by omega) (by omega) rfl fun y3 ws3 w1 w2 w3 w4=>?_
   have z3:qr (qH G2 ws3) 0=some (.cells (dyC d)):=(w1 0 (by omega) (fun e=>by have:=r2 0 e;omega)).trans z2
   have l3:((ZJ d.rc.length++(d.rc.take i).flatMap qhk)++ZJ b.1.length++b.1++qbp b.2).length≤16000:=by rw [List.length_append];omega
   have a3:AccB (qH G2 ws3) y3 ((ZJ d.rc.length++(d.rc.take i).flatMap qhk)++ZJ b.1.length++b.1++qbp b.2):=w3
   have r3:∀ j,rid y3=some j→1≤j:=fun j hj=>by rw [w4] at hj;injection hj;omega
   have g3:0<(qH G2 ws3).length:=by omega
   clear w1 w2 w3 w4
   simp -implicitDefEqProofs (disch:=omega)[qb,z3,qf,dyC,hi,hb]
   generalize qH G2 ws3=G3 at *
   rw [hK0]
   refine qz (i+1,y3,G3) ⟨by simp only;omega,z3,?_,r3⟩ (by simp only;omega) (by simp only [ix])
   have e:qhk b=ZJ b.1.length++b.1++qbp b.2:=rfl
   rw [st,e]
   simp only [←List.append_assoc] at a3 ⊢
   exact a3
 · have hi : i = d.rc.length := by simp at hc; omega
   subst hi
   subst hK0
   rw [List.take_length] at a0 hA
   have n1:((d.bath.toNat:Nat):Int)=d.bath:=by omega
   have n2:((d.laid.toNat:Nat):Int)=d.laid:=by omega
   have pq:∀ p∈d.pat,qi8 p:=fun p hp=>qde (by omega) (hpt.2.1 p hp)
   have e1:=zD (n:=d.bath.toNat) (by omega)
   have e2:=zD (n:=d.laid.toNat) (by omega)
   have e3:=qdk pq (by omega)
   have e4:=zD (n:=d.sh.length) (by omega)
   have p1:=qwB (n:=d.bath.toNat) (by omega)
   have p2:=qwB (n:=d.laid.toNat) (by omega)
   have p3:=qwy false d.pat (by omega) pq
   have p4:=qwB (n:=d.sh.length) (by omega)
   rw [n1] at p1
   rw [n2] at p2
   simp -implicitDefEqProofs (disch:=omega)[qb,z0,qf,dyC]
   refine qg (ys:=[I d.bath]) (ids:=[]) rfl p1 ?_
   simp -implicitDefEqProofs (disch:=omega)[qb,AV.scalar]
   refine Xn (m:=ZJ d.bath.toNat) a0 (by omega) (by omega) (by omega) rfl fun y1 ws1 w1 w2 w3 w4=>?_
   have z1:qr (qH H ws1) 0=some (.cells (dyC d)):=(w1 0 (by omega) (fun e=>by have:=r0 0 e;omega)).trans z0
   have l1:((ZJ d.rc.length++d.rc.flatMap qhk)++ZJ d.bath.toNat).length≤12000:=by rw [List.length_append];omega
   have a1:AccB (qH H ws1) y1 ((ZJ d.rc.length++d.rc.flatMap qhk)++ZJ d.bath.toNat):=w3
   have r1:∀ j,rid y1=some j→1≤j:=fun j hj=>by rw [w4] at hj;injection hj;omega
   have g1:0<(qH H ws1).length:=by omega
   clear w1 w2 w3 w4
   simp -implicitDefEqProofs (disch:=omega)[qb,z1,qf,dyC]
   generalize qH H ws1=G1 at *
   refine qg (ys:=[I d.laid]) (ids:=[]) rfl p2 ?_
   simp -implicitDefEqProofs (disch:=omega)[qb,AV.scalar]
   refine Xn (m:=ZJ d.laid.toNat) a1 (by omega) (by omega) (by omega) rfl fun y2 ws2 w1 w2 w3 w4=>?_
   have z2:qr (qH G1 ws2) 0=some (.cells (dyC d)):=(w1 0 (by omega) (fun e=>by have:=r1 0 e;omega)).trans z1
   have l2:((ZJ d.rc.length++d.rc.flatMap qhk)++ZJ d.bath.toNat++ZJ d.laid.toNat).length≤14000:=by rw [List.length_append];omega
   have a2:AccB (qH G1 ws2) y2 ((ZJ d.rc.length++d.rc.flatMap qhk)++ZJ d.bath.toNat++ZJ d.laid.toNat):=w3
   have r2:∀ j,rid y2=some j→1≤j:=fun j hj=>by rw [w4] at hj;injection hj;omega
   have g2:0<(qH G1 ws2).length:=by omega
   clear w1 w2 w3 w4
   simp -implicitDefEqProofs (disch:=omega)[qb,z2,qf,dyC]
   generalize qH G1 ws2=G2 at *
   refine qg (ys:=[Pts d.pat]) (ids:=[]) rfl p3 ?_
   simp -implicitDefEqProofs (disch:=omega)[qb,AV.scalar]
   refine Xn (m:=qbp d.pat) a2 (by omega) (by omega) (by omega) rfl fun y3 ws3 w1 w2 w3 w4=>?_
   have z3:qr (qH G2 ws3) 0=some (.cells (dyC d)):=(w1 0 (by omega) (fun e=>by have:=r2 0 e;omega)).trans z2
   have l3:((ZJ d.rc.length++d.rc.flatMap qhk)++ZJ d.bath.toNat++ZJ d.laid.toNat++qbp d.pat).length≤16000:=by rw [List.length_append];omega
   have a3:AccB (qH G2 ws3) y3 ((ZJ d.rc.length++d.rc.flatMap qhk)++ZJ d.bath.toNat++ZJ d.laid.toNat++qbp d.pat):=w3
   have r3:∀ j,rid y3=some j→1≤j:=fun j hj=>by rw [w4] at hj;injection hj;omega
   have g3:0<(qH G2 ws3).length:=by omega
   clear w1 w2 w3 w4
   simp -implicitDefEqProofs (disch:=omega)[qb,z3,qf,dyC]
   generalize qH G2 ws3=G3 at *
   refine qg (ys:=[I (d.sh.length:Int)]) (ids:=[]) rfl p4 ?_
   simp -implicitDefEqProofs (disch:=omega)[qb,AV.scalar]
   refine Xn (m:=ZJ d.sh.length) a3 (by omega) (by omega) (by omega) rfl fun y4 ws4 w1 w2 w3 w4=>?_
   have z4:qr (qH G3 ws4) 0=some (.cells (dyC d)):=(w1 0 (by omega) (fun e=>by have:=r3 0 e;omega)).trans z3
   have l4:((ZJ d.rc.length++d.rc.flatMap qhk)++ZJ d.bath.toNat++ZJ d.laid.toNat++qbp d.pat++ZJ d.sh.length).length≤18000:=by rw [List.length_append];omega
   have a4:AccB (qH G3 ws4) y4 ((ZJ d.rc.length++d.rc.flatMap qhk)++ZJ d.bath.toNat++ZJ d.laid.toNat++qbp d.pat++ZJ d.sh.length):=w3
   have r4:∀ j,rid y4=some j→1≤j:=fun j hj=>by rw [w4] at hj;injection hj;omega
   have g4:0<(qH G3 ws4).length:=by omega
   clear w1 w2 w3 w4
   simp -implicitDefEqProofs (disch:=omega)[qb,z4,qf,dyC]
   generalize qH G3 ws4=G4 at *
   have t:=qxd d V y4 G4 _ (by unfold qbQ qrz;rfl) (by omega) z4 a4 r4
   simp -implicitDefEqProofs (disch:=omega)[qb,qwA,qwv] at t
   exact t
end Go.AM

set_option maxRecDepth 100000
namespace Go.AM
open Go.RowKit Go.Proofs
def qwD:AC:=Subtype.val (p:=fun g=>qo Tryz.prog Tryz.f9 [4]=some g) (by refine ⟨?g,?h⟩;case h=>conv=>lhs;reduce)
theorem qwG:qo Tryz.prog Tryz.f9 [4]=some qwD:=by kernel_rfl
def qwz:AC:=Subtype.val (p:=fun g=>qo Tryz.prog Tryz.f30 [2]=some g) (by refine ⟨?g,?h⟩;case h=>conv=>lhs;reduce)
theorem qwW:qo Tryz.prog Tryz.f30 [2]=some qwz:=by kernel_rfl
theorem qw4 {α:Type} {f:α→Bool} {l:List α} {i:Nat} (h:i<l.length) (hn:(l.take i).any f=false) (hf:f l[i]=false):(l.take (i+1)).any f=false:=by
 rw [List.take_succ_eq_append_getElem h,List.any_append,hn];simp [hf]
theorem qxa {α:Type} {f:α→Bool} {l:List α} {i:Nat} (h:i<l.length) (hf:f l[i]=true):l.any f=true:=List.any_eq_true.2 ⟨_,List.getElem_mem h,hf⟩
theorem qxq {n:Nat} {k:Int} (h:k<n):(k<(n:Int))=True:=by simp only [eq_iff_iff,iff_true];exact h
theorem qxp {n:Nat} {k:Int} (h:¬ k<n):(k<(n:Int))=False:=by simp only [eq_iff_iff,iff_false];exact h
def qwC:AC:=match qwz with
 | .seq _ (.seq _ (.seq _ t))=>t
 | x=>x
theorem qxh {d : Dy} (hs : d.sh.length ≤ 60) {H : List HObj} (h0 : qr H 0 = some (.cells (dyC d))) (fr : List (Nat × AV)) :
 AWP Tryz.prog (E1 Tryz.prog) qwC ⟨(1,.ref 0 0)::fr,H⟩ (qfB [2] (Out (B (d.sh.any qvt)))):=by
 simp -implicitDefEqProofs (disch:=omega)[qwC,qwz,qb]
 refine qO (fun q:Nat × List HObj=>⟨[(1,.ref 0 0),(4,I (q.1:Int))],q.2⟩) (fun q=>q.1≤d.sh.length∧(d.sh.take q.1).any qvt=false∧q.2=H) (fun q=>d.sh.length - q.1) (0,H) ⟨Nat.zero_le _,rfl,rfl⟩ rfl ?_
 rintro ⟨i,H2⟩ ⟨c1,c2,rfl⟩
 simp only at c1 c2 ⊢
 refine qW fun K0 hK0=>?_
 simp -implicitDefEqProofs (disch:=omega)[qb,h0,qf,dyC]
 refine qP (fun hc=>?_) (fun hc=>?_)
 · have hi : i < d.sh.length := by simpa using hc
   have ix:((i:Int)+1)=((i+1:Nat):Int):=by omega
   by_cases hb:70<d.sh[i].pat.length
   · have hb' : (70 < (d.sh[i].pat.length : Int)) = True := by simp only [eq_iff_iff,iff_true]; omega
     have:=qxa (f:=qvt) hi (decide_eq_true hb)
     rw [hK0]
     simp -implicitDefEqProofs (disch:=omega)[qb,hi,h0,qf,dyC,hb',this]
   · have hb' : (70 < (d.sh[i].pat.length : Int)) = False := by simp only [eq_iff_iff,iff_false]; omega
     simp -implicitDefEqProofs (disch:=omega)[qb,hi,h0,qf,dyC,hb']
     rw [hK0]
     exact qz (i+1,H2) ⟨by simp only;omega,qw4 hi c2 (decide_eq_false hb),rfl⟩ (by simp only;omega) (by simp only [ix])
 · have hi : i = d.sh.length := by simp at hc; omega
   subst hi
   rw [List.take_length] at c2
   rw [hK0]
   simp -implicitDefEqProofs (disch:=omega)[qb,c2]
theorem qw7 (d:Dy):qC Tryz.prog 30 [DyV d] (B (qjT d)):=by
 refine qT (walk Tryz.func30 qwW (by kernel_rfl) (by show 1≤_;decide) ?_)
 simp -implicitDefEqProofs (disch:=omega)[qwz,qb,dyC]
 unfold qjT
 by_cases q1:40<d.rc.length
 case pos =>
  have e1:=qxq (n:=d.rc.length) (k:=40) (by omega)
  simp -implicitDefEqProofs (disch:=omega)[qb,e1,q1]
 have e1:=qxp (n:=d.rc.length) (k:=40) (by omega)
 simp -implicitDefEqProofs (disch:=omega)[qb,e1,q1]
 by_cases q2:70<d.pat.length
 case pos =>
  have e2:=qxq (n:=d.pat.length) (k:=70) (by omega)
  simp -implicitDefEqProofs (disch:=omega)[qb,e2,q2]
 have e2:=qxp (n:=d.pat.length) (k:=70) (by omega)
 simp -implicitDefEqProofs (disch:=omega)[qb,e2,q2]
 by_cases q3:60<d.sh.length
 case pos =>
  have e3:=qxq (n:=d.sh.length) (k:=60) (by omega)
  simp -implicitDefEqProofs (disch:=omega)[qb,e3,q3]
 have e3:=qxp (n:=d.sh.length) (k:=60) (by omega)
 simp -implicitDefEqProofs (disch:=omega)[qb,e3,q3]
 refine qO (fun q:Nat × List HObj=>⟨[(1,.ref 0 0),(3,I (q.1:Int))],q.2⟩) (fun q=>q.1≤d.rc.length∧(d.rc.take q.1).any qvs=false∧q.2=[.cells (dyC d)]) (fun q=>d.rc.length - q.1) (0,[.cells (dyC d)]) ⟨Nat.zero_le _,rfl,rfl⟩ rfl ?_
 rintro ⟨i,H2⟩ ⟨c1,c2,rfl⟩
 simp only at c1 c2 ⊢
 refine qW fun K0 hK0=>?_
 simp -implicitDefEqProofs (disch:=omega)[qb,qf,dyC]
 refine qP (fun hc=>?_) (fun hc=>?_)
 · have hi : i < d.rc.length := by simpa using hc
   have ix:((i:Int)+1)=((i+1:Nat):Int):=by omega
   by_cases hb:20<d.rc[i].2.length
   · have hb' : (20 < (d.rc[i].2.length : Int)) = True := by simp only [eq_iff_iff,iff_true]; omega
     have:=qxa (f:=qvs) hi (by unfold qvs;simp [hb])
     rw [hK0]
     simp -implicitDefEqProofs (disch:=omega)[qb,hi,qf,dyC,hb',this]
   have hb':(20<(d.rc[i].2.length:Int))=False:=by simp only [eq_iff_iff,iff_false];omega
   by_cases hc2:100<d.rc[i].1.length
   · have hc' : (100 < (d.rc[i].1.length : Int)) = True := by simp only [eq_iff_iff,iff_true]; omega
     have:=qxa (f:=qvs) hi (by unfold qvs;simp [hc2])
     rw [hK0]
     simp -implicitDefEqProofs (disch:=omega)[qb,hi,qf,dyC,hb',hc',this]
   have hc':(100<(d.rc[i].1.length:Int))=False:=by simp only [eq_iff_iff,iff_false];omega
   simp -implicitDefEqProofs (disch:=omega)[qb,hi,qf,dyC,hb',hc']
   rw [hK0]
   refine qz (i+1,[.cells (dyC d)]) ⟨by simp only;omega,qw4 hi c2 (by unfold qvs;simp [hb,hc2]),rfl⟩ (by simp only;omega) (by simp only [ix,dyC])
 · have hi : i = d.rc.length := by simp at hc; omega
   subst hi
   rw [List.take_length] at c2
   rw [hK0]
   have t:=qxh (d:=d) (by omega) (H:=[.cells (dyC d)]) rfl [(3,I (d.rc.length:Int))]
   simp -implicitDefEqProofs (disch:=omega)[qwC,qwz,qb,dyC,c2] at t ⊢
   exact t
abbrev qws (g:Bool) (b:List UInt8) (at':Nat) (bad:Bool):List AV:=[zQ g b,I (at':Int),B bad]
theorem qwr {H : List HObj} {id : Nat} {g : Bool} {b : List UInt8} {at' : Nat} {bad : Bool} {K : AV → List HObj → Prop} (h : qr H id = some (.cells (qws g b at' bad))) (ha : at' ≤ b.length) (hb : b.length ≤ 1000000)
 (hK:∀ H',qr H' id=some (.cells (qws g b (Qp b at' bad).2.1 (Qp b at' bad).2.2))→(∀ j,j≠id→qr H' j=qr H j)→H'.length=H.length→K (I (Qp b at' bad).1) H'):zG Tryz.prog 101 [.ref id 0] H K:=by
 refine zj Tryz.func101 qwM (QB qwX) (by show 1≤_;decide) ?_
 simp -implicitDefEqProofs (disch:=omega)[qwK,qb]
 refine qO (fun q : Nat × Int × Int × List HObj => ⟨[(0,.ref id 0),(3,I q.2.1),(4,I q.2.2.1)],q.2.2.2⟩)
  (fun q=>q.1≤b.length∧qr q.2.2.2 id=some (.cells (qws g b q.1 bad))∧(∀ j,j≠id→qr q.2.2.2 j=qr H j)∧q.2.2.2.length=H.length∧(bad=false→qdc b at' 0 1=qdc b q.1 q.2.1 q.2.2.1)∧(bad=true→q.2.1=0∧q.1=at')∧(0≤q.2.1∧q.2.1<q.2.2.1∧q.2.2.1≤562949953421312))
  (fun q=>b.length - q.1) (at',0,1,H) ⟨ha,h,fun _ _=>rfl,rfl,fun _=>rfl,fun _=>⟨rfl,rfl⟩,⟨by show (0:Int)≤0;decide,by show (0:Int)<1;decide,by show (1:Int)≤562949953421312;decide⟩⟩ rfl ?_
 rintro ⟨a,n,pl,H'⟩ ⟨c1,c2,c3,c4,c5,c6,c7⟩
 simp only at c1 c2 c3 c4 c5 c6 c7 ⊢
 refine qW fun K0 hK0=>?_
 have lid:=qj c2
 simp -implicitDefEqProofs (disch:=omega)[qb,c2,qf]
 cases bad with
 | true =>
   obtain ⟨e1,e2⟩:=c6 rfl
   rw [e2] at c2
   subst e1
   have hF:Qp b at' true=(0,at',true):=rfl
   rw [hF] at hK
   subst hK0
   simp -implicitDefEqProofs (disch:=omega)[qb,c2,qf,qt,e2,lid]
   refine ⟨[I 0],⟨rfl,trivial⟩,?_⟩
   exact hK _ (qi lid) (fun j hj=>(qh (Ne.symm hj)).trans (c3 j hj)) (by simpa using c4)
 | false =>
   have c5:=c5 rfl
   have hF:Qp b at' false=qdc b at' 0 1:=rfl
   rw [hF,c5] at hK
   have uf : qdc b a n pl = if h : a < b.length then
    if 4398046511104<pl then (0,a,true)
    else if (b[a].toNat:Int)<128 then (n+pl*((b[a].toNat:Int) % 128),a+1,decide (1099511627776<n+pl*((b[a].toNat:Int) % 128)))
    else qdc b (a+1) (n+pl*((b[a].toNat:Int) % 128)) (pl*128)
    else (0,a,true):=by conv=>lhs;unfold qdc
   simp -implicitDefEqProofs (disch:=omega)[qb,c2,qf,zW,zJ,zE]
   by_cases ha2:a<b.length
   case neg =>
    have ha':(b.length≤a)=True:=by simp only [eq_iff_iff,iff_true];omega
    rw [uf,dif_neg ha2] at hK
    simp -implicitDefEqProofs (disch:=omega)[qb,c2,qf,zW,zJ,zE,ha',qt,lid]
    subst hK0
    refine ⟨[I 0],⟨rfl,trivial⟩,?_⟩
    exact hK _ (qi lid) (fun j hj=>(qh (Ne.symm hj)).trans (c3 j hj)) (by simpa using c4)
   have ha':(b.length≤a)=False:=by simp only [eq_iff_iff,iff_false];omega
   rw [uf,dif_pos ha2] at hK
   simp -implicitDefEqProofs (disch:=omega)[qb,c2,qf,zW,zJ,zE,ha']
   by_cases hp:4398046511104<pl
   case pos =>
    rw [if_pos hp] at hK
    simp -implicitDefEqProofs (disch:=omega)[qb,c2,qf,zW,zJ,zE,hp,qt,lid]
    subst hK0
    refine ⟨[I 0],⟨rfl,trivial⟩,?_⟩
    exact hK _ (qi lid) (fun j hj=>(qh (Ne.symm hj)).trans (c3 j hj)) (by simpa using c4)
   have hp':(4398046511104<pl)=False:=by simp only [eq_iff_iff,iff_false];exact hp
   rw [if_neg hp] at hK
   have c5':=c5.trans (uf.trans ((dif_pos ha2).trans (if_neg hp)))
   clear uf
   have hc8:=UInt8.toNat_lt b[a]
   generalize hcc:b[a].toNat=c at *
   have ht:(c:Int).tmod 128=(c:Int) % 128:=by rw [Int.tmod_eq_emod_of_nonneg (by omega)]
   have m0:0≤pl*((c:Int) % 128):=Int.mul_nonneg (by omega) (by omega)
   have m1:pl*((c:Int) % 128)≤pl*127:=Int.mul_le_mul_of_nonneg_left (by omega) (by omega)
   simp -implicitDefEqProofs (disch:=omega)[qb,c2,qf,zW,zJ,zE,hp',qt,ha2,qvw,qZ,lid,hcc,ht]
   generalize pl*((c:Int) % 128)=X at *
   have ax:((a:Int)+1)=((a+1:Nat):Int):=by omega
   have f1:qr (H'.set id (HObj.cells [zQ g b,I ((a:Int)+1),B false])) id=some (.cells [zQ g b,I ((a:Int)+1),B false]):=qi lid
   have f2:∀ j,j≠id→qr (H'.set id (HObj.cells [zQ g b,I ((a:Int)+1),B false])) j=qr H j:=fun j hj=>(qh (Ne.symm hj)).trans (c3 j hj)
   have f3:(H'.set id (HObj.cells [zQ g b,I ((a:Int)+1),B false])).length=H.length:=by simpa using c4
   generalize H'.set id (HObj.cells [zQ g b,I ((a:Int)+1),B false])=H2 at *
   have lid2:=qj f1
   by_cases hc:(c:Int)<128
   case pos =>
    rw [if_pos hc] at hK
    subst hK0
    simp -implicitDefEqProofs (disch:=omega)[qb,hc,f1,qf]
    simp -implicitDefEqProofs (disch:=omega)[qb,f1,qf,qt,lid2]
    refine ⟨[I (n+X)],⟨rfl,trivial⟩,?_⟩
    exact hK _ ((qi lid2).trans (by simp only [ax])) (fun j hj=>(qh (Ne.symm hj)).trans (f2 j hj)) (by simpa using f3)
   case neg =>
    have hc':((c:Int)<128)=False:=by simp only [eq_iff_iff,iff_false];exact hc
    have r5:qdc b at' 0 1=qdc b (a+1) (n+X) (pl*128):=by rw [c5',if_neg hc]
    simp -implicitDefEqProofs (disch:=omega)[qb,hc',f1,qf]
    rw [hK0]
    exact qz (a+1,n+X,pl*128,H2) ⟨by simp only;omega,by rw [f1,ax],f2,f3,fun _=>r5,(fun h=>by cases h),⟨by simp only;omega,by simp only;omega,by simp only;omega⟩⟩ (by simp only;omega) rfl
theorem qxb {H : List HObj} {id : Nat} {g : Bool} {b : List UInt8} {at' : Nat} {bad : Bool} {K : AV → List HObj → Prop} (h : qr H id = some (.cells (qws g b at' bad))) (ha : at' ≤ b.length) (hb : b.length ≤ 1000000)
 (hK:∀ H',qr H' id=some (.cells (qws g b (Vg b at' bad).2.1 (Vg b at' bad).2.2))→(∀ j,j≠id→qr H' j=qr H j)→H'.length=H.length→K (S (Vg b at' bad).1) H'):zG Tryz.prog 102 [.ref id 0] H K:=by
 refine zj Tryz.func102 qw0 (QB qw8) (by show 1≤_;decide) ?_
 simp -implicitDefEqProofs (disch:=omega)[qw3,qb]
 refine qwr h ha hb fun H1 k1 k2 k3=>?_
 have R:=qdd b at' bad ha
 unfold Vg at hK
 generalize Qp b at' bad=N at *
 obtain ⟨n,a,bd⟩:=N
 simp only at *
 have lid:=qj k1
 simp -implicitDefEqProofs (disch:=omega)[qb,k1,qf]
 cases bd with
 | true =>
   rw [if_pos (.inl rfl)] at hK
   simp -implicitDefEqProofs (disch:=omega)[qb,k1,qf,qt,lid,zW,zJ,zE]
   refine ⟨[S []],⟨rfl,trivial⟩,?_⟩
   exact hK _ (qi lid) (fun j hj=>(qh (Ne.symm hj)).trans (k2 j hj)) (by simpa using k3)
 | false =>
   simp -implicitDefEqProofs (disch:=omega)[qb,k1,qf,qt,lid,zW,zJ,zE]
   by_cases hc:(b.length:Int) - a<n
   case pos =>
    rw [if_pos (.inr hc)] at hK
    simp -implicitDefEqProofs (disch:=omega)[qb,k1,qf,qt,lid,zW,zJ,zE,hc]
    refine ⟨[S []],⟨rfl,trivial⟩,?_⟩
    exact hK _ (qi lid) (fun j hj=>(qh (Ne.symm hj)).trans (k2 j hj)) (by simpa using k3)
   have hc':((b.length:Int) - a<n)=False:=by simp only [eq_iff_iff,iff_false];exact hc
   rw [if_neg (by rintro (h | h);cases h;exact hc h)] at hK
   obtain ⟨m,rfl⟩:∃ m:Nat,n=m:=⟨n.toNat,by omega⟩
   simp -implicitDefEqProofs (disch:=omega)[qb,k1,qf,qt,lid,zW,zJ,zE,hc']
   refine ⟨⟨by omega,by omega,qZ _⟩,?_⟩
   have e1:((a:Int)+(m:Int)).toNat - a=m:=by omega
   have e2:((qw b).drop a).take m=qw ((b.drop a).take m):=by rw [qwZ,qfG]
   have e3:((b.drop a).take m).length=m:=by rw [List.length_take,List.length_drop];omega
   rw [e1,e2,qg8]
   refine ⟨e3.symm,?_⟩
   simp -implicitDefEqProofs (disch:=omega)[qb,k1,qf,qt,lid,zW,zJ,zE]
   refine ⟨[S ((b.drop a).take m)],⟨rfl,trivial⟩,?_⟩
   simp only [Int.toNat_natCast] at hK
   exact hK _ ((qi lid).trans (by simp)) (fun j hj=>(qh (Ne.symm hj)).trans (k2 j hj)) (by simpa using k3)
theorem qwE {H : List HObj} {id : Nat} {g : Bool} {b : List UInt8} {at' : Nat} {bad : Bool} {K : AV → List HObj → Prop} (h : qr H id = some (.cells (qws g b at' bad))) (ha : at' ≤ b.length) (hb : b.length ≤ 1000000)
 (hK:∀ H',qr H' id=some (.cells (qws g b (Yd b at' bad).2.1 (Yd b at' bad).2.2))→(∀ j,j<H.length→j≠id→qr H' j=qr H j)→H.length≤H'.length→K (Pts (Yd b at' bad).1) H'):zG Tryz.prog 103 [.ref id 0] H K:=by
 refine qej (qeh (zj Tryz.func103 qwV (QB qw2) (by show 1≤_;decide) ?_))
 simp -implicitDefEqProofs (disch:=omega)[qwU,qb]
 refine qwr h ha hb fun H1 k1 k2 k3=>?_
 have hid:=qj h
 have R:=qdd b at' bad ha
 unfold Yd at hK
 generalize Qp b at' bad=N at *
 obtain ⟨n,a0,bd⟩:=N
 simp only at *
 obtain ⟨m,rfl⟩:∃ m:Nat,n=m:=⟨n.toNat,by omega⟩
 simp (disch:=omega)[qb]
 rw [Int.toNat_natCast] at hK
 have RD:=qkz b
 have L0:=qc2 RD m a0 bd R.2.2
 refine qO (fun q : Nat × List Pt × AV × Nat × Bool × List HObj => ⟨[(0,.ref id 0),(3,q.2.2.1),(4,I (m : Int)),(5,I (q.1 : Int))],q.2.2.2.2.2⟩)
  (fun q=>q.1≤m∧qr q.2.2.2.2.2 id=some (.cells (qws g b q.2.2.2.1 q.2.2.2.2.1))∧(∀ j,j<H.length→j≠id→qr q.2.2.2.2.2 j=qr H j)∧H.length≤q.2.2.2.2.2.length∧q.2.2.2.1≤b.length∧AccG q.2.2.2.2.2 q.2.2.1 3 q.1 (fl ptC q.2.1)∧q.2.1.length=q.1∧(∀ j,rid q.2.2.1=some j→H.length≤j)∧itF (ptF b) m a0 bd=(q.2.1++(itF (ptF b) (m - q.1) q.2.2.2.1 q.2.2.2.2.1).1,(itF (ptF b) (m - q.1) q.2.2.2.1 q.2.2.2.2.1).2))
  (fun q=>m - q.1) (0,[],.sl true 0 [],a0,bd,H1) ⟨Nat.zero_le _,k1,fun j _ hj=>k2 j hj,by simp only;omega,R.2.2,.nil,rfl,by simp [rid],rfl⟩ rfl ?_
 rintro ⟨i,ps,x,a,bad2,H2⟩ ⟨c1,c2,c3,c4,c5,c6,c7,c8,c9⟩
 simp only at c1 c2 c3 c4 c5 c6 c7 c8 c9 ⊢
 refine qW fun K0 hK0=>?_
 have lid:=qj c2
 have L1:=qc2 RD (m - i) a bad2 c5
 have hps:ps.length≤b.length+1:=by
  have:=L0.2.2
  rw [c9] at this
  simp only [List.length_append] at this
  omega
 simp (disch:=omega)[qb]
 by_cases hi:i<m
 case neg =>
  have e0:m - i=0:=by omega
  rw [e0] at c9
  rw [c9] at hK
  simp only [itF,List.append_nil] at hK
  simp -implicitDefEqProofs (disch:=omega)[qb,hi]
  subst hK0
  simp (disch:=omega)[qb]
  obtain ⟨ids,pu,pi⟩:=c6.pur
  refine ⟨[x],⟨rfl,trivial⟩,_,ids,pu,Pts ps,by rw [←c7];exact .slf,?_⟩
  have lt:∀ j∈ids,j<H2.length:=fun j hj=>(pi j hj).2
  have ge:∀ j∈ids,H.length≤j:=fun j hj=>c8 j (pi j hj).1
  exact hK _ ((Wv lt fun e=>by have:=ge _ e;omega).trans c2) (fun j h1 h2=>(Wv lt fun e=>by have:=ge _ e;omega).trans (c3 j h1 h2)) (Nat.le_trans c4 JW)
 cases bad2 with
 | true =>
   rw [ZP] at c9
   rw [c9] at hK
   simp only [List.append_nil] at hK
   simp -implicitDefEqProofs (disch:=omega)[qb,hi,c2,qf]
   subst hK0
   simp (disch:=omega)[qb]
   obtain ⟨ids,pu,pi⟩:=c6.pur
   refine ⟨[x],⟨rfl,trivial⟩,_,ids,pu,Pts ps,by rw [←c7];exact .slf,?_⟩
   have lt:∀ j∈ids,j<H2.length:=fun j hj=>(pi j hj).2
   have ge:∀ j∈ids,H.length≤j:=fun j hj=>c8 j (pi j hj).1
   exact hK _ ((Wv lt fun e=>by have:=ge _ e;omega).trans c2) (fun j h1 h2=>(Wv lt fun e=>by have:=ge _ e;omega).trans (c3 j h1 h2)) (Nat.le_trans c4 JW)
 | false =>
 have ix:((i:Int)+1)=((i+1:Nat):Int):=by omega
 rw [show m - i=(m - (i+1))+1 by omega,qj8] at c9
 rw [List.append_cons] at c9
 simp -implicitDefEqProofs (disch:=omega)[qb,hi,c2,qf]
 refine qwr c2 c5 hb fun H3 e1 e2 e3=>?_
 have R1:=qdd b a false c5
 have R2:=qdd b (Qp b a false).2.1 (Qp b a false).2.2 R1.2.2
 have hP:ptF b a false=((if 26≤(Qp b a false).1 then (0,(Qp b a false).1 - 26,(Qp b (Qp b a false).2.1 (Qp b a false).2.2).1) else (97+(Qp b a false).1 % 26,-1,(Qp b (Qp b a false).2.1 (Qp b a false).2.2).1)),(Qp b (Qp b a false).2.1 (Qp b a false).2.2).2):=rfl
 rw [hP] at c9
 clear hP
 generalize Qp b a false=N1 at *
 obtain ⟨n1,a1,b1⟩:=N1
 simp only at *
 obtain ⟨c,rfl⟩:∃ c:Nat,n1=c:=⟨n1.toNat,by omega⟩
 have ht:(c:Int).tmod 26=(c:Int) % 26:=by rw [Int.tmod_eq_emod_of_nonneg (by omega)]
 simp -implicitDefEqProofs (disch:=omega)[qb,ht]
 rw [qgP (by omega)]
 have lid3:=qj e1
 have a2:=R1.2.2
 have R3:=qdd b a1 b1 a2
 have rest:∀ (A R:Int) (H4:List HObj),H4=H3++[.cells [U A,I R,I 0]]→qr H4 id=some (.cells (qws g b a1 b1))∧qr H4 H3.length=some (.cells [U A,I R,I 0])∧H4.length=H3.length+1∧AccG H4 x 3 i (fl ptC ps)∧∀ j,j<H3.length→qr H4 j=qr H3 j:=by
  intro A R H4 h4
  subst h4
  refine ⟨(qk lid3).trans e1,Qn,by simp,c6.mono fun j hj=>?_,fun j hj=>qk hj⟩
  have h1:=c8 j hj
  have h2:=c6.lt hj
  rw [qk (by omega)]
  exact e2 j (by omega)
 refine qP (fun hc=>?_) (fun hc=>?_)
 · have h26 : 26 ≤ (c : Int) := by simpa using hc
   rw [if_pos h26] at c9
   obtain ⟨R,hR⟩:∃ R,(c:Int) - 26=R:=⟨_,rfl⟩
   have RR:=rest 0 R _ rfl
   rw [hR] at c9
   simp -implicitDefEqProofs (disch:=omega)[qb,hR]
   generalize H3++[HObj.cells [U 0,I R,I 0]]=H4 at *
   obtain ⟨r1,r2,r3,r4,r5⟩:=RR
   refine qwr r1 a2 hb fun H5 g1 g2 g3=>?_
   have q2:=(g2 _ (show H3.length≠id by omega)).trans r2
   have lid5:H3.length<H5.length:=by omega
   simp -implicitDefEqProofs (disch:=omega)[qb,q2,qt,lid5]
   generalize Qp b a1 b1=N2 at *
   obtain ⟨n2,a3,b2⟩:=N2
   simp only at *
   have s1:qr (H5.set H3.length (.cells [U 0,I R,I n2])) H3.length=some (.cells [U 0,I R,I n2]):=qi lid5
   have s2:qr (H5.set H3.length (.cells [U 0,I R,I n2])) id=some (.cells (qws g b a3 b2)):=(qh (by omega)).trans g1
   have s3:∀ j,j<H3.length→j≠id→qr (H5.set H3.length (.cells [U 0,I R,I n2])) j=qr H2 j:=fun j h1 h2=>(qh (by omega)).trans ((g2 j h2).trans ((r5 j h1).trans (e2 j h2)))
   have s4:(H5.set H3.length (.cells [U 0,I R,I n2])).length=H3.length+1:=by rw [List.length_set];omega
   have s5:AccG (H5.set H3.length (.cells [U 0,I R,I n2])) x 3 i (fl ptC ps):=c6.mono fun j hj=>s3 j (by have:=c6.lt hj;omega) (by have:=c8 j hj;omega)
   generalize H5.set H3.length (HObj.cells [U 0,I R,I n2])=H6 at *
   simp -implicitDefEqProofs (disch:=omega)[qb,s1,qf]
   refine zq (ys:=[.agg (ptC (0,R,n2))]) (ids:=[]) rfl rfl ?_
   simp -implicitDefEqProofs (disch:=omega)[qb,zP,ptC]
   refine Q5 (ys:=ptC (0,R,n2)) s5 (by omega) (by decide) rfl rfl fun vs w1 w2 w3=>?_
   simp (disch:=omega)[qb]
   rw [hK0]
   refine qz (i+1,ps++[(0,R,n2)],.ms H6.length 0 (i+1) 3,a3,b2,qH H6 vs) ⟨by simp only;omega,(w1 id (by omega) (fun h=>by have:=c8 id h;omega)).trans s2,fun j h1 h2=>?_,by simp only;omega,by simp only;omega,?_,by simp only [List.length_append,List.length_cons,List.length_nil];omega,fun j hj=>?_,c9⟩ (by simp only;omega) (by simp only [ix])
   · exact (w1 j (by omega) (fun h=>by have:=c8 j h;omega)).trans ((s3 j (by omega) h2).trans (c3 j h1 h2))
   · rw [jr];exact w3
   · simp only [rid] at hj;injection hj;omega
 · have h26 : ¬ 26 ≤ (c : Int) := by simpa using hc
   rw [if_neg h26] at c9
   obtain ⟨A,hA⟩:∃ A,97+(c:Int) % 26=A:=⟨_,rfl⟩
   have RR:=rest A (-1) _ rfl
   rw [hA] at c9
   rw [hA]
   simp (disch:=omega)[qb]
   generalize H3++[HObj.cells [U A,I (-1),I 0]]=H4 at *
   obtain ⟨r1,r2,r3,r4,r5⟩:=RR
   refine qwr r1 a2 hb fun H5 g1 g2 g3=>?_
   have q2:=(g2 _ (show H3.length≠id by omega)).trans r2
   have lid5:H3.length<H5.length:=by omega
   simp -implicitDefEqProofs (disch:=omega)[qb,q2,qt,lid5]
   generalize Qp b a1 b1=N2 at *
   obtain ⟨n2,a3,b2⟩:=N2
   simp only at *
   have s1:qr (H5.set H3.length (.cells [U A,I (-1),I n2])) H3.length=some (.cells [U A,I (-1),I n2]):=qi lid5
   have s2:qr (H5.set H3.length (.cells [U A,I (-1),I n2])) id=some (.cells (qws g b a3 b2)):=(qh (by omega)).trans g1
   have s3:∀ j,j<H3.length→j≠id→qr (H5.set H3.length (.cells [U A,I (-1),I n2])) j=qr H2 j:=fun j h1 h2=>(qh (by omega)).trans ((g2 j h2).trans ((r5 j h1).trans (e2 j h2)))
   have s4:(H5.set H3.length (.cells [U A,I (-1),I n2])).length=H3.length+1:=by rw [List.length_set];omega
   have s5:AccG (H5.set H3.length (.cells [U A,I (-1),I n2])) x 3 i (fl ptC ps):=c6.mono fun j hj=>s3 j (by have:=c6.lt hj;omega) (by have:=c8 j hj;omega)
   generalize H5.set H3.length (HObj.cells [U A,I (-1),I n2])=H6 at *
   simp -implicitDefEqProofs (disch:=omega)[qb,s1,qf]
   refine zq (ys:=[.agg (ptC (A,(-1),n2))]) (ids:=[]) rfl rfl ?_
   simp -implicitDefEqProofs (disch:=omega)[qb,zP,ptC]
   refine Q5 (ys:=ptC (A,(-1),n2)) s5 (by omega) (by decide) rfl rfl fun vs w1 w2 w3=>?_
   simp (disch:=omega)[qb]
   rw [hK0]
   refine qz (i+1,ps++[(A,(-1),n2)],.ms H6.length 0 (i+1) 3,a3,b2,qH H6 vs) ⟨by simp only;omega,(w1 id (by omega) (fun h=>by have:=c8 id h;omega)).trans s2,fun j h1 h2=>?_,by simp only;omega,by simp only;omega,?_,by simp only [List.length_append,List.length_cons,List.length_nil];omega,fun j hj=>?_,c9⟩ (by simp only;omega) (by simp only [ix])
   · exact (w1 j (by omega) (fun h=>by have:=c8 j h;omega)).trans ((s3 j (by omega) h2).trans (c3 j h1 h2))
   · rw [jr];exact w3
   · simp only [rid] at hj;injection hj;omega
def qwu:AC:=match qwq with
 | .seq _ (.seq _ (.seq _ (.seq _ (.seq _ (.seq _ (.seq _ (.seq _ (.seq _ (.seq _ (.seq _ (.seq _ t)))))))))))=>t
 | x=>x
theorem qxg {b : List UInt8} {f : Bool} (hb : b.length ≤ 65536) {rs : List Bk} {ss : List Sht} {B' L : Int} {P : List Pt} {x y : AV} {n m a : Nat} {bad : Bool} {H : List HObj} (fr : List (Nat × AV))
 (z:qr H 0=some (.cells z0)) (c1:qr H 1=some (.cells (qws f b a bad))) (c2:qr H 2=some (.cells [x,I B',I L,Pts P,y])) (cx:AccG H x 2 n (fl bkC rs)) (cy:AccG H y 4 m (fl shC ss)) (hn:rs.length=n) (hm:ss.length=m)
 (rx:∀ j,rid x=some j→3≤j) (ry:∀ j,rid y=some j→3≤j) (hd:DyI ⟨rs,B',L,P,ss⟩) :
 AWP Tryz.prog (E1 Tryz.prog) qwu ⟨(0,zQ f b)::(2,.ref 0 0)::(4,.ref 1 0)::(5,.ref 2 0)::fr,H⟩ (qh5 [(2,some (true,5)),(3,none)] (qi7 (.tup [DyV (qig b ⟨rs,B',L,P,ss⟩ bad),I (qfw b ⟨rs,B',L,P,ss⟩ bad)]))):=by
 have l0:=qj z
 have l1:=qj c1
 have l2:=qj c2
 simp -implicitDefEqProofs (disch:=omega)[qwu,qwq,qb,c1,qf]
 cases bad with
 | true =>
   have hO:qfw b ⟨rs,B',L,P,ss⟩ true=8:=rfl
   have hV:qig b ⟨rs,B',L,P,ss⟩ true=dy0:=rfl
   rw [hO,hV]
   simp -implicitDefEqProofs (disch:=omega)[qb,z,qt,l0]
   refine qK (id:=0) (off:=0) rfl (qi l0) (by simp) ?_
   exact qG (r' := .tup [.agg z0,I 8]) (is:=[]) rfl (.tupL (.cons (.aggL qlf) (.cons (.refl _) .nil)))
 | false =>
   simp -implicitDefEqProofs (disch:=omega)[qb,c2,qf]
   subst hn
   subst hm
   obtain ⟨ix,px,lx⟩:=cx.pur2
   obtain ⟨iy,py,ly⟩:=cy.pur2
   have pL:Qq (hpf H) [x,I B',I L,Pts P,y]=some ([.sl (decide (rs.length=0)) rs.length (fl bkC rs),I B',I L,Pts P,.sl (decide (ss.length=0)) ss.length (fl shC ss)],ix++(iy++[])):=by
    simp only [Qq,px,py];rfl
   have hlt : ∀ i ∈ ix ++ (iy ++ []),i < H.length ∧ 3 ≤ i := fun i hi => by
    rw [List.append_nil,List.mem_append] at hi
    rcases hi with hi | hi
    · exact ⟨(lx i hi).2,rx i (lx i hi).1⟩
    · exact ⟨(ly i hi).2,ry i (ly i hi).1⟩
   refine qeg (id:=2) (cs:=[x,I B',I L,Pts P,y]) (cs':=[.sl (decide (rs.length=0)) rs.length (fl bkC rs),I B',I L,Pts P,.sl (decide (ss.length=0)) ss.length (fl shC ss)]) (is:=ix++(iy++[])) (ys:=[.agg [.sl (decide (rs.length=0)) rs.length (fl bkC rs),I B',I L,Pts P,.sl (decide (ss.length=0)) ss.length (fl shC ss)]]) c2 pL (fun h=>by have:=(hlt 2 h).2;omega) rfl (fun i h1 h2=>?_) ?_
   · have : i = 0 := by simp at h1; omega
     subst this
     refine .inr ⟨ix++(iy++[]),?_,fun j hj=>hj⟩
     show qU (hpf H) (.agg _)=_
     simp only [qU,pL];rfl
   have fz:=fun j=>qaA (H:=H) (o := .cells [.sl (decide (rs.length=0)) rs.length (fl bkC rs),I B',I L,Pts P,.sl (decide (ss.length=0)) ss.length (fl shC ss)]) (fun i hi=>(hlt i hi).1) l2 j
   have z2:=(fz 0).trans ((if_neg (by decide)).trans ((if_neg (fun h=>by have:=(hlt 0 h).2;omega)).trans z))
   have d2:=(fz 2).trans (if_pos rfl)
   have wk:WkL [.sl (decide (rs.length=0)) rs.length (fl bkC rs),I B',I L,Pts P,.sl (decide (ss.length=0)) ss.length (fl shC ss)] (dyC ⟨rs,B',L,P,ss⟩) := .cons .slf (.cons (.refl _) (.cons (.refl _) (.cons (.refl _) (.cons .slf .nil))))
   generalize qH H (zB (ix++(iy++[]))++[(2,HObj.cells [.sl (decide (rs.length=0)) rs.length (fl bkC rs),I B',I L,Pts P,.sl (decide (ss.length=0)) ss.length (fl shC ss)])])=H2 at *
   refine qlI rfl (.cons (.aggL wk) .nil) (qwI _ hd) ?_
   have l02:=qj z2
   have l22:=qj d2
   generalize hE:W9 ⟨rs,B',L,P,ss⟩=E at *
   generalize hF:qev ⟨rs,B',L,P,ss⟩=F at *
   simp -implicitDefEqProofs (disch:=omega)[qb,AV.scalar]
   have hO:qfw b ⟨rs,B',L,P,ss⟩ false=if E=0∧F=b then 0 else 8:=by unfold qfw;rw [hE,hF];rfl
   have bad:qfw b ⟨rs,B',L,P,ss⟩ false=8→qig b ⟨rs,B',L,P,ss⟩ false=dy0:=fun h=>by unfold qig;rw [h];rfl
   by_cases e0:E=0
   case neg =>
    have e0':(E != 0)=true:=by rw [bne_iff_ne];exact e0
    have h8:qfw b ⟨rs,B',L,P,ss⟩ false=8:=by rw [hO,if_neg (fun h=>e0 h.1)]
    rw [bad h8,h8]
    simp -implicitDefEqProofs (disch:=omega)[qb,e0',z2,qt,l02]
    refine qK (id:=0) (off:=0) rfl (qi l02) (by simp) ?_
    exact qG (r' := .tup [.agg z0,I 8]) (is:=[]) rfl (.tupL (.cons (.aggL qlf) (.cons (.refl _) .nil)))
   have e0':(E != 0)=false:=by rw [e0];rfl
   simp -implicitDefEqProofs (disch:=omega)[qb,e0',qg8]
   by_cases e1:F=b
   case neg =>
    have h8:qfw b ⟨rs,B',L,P,ss⟩ false=8:=by rw [hO,if_neg (fun h=>e1 h.2)]
    rw [bad h8,h8]
    have e1':(F==b)=false:=by rw [beq_eq_false_iff_ne];exact e1
    simp -implicitDefEqProofs (disch:=omega)[qb,e1',z2,qt,l02]
    refine qK (id:=0) (off:=0) rfl (qi l02) (by simp) ?_
    exact qG (r' := .tup [.agg z0,I 8]) (is:=[]) rfl (.tupL (.cons (.aggL qlf) (.cons (.refl _) .nil)))
   have h0:qfw b ⟨rs,B',L,P,ss⟩ false=0:=by rw [hO,if_pos ⟨e0,e1⟩]
   have hY:qig b ⟨rs,B',L,P,ss⟩ false=⟨rs,B',L,P,ss⟩:=by unfold qig;rw [if_pos h0]
   rw [h0,hY]
   have e1':(F==b)=true:=by rw [beq_iff_eq];exact e1
   simp -implicitDefEqProofs (disch:=omega)[qb,e1',d2,qf,z2,qt,l02]
   refine qK (id:=0) (off:=0) rfl (qi l02) (by simp) ?_
   exact qG (r' := .tup [.agg [.sl (decide (rs=[])) rs.length (fl bkC rs),I B',I L,Pts P,.sl (decide (ss=[])) ss.length (fl shC ss)],I 0]) (is:=[]) rfl (.tupL (.cons (.aggL (.cons .slf (.cons (.refl _) (.cons (.refl _) (.cons (.refl _) (.cons .slf .nil)))))) (.cons (.refl _) .nil)))
theorem qxr (b:List UInt8) (a:Nat) (bad:Bool) (h:a≤b.length):PtI (ptF b a bad).1:=by
 have h1:=qdd b a bad h
 have h2:=qdd b (Qp b a bad).2.1 (Qp b a bad).2.2 h1.2.2
 unfold ptF
 split
 · refine ⟨by simp only;omega,?_,?_⟩ <;> unfold i64 <;> simp only <;> omega
 · refine ⟨by simp only;omega,?_,?_⟩ <;> unfold i64 <;> simp only <;> omega
theorem qwP {α : Type} {n : Nat} {rd : Nat → Bool → α × Nat × Bool} (h : RdOK n rd) {Q : α → Prop} (hq : ∀ a bad,a ≤ n → Q (rd a bad).1) : ∀ (k a : Nat) (bad : Bool),a ≤ n → ∀ x ∈ (itF rd k a bad).1,Q x
 | 0,a,bad,_,x,hx=>by simp [itF] at hx
 | k+1,a,true,_,x,hx=>by rw [ZP] at hx;cases hx
 | k+1,a,false,ha,x,hx=>by
   rw [qj8] at hx
   rcases List.mem_cons.1 hx with rfl | hx
   · exact hq a false ha
   · exact qwP h hq k _ _ (h.le a false ha).2 x hx
theorem qwQ (b:List UInt8) (hb:b.length≤65536) (a:Nat) (bad:Bool) (h:a≤b.length):qnp (Yd b a bad).1:=by
 have h1:=qdd b a bad h
 have h2:=qc2 (qkz b) (Qp b a bad).1.toNat (Qp b a bad).2.1 (Qp b a bad).2.2 h1.2.2
 unfold Yd
 exact ⟨qwP (qkz b) (fun a bad h=>qxr b a bad h) _ _ _ h1.2.2,by omega⟩
theorem qxm (b:List UInt8) (hb:b.length≤65536) (a:Nat) (bad:Bool) (h:a≤b.length):BkI (bkF b a bad).1:=by
 have h1:=(qc8 b).le a bad h
 refine ⟨qwQ b hb _ _ h1.2,?_⟩
 show (Vg b a bad).1.length≤100000
 unfold Vg
 split
 · simp
 · simp only [List.length_take,List.length_drop];omega
theorem qxc (b:List UInt8) (a:Nat) (bad:Bool) (h:a≤b.length):i64 (Qp b a bad).1:=by
 have h1:=qdd b a bad h
 unfold i64;omega
theorem qxl (b:List UInt8) (hb:b.length≤65536) (a:Nat) (bad:Bool) (h:a≤b.length):ShI (qqB b a bad).1:=by
 have h1:=jk (bad:=bad) h
 have h2:=jk (bad:=(Qp b a bad).2.2) h1.2
 have h3:=jk (bad:=(Qp b (Qp b a bad).2.1 (Qp b a bad).2.2).2.2) h2.2
 exact ⟨qxc b _ _ h,qxc b _ _ h1.2,qxc b _ _ h2.2,qwQ b hb _ _ h3.2⟩
def qwx:AC:=match qwq with
 | .seq _ (.seq _ (.seq _ (.seq _ (.seq _ (.seq _ (.seq _ (.seq _ (.seq _ (.seq _ (.seq _ t))))))))))=>t
 | x=>x
theorem qxk {b : List UInt8} {f : Bool} (hb : b.length ≤ 65536) {rs : List Bk} {B' L : Int} {P : List Pt} {x : AV} {n k a0 : Nat} {bd : Bool} {H : List HObj} (fr : List (Nat × AV))
 (z:qr H 0=some (.cells z0)) (c1:qr H 1=some (.cells (qws f b a0 bd))) (c2:qr H 2=some (.cells [x,I B',I L,Pts P,.sl true 0 []])) (cx:AccG H x 2 n (fl bkC rs)) (hn:rs.length=n)
 (rx:∀ j,rid x=some j→3≤j) (ha:a0≤b.length) (hrs:(∀ x∈rs,BkI x)∧rs.length≤100000) (hB:i64 B') (hL:i64 L) (hP:qnp P) (hk:(k:Int)≤562949953421312) :
 AWP Tryz.prog (E1 Tryz.prog) qwx ⟨(0,zQ f b)::(2,.ref 0 0)::(4,.ref 1 0)::(5,.ref 2 0)::(6,I (k:Int))::fr,H⟩ (qh5 [(2,some (true,5)),(3,none)] (qi7 (.tup [DyV (qig b ⟨rs,B',L,P,(itF (qqB b) k a0 bd).1⟩ (itF (qqB b) k a0 bd).2.2),I (qfw b ⟨rs,B',L,P,(itF (qqB b) k a0 bd).1⟩ (itF (qqB b) k a0 bd).2.2)]))):=by
 simp -implicitDefEqProofs (disch:=omega)[qwx,qwq,qb]
 have RD:=qpu b
 have L0:=qc2 RD k a0 bd ha
 have hSI:=qwP RD (fun a bad h=>qxl b hb a bad h) k a0 bd ha
 refine qO (fun q : Nat × List Sht × AV × Nat × Bool × List HObj => ⟨[(0,zQ f b),(2,.ref 0 0),(4,.ref 1 0),(5,.ref 2 0),(6,I (k : Int)),(9,I (q.1 : Int))],q.2.2.2.2.2⟩)
  (fun q=>q.1≤k∧qr q.2.2.2.2.2 0=some (.cells z0)∧qr q.2.2.2.2.2 1=some (.cells (qws f b q.2.2.2.1 q.2.2.2.2.1))∧qr q.2.2.2.2.2 2=some (.cells [x,I B',I L,Pts P,q.2.2.1])∧AccG q.2.2.2.2.2 x 2 n (fl bkC rs)∧AccG q.2.2.2.2.2 q.2.2.1 4 q.1 (fl shC q.2.1)∧q.2.1.length=q.1∧(∀ j,rid q.2.2.1=some j→3≤j∧rid x≠some j)∧q.2.2.2.1≤b.length∧itF (qqB b) k a0 bd=(q.2.1++(itF (qqB b) (k - q.1) q.2.2.2.1 q.2.2.2.2.1).1,(itF (qqB b) (k - q.1) q.2.2.2.1 q.2.2.2.2.1).2))
  (fun q=>k - q.1) (0,[],.sl true 0 [],a0,bd,H) ⟨Nat.zero_le _,z,c1,c2,cx,.nil,rfl,by simp [rid],ha,rfl⟩ rfl ?_
 rintro ⟨i,ss,y,a,bad,H2⟩ ⟨d0,d1,d2,d3,d4,d5,d6,d7,d8,d9⟩
 simp only at d0 d1 d2 d3 d4 d5 d6 d7 d8 d9 ⊢
 have l0:=qj d1
 have l1:=qj d2
 have l2:=qj d3
 have L1:=qc2 RD (k - i) a bad d8
 have hss:ss.length≤b.length+1:=by
  have:=L0.2.2
  rw [d9] at this
  simp only [List.length_append] at this
  omega
 refine qW fun K0 hK0=>?_
 simp (disch:=omega)[qb]
 by_cases hi:i<k
 case neg =>
  have e0:k - i=0:=by omega
  rw [e0] at d9
  rw [d9] at hSI
  simp only [itF,List.append_nil] at hSI
  rw [d9] at hK0
  simp only [itF,List.append_nil] at hK0
  have t:=qxg hb (rs:=rs) (ss:=ss) (B':=B') (L:=L) (P:=P) (bad:=bad) (a:=a) [(6,I (k:Int)),(9,I (i:Int)),(86,B false)] d1 d2 d3 d4 d5 hn d6 rx (fun j hj=>(d7 j hj).1) ⟨hrs.1,hrs.2,hB,hL,hP,hSI,by simp only;omega⟩
  simp -implicitDefEqProofs (disch:=omega)[qb,qwu,qwq,d2,qf] at t
  subst hK0
  simp -implicitDefEqProofs (disch:=omega)[qb,hi,d2,qf]
  exact t
 cases bad with
 | true =>
   rw [ZP] at d9
   rw [d9] at hSI hK0
   simp only [List.append_nil] at hSI hK0
   have t:=qxg hb (rs:=rs) (ss:=ss) (B':=B') (L:=L) (P:=P) (bad:=true) (a:=a) [(6,I (k:Int)),(9,I (i:Int)),(86,B false)] d1 d2 d3 d4 d5 hn d6 rx (fun j hj=>(d7 j hj).1) ⟨hrs.1,hrs.2,hB,hL,hP,hSI,by simp only;omega⟩
   simp -implicitDefEqProofs (disch:=omega)[qb,qwu,qwq,d2,qf] at t
   subst hK0
   simp -implicitDefEqProofs (disch:=omega)[qb,hi,d2,qf]
   exact t
 | false =>
 have ix:((i:Int)+1)=((i+1:Nat):Int):=by omega
 rw [show k - i=(k - (i+1))+1 by omega,qj8] at d9
 rw [List.append_cons] at d9
 simp -implicitDefEqProofs (disch:=omega)[qb,hi,d2,qf]
 have hS:qqB b a false=(⟨(Qp b a false).1,(Qp b (Qp b a false).2.1 (Qp b a false).2.2).1,(Qp b (Qp b (Qp b a false).2.1 (Qp b a false).2.2).2.1 (Qp b (Qp b a false).2.1 (Qp b a false).2.2).2.2).1,(Yd b (Qp b (Qp b (Qp b a false).2.1 (Qp b a false).2.2).2.1 (Qp b (Qp b a false).2.1 (Qp b a false).2.2).2.2).2.1 (Qp b (Qp b (Qp b a false).2.1 (Qp b a false).2.2).2.1 (Qp b (Qp b a false).2.1 (Qp b a false).2.2).2.2).2.2).1⟩,(Yd b (Qp b (Qp b (Qp b a false).2.1 (Qp b a false).2.2).2.1 (Qp b (Qp b a false).2.1 (Qp b a false).2.2).2.2).2.1 (Qp b (Qp b (Qp b a false).2.1 (Qp b a false).2.2).2.1 (Qp b (Qp b a false).2.1 (Qp b a false).2.2).2.2).2.2).2):=rfl
 rw [hS] at d9
 clear hS
 refine qwr d2 d8 (by omega) fun H3 e1 e2 e3=>?_
 have R1:=qdd b a false d8
 generalize Qp b a false=N1 at *
 obtain ⟨n1,a1,b1⟩:=N1
 simp only at e1 R1 d9
 have k4:∀ j,j<H2.length→j≠1→qr (H3++[HObj.cells [I n1,I 0,I 0,.sl true 0 []]]) j=qr H2 j:=fun j h1 h2=>(qk (by omega)).trans (e2 j h2)
 have f4:qr (H3++[HObj.cells [I n1,I 0,I 0,.sl true 0 []]]) 1=some (.cells (qws f b a1 b1)):=(qk (by omega)).trans e1
 have o4:qr (H3++[HObj.cells [I n1,I 0,I 0,.sl true 0 []]]) H3.length=some (.cells [I n1,I 0,I 0,.sl true 0 []]):=Qn
 have l4:(H3++[HObj.cells [I n1,I 0,I 0,.sl true 0 []]]).length=H3.length+1:=by simp
 simp (disch:=omega)[qb]
 generalize H3++[HObj.cells [I n1,I 0,I 0,.sl true 0 []]]=H4 at *
 generalize H3.length=L3 at *
 refine qwr f4 R1.2.2 (by omega) fun H5 g1 g2 g3=>?_
 have R2:=qdd b a1 b1 R1.2.2
 generalize Qp b a1 b1=N2 at *
 obtain ⟨n2,a2,b2⟩:=N2
 simp only at g1 R2 d9
 have o5:=(g2 L3 (by omega)).trans o4
 have p5:L3<H5.length:=by omega
 simp -implicitDefEqProofs (disch:=omega)[qb,o5,qt,p5]
 have k6:∀ j,j<H2.length→j≠1→qr (H5.set L3 (HObj.cells [I n1,I n2,I 0,.sl true 0 []])) j=qr H2 j:=fun j h1 h2=>(qh (by omega)).trans ((g2 j h2).trans (k4 j h1 h2))
 have f6:qr (H5.set L3 (HObj.cells [I n1,I n2,I 0,.sl true 0 []])) 1=some (.cells (qws f b a2 b2)):=(qh (by omega)).trans g1
 have o6:qr (H5.set L3 (HObj.cells [I n1,I n2,I 0,.sl true 0 []])) L3=some (.cells [I n1,I n2,I 0,.sl true 0 []]):=qi p5
 have l6:(H5.set L3 (HObj.cells [I n1,I n2,I 0,.sl true 0 []])).length=L3+1:=by rw [List.length_set];omega
 generalize H5.set L3 (HObj.cells [I n1,I n2,I 0,.sl true 0 []])=H6 at *
 refine qwr f6 R2.2.2 (by omega) fun H7 m1 m2 m3=>?_
 have R3:=qdd b a2 b2 R2.2.2
 generalize Qp b a2 b2=N3 at *
 obtain ⟨n3,a3,b3⟩:=N3
 simp only at m1 R3 d9
 have o7:=(m2 L3 (by omega)).trans o6
 have p7:L3<H7.length:=by omega
 simp -implicitDefEqProofs (disch:=omega)[qb,o7,qt,p7]
 have k8:∀ j,j<H2.length→j≠1→qr (H7.set L3 (HObj.cells [I n1,I n2,I n3,.sl true 0 []])) j=qr H2 j:=fun j h1 h2=>(qh (by omega)).trans ((m2 j h2).trans (k6 j h1 h2))
 have f8:qr (H7.set L3 (HObj.cells [I n1,I n2,I n3,.sl true 0 []])) 1=some (.cells (qws f b a3 b3)):=(qh (by omega)).trans m1
 have o8:qr (H7.set L3 (HObj.cells [I n1,I n2,I n3,.sl true 0 []])) L3=some (.cells [I n1,I n2,I n3,.sl true 0 []]):=qi p7
 have l8:(H7.set L3 (HObj.cells [I n1,I n2,I n3,.sl true 0 []])).length=L3+1:=by rw [List.length_set];omega
 generalize H7.set L3 (HObj.cells [I n1,I n2,I n3,.sl true 0 []])=H8 at *
 refine qwE f8 R3.2.2 (by omega) fun H9 q1 q2 q3=>?_
 have R4:=(VM b).le a3 b3 R3.2.2
 generalize Yd b a3 b3=N4 at *
 obtain ⟨ps,a4,b4⟩:=N4
 simp only at q1 R4 d9
 have o9:=(q2 L3 (by omega) (by omega)).trans o8
 have p9:L3<H9.length:=by omega
 simp -implicitDefEqProofs (disch:=omega)[qb,o9,qt,p9]
 have k10:∀ j,j<H2.length→j≠1→qr (H9.set L3 (HObj.cells [I n1,I n2,I n3,Pts ps])) j=qr H2 j:=fun j h1 h2=>(qh (by omega)).trans ((q2 j (by omega) h2).trans (k8 j h1 h2))
 have f10:qr (H9.set L3 (HObj.cells [I n1,I n2,I n3,Pts ps])) 1=some (.cells (qws f b a4 b4)):=(qh (by omega)).trans q1
 have o10:qr (H9.set L3 (HObj.cells [I n1,I n2,I n3,Pts ps])) L3=some (.cells [I n1,I n2,I n3,Pts ps]):=qi p9
 have l10:(H9.set L3 (HObj.cells [I n1,I n2,I n3,Pts ps])).length=H9.length:=by rw [List.length_set]
 generalize H9.set L3 (HObj.cells [I n1,I n2,I n3,Pts ps])=H10 at *
 have z10:=(k10 0 l0 (by decide)).trans d1
 have y10:=(k10 2 l2 (by decide)).trans d3
 have AX:=d4.mono (H:=H10) fun j hj=>k10 j (d4.lt hj) (by have:=rx j hj;omega)
 have AY:=d5.mono (H:=H10) fun j hj=>k10 j (d5.lt hj) (by have:=(d7 j hj).1;omega)
 simp -implicitDefEqProofs (disch:=omega)[qb,o10,y10,qf]
 refine zq (ys:=[.agg (shC ⟨n1,n2,n3,ps⟩)]) (ids:=[]) rfl rfl ?_
 simp -implicitDefEqProofs (disch:=omega)[qb,zP,shC]
 refine Q5 (ys:=shC ⟨n1,n2,n3,ps⟩) AY (by omega) (by decide) rfl rfl fun vs w1 w2 w3=>?_
 have y11:=(w1 2 (by omega) (fun h=>by have:=(d7 2 h).1;omega)).trans y10
 have z11:=(w1 0 (by omega) (fun h=>by have:=(d7 0 h).1;omega)).trans z10
 have f11:=(w1 1 (by omega) (fun h=>by have:=(d7 1 h).1;omega)).trans f10
 have AX11:=AX.mono (H:=qH H10 vs) fun j hj=>w1 j (AX.lt hj) (fun h=>(d7 j h).2 hj)
 have p11:2<(qH H10 vs).length:=by omega
 simp (disch:=omega)[qb]
 simp (disch:=omega)[qb,y11,qt,p11]
 generalize qH H10 vs=H11 at *
 rw [hK0]
 refine qz (i+1,ss++[⟨n1,n2,n3,ps⟩],.ms H10.length 0 (i+1) 4,a4,b4,H11.set 2 (.cells [x,I B',I L,Pts P,.ms H10.length 0 (i+1) 4])) ⟨by simp only;omega,(qh (by decide)).trans z11,(qh (by decide)).trans f11,qi p11,AX11.mono fun j hj=>qh (by have:=rx j hj;omega),?_,by simp only [List.length_append,List.length_cons,List.length_nil];omega,fun j hj=>?_,by simp only;omega,d9⟩ (by simp only;omega) (by simp only [ix])
 · rw [jr]
   exact AccG.mono w3 fun j hj=>qh (by simp only [rid] at hj;injection hj;omega)
 · simp only [rid] at hj
   injection hj with hj
   subst hj
   exact ⟨by omega,fun h=>by have:=AX.lt h;omega⟩
def qwt:AC:=match qwq with
 | .seq _ (.seq _ (.seq _ (.seq _ (.seq _ (.seq _ (.seq _ t))))))=>t
 | x=>x
theorem qxf {b : List UInt8} {f : Bool} (hb : b.length ≤ 65536) {rs : List Bk} {x : AV} {n a0 : Nat} {bd : Bool} {H : List HObj} (fr : List (Nat × AV))
 (z:qr H 0=some (.cells z0)) (c1:qr H 1=some (.cells (qws f b a0 bd))) (c2:qr H 2=some (.cells [x,I 0,I 0,.sl true 0 [],.sl true 0 []])) (cx:AccG H x 2 n (fl bkC rs)) (hn:rs.length=n)
 (rx:∀ j,rid x=some j→3≤j) (ha:a0≤b.length) (hrs:(∀ x∈rs,BkI x)∧rs.length≤100000)
 (D : Dy × Bool) (hD : D = (
  let B:=Qp b a0 bd
  let L:=Qp b B.2.1 B.2.2
  let P:=Yd b L.2.1 L.2.2
  let M:=Qp b P.2.1 P.2.2
  let S:=itF (qqB b) M.1.toNat M.2.1 M.2.2
  (⟨rs,B.1,L.1,P.1,S.1⟩,S.2.2))) :
 AWP Tryz.prog (E1 Tryz.prog) qwt ⟨(0,zQ f b)::(2,.ref 0 0)::(4,.ref 1 0)::(5,.ref 2 0)::fr,H⟩ (qh5 [(2,some (true,5)),(3,none)] (qi7 (.tup [DyV (qig b D.1 D.2),I (qfw b D.1 D.2)]))):=by
 have l0:=qj z
 have l1:=qj c1
 have l2:=qj c2
 simp (disch:=omega)[qwt,qwq,qb]
 refine qwr c1 ha (by omega) fun H3 e1 e2 e3=>?_
 have R1:=qdd b a0 bd ha
 have i1:=qxc b a0 bd ha
 generalize Qp b a0 bd=N1 at *
 obtain ⟨n1,a1,b1⟩:=N1
 simp only at e1 R1 i1 hD
 have o3:=(e2 2 (by decide)).trans c2
 have p3:2<H3.length:=by omega
 simp (disch:=omega)[qb,o3,qt,p3]
 have k4:∀ j,j<H.length→j≠1→j≠2→qr (H3.set 2 (HObj.cells [x,I n1,I 0,.sl true 0 [],.sl true 0 []])) j=qr H j:=fun j h1 h2 h3=>(qh (Ne.symm h3)).trans (e2 j h2)
 have f4:qr (H3.set 2 (HObj.cells [x,I n1,I 0,.sl true 0 [],.sl true 0 []])) 1=some (.cells (qws f b a1 b1)):=(qh (by decide)).trans e1
 have o4:qr (H3.set 2 (HObj.cells [x,I n1,I 0,.sl true 0 [],.sl true 0 []])) 2=some (.cells [x,I n1,I 0,.sl true 0 [],.sl true 0 []]):=qi p3
 have l4:(H3.set 2 (HObj.cells [x,I n1,I 0,.sl true 0 [],.sl true 0 []])).length=H.length:=by rw [List.length_set];omega
 generalize H3.set 2 (HObj.cells [x,I n1,I 0,.sl true 0 [],.sl true 0 []])=H4 at *
 refine qwr f4 R1.2.2 (by omega) fun H5 g1 g2 g3=>?_
 have R2:=qdd b a1 b1 R1.2.2
 have i2:=qxc b a1 b1 R1.2.2
 generalize Qp b a1 b1=N2 at *
 obtain ⟨n2,a2,b2⟩:=N2
 simp only at g1 R2 i2 hD
 have o5:=(g2 2 (by decide)).trans o4
 have p5:2<H5.length:=by omega
 simp (disch:=omega)[qb,o5,qt,p5]
 have k6:∀ j,j<H.length→j≠1→j≠2→qr (H5.set 2 (HObj.cells [x,I n1,I n2,.sl true 0 [],.sl true 0 []])) j=qr H j:=fun j h1 h2 h3=>(qh (Ne.symm h3)).trans ((g2 j h2).trans (k4 j h1 h2 h3))
 have f6:qr (H5.set 2 (HObj.cells [x,I n1,I n2,.sl true 0 [],.sl true 0 []])) 1=some (.cells (qws f b a2 b2)):=(qh (by decide)).trans g1
 have o6:qr (H5.set 2 (HObj.cells [x,I n1,I n2,.sl true 0 [],.sl true 0 []])) 2=some (.cells [x,I n1,I n2,.sl true 0 [],.sl true 0 []]):=qi p5
 have l6:(H5.set 2 (HObj.cells [x,I n1,I n2,.sl true 0 [],.sl true 0 []])).length=H.length:=by rw [List.length_set];omega
 generalize H5.set 2 (HObj.cells [x,I n1,I n2,.sl true 0 [],.sl true 0 []])=H6 at *
 refine qwE f6 R2.2.2 (by omega) fun H7 q1 q2 q3=>?_
 have R3:=(VM b).le a2 b2 R2.2.2
 have iP:=qwQ b hb a2 b2 R2.2.2
 generalize Yd b a2 b2=N3 at *
 obtain ⟨ps,a3,b3⟩:=N3
 simp only at q1 R3 iP hD
 have o7:=(q2 2 (by omega) (by decide)).trans o6
 have p7:2<H7.length:=by omega
 simp (disch:=omega)[qb,o7,qt,p7]
 have k8:∀ j,j<H.length→j≠1→j≠2→qr (H7.set 2 (HObj.cells [x,I n1,I n2,Pts ps,.sl true 0 []])) j=qr H j:=fun j h1 h2 h3=>(qh (Ne.symm h3)).trans ((q2 j (by omega) h2).trans (k6 j h1 h2 h3))
 have f8:qr (H7.set 2 (HObj.cells [x,I n1,I n2,Pts ps,.sl true 0 []])) 1=some (.cells (qws f b a3 b3)):=(qh (by decide)).trans q1
 have o8:qr (H7.set 2 (HObj.cells [x,I n1,I n2,Pts ps,.sl true 0 []])) 2=some (.cells [x,I n1,I n2,Pts ps,.sl true 0 []]):=qi p7
 have l8:(H7.set 2 (HObj.cells [x,I n1,I n2,Pts ps,.sl true 0 []])).length=H7.length:=by rw [List.length_set]
 generalize H7.set 2 (HObj.cells [x,I n1,I n2,Pts ps,.sl true 0 []])=H8 at *
 refine qwr f8 R3.2 (by omega) fun H9 m1 m2 m3=>?_
 have R4:=qdd b a3 b3 R3.2
 generalize Qp b a3 b3=N4 at *
 obtain ⟨n4,a4,b4⟩:=N4
 simp only at m1 R4 hD
 obtain ⟨k,rfl⟩:∃ k:Nat,n4=k:=⟨n4.toNat,by omega⟩
 rw [Int.toNat_natCast] at hD
 have o9:=(m2 2 (by decide)).trans o8
 have z9:=(m2 0 (by decide)).trans ((k8 0 l0 (by decide) (by decide)).trans z)
 have AX:=cx.mono (H:=H9) fun j hj=>(m2 j (by have:=rx j hj;omega)).trans (k8 j (cx.lt hj) (by have:=rx j hj;omega) (by have:=rx j hj;omega))
 have t:=qxk (f:=f) hb (k:=k) [] z9 m1 o9 AX hn rx R4.2.2 hrs i1 i2 iP (by omega)
 simp (disch:=omega)[qb,qwx,qwq] at t
 subst hD
 simp (disch:=omega)[qb]
 exact t
def qww:AC:=match qwq with
 | .seq _ (.seq _ (.seq _ (.seq _ (.seq _ t))))=>t
 | x=>x
theorem qxj {b : List UInt8} {f : Bool} (hb : b.length ≤ 65536) (fr : List (Nat × AV)) :
 AWP Tryz.prog (E1 Tryz.prog) qww ⟨(0,zQ f b)::(2,.ref 0 0)::(4,.ref 1 0)::(5,.ref 2 0)::fr,[.cells z0,.cells (qws f b 0 false),.cells z0]⟩ (qh5 [(2,some (true,5)),(3,none)] (qi7 (.tup [DyV (qig b (qfP b).1 (qfP b).2),I (qfw b (qfP b).1 (qfP b).2)]))):=by
 have hD:qfP b=qfP b:=rfl
 conv at hD=>rhs;unfold qfP
 dsimp only at hD
 simp (disch:=omega)[qww,qwq,qb]
 refine qwr (g:=f) (b:=b) (at':=0) (bad:=false) rfl (Nat.zero_le _) (by omega) fun H1 k1 k2 k3=>?_
 have R:=qdd b 0 false (Nat.zero_le _)
 generalize Qp b 0 false=N at *
 obtain ⟨n,a0,bd⟩:=N
 simp only at k1 R hD
 obtain ⟨m,rfl⟩:∃ m:Nat,n=m:=⟨n.toNat,by omega⟩
 rw [Int.toNat_natCast] at hD
 have z1:qr H1 0=some (.cells z0):=(k2 0 (by decide)).trans rfl
 have y1:qr H1 2=some (.cells z0):=(k2 2 (by decide)).trans rfl
 generalize hDD:qfP b=D at *
 simp (disch:=omega)[qb]
 have RD:=qqQ b
 have L0:=qc2 RD m a0 bd R.2.2
 have hBI:=qwP RD (fun a bad h=>qxm b hb a bad h) m a0 bd R.2.2
 refine qO (fun q : Nat × List Bk × AV × Nat × Bool × List HObj => ⟨[(0,zQ f b),(2,.ref 0 0),(4,.ref 1 0),(5,.ref 2 0),(6,I (m : Int)),(7,I (q.1 : Int))],q.2.2.2.2.2⟩)
  (fun q=>q.1≤m∧qr q.2.2.2.2.2 0=some (.cells z0)∧qr q.2.2.2.2.2 1=some (.cells (qws f b q.2.2.2.1 q.2.2.2.2.1))∧qr q.2.2.2.2.2 2=some (.cells [q.2.2.1,I 0,I 0,.sl true 0 [],.sl true 0 []])∧AccG q.2.2.2.2.2 q.2.2.1 2 q.1 (fl bkC q.2.1)∧q.2.1.length=q.1∧(∀ j,rid q.2.2.1=some j→3≤j)∧q.2.2.2.1≤b.length∧itF (bkF b) m a0 bd=(q.2.1++(itF (bkF b) (m - q.1) q.2.2.2.1 q.2.2.2.2.1).1,(itF (bkF b) (m - q.1) q.2.2.2.1 q.2.2.2.2.1).2))
  (fun q=>m - q.1) (0,[],.sl true 0 [],a0,bd,H1) ⟨Nat.zero_le _,z1,k1,y1,.nil,rfl,by simp [rid],R.2.2,rfl⟩ rfl ?_
 rintro ⟨i,rs,x,a,bad,H2⟩ ⟨d0,d1,d2,d3,d5,d6,d7,d8,d9⟩
 simp only at d0 d1 d2 d3 d5 d6 d7 d8 d9 ⊢
 have l0:=qj d1
 have l1:=qj d2
 have l2:=qj d3
 have hrs:rs.length≤b.length+1:=by
  have:=L0.2.2
  rw [d9] at this
  simp only [List.length_append] at this
  omega
 refine qW fun K0 hK0=>?_
 simp (disch:=omega)[qb]
 by_cases hi:i<m
 case neg =>
  have e0:m - i=0:=by omega
  rw [e0] at d9
  rw [d9] at hBI hD
  simp only [itF,List.append_nil] at hBI hD
  have t:=qxf (f:=f) hb (rs:=rs) [(6,I (m:Int)),(7,I (i:Int)),(51,B false)] d1 d2 d3 d5 d6 d7 d8 ⟨hBI,by omega⟩ D hD
  simp (disch:=omega)[qb,qwt,qwq] at t
  subst hK0
  simp (disch:=omega)[qb,hi,d2,qf]
  exact t
 cases bad with
 | true =>
   rw [ZP] at d9
   rw [d9] at hBI hD
   simp only [List.append_nil] at hBI hD
   have t:=qxf (f:=f) hb (rs:=rs) [(6,I (m:Int)),(7,I (i:Int)),(51,B false)] d1 d2 d3 d5 d6 d7 d8 ⟨hBI,by omega⟩ D hD
   simp (disch:=omega)[qb,qwt,qwq] at t
   subst hK0
   simp (disch:=omega)[qb,hi,d2,qf]
   exact t
 | false =>
 have ix:((i:Int)+1)=((i+1:Nat):Int):=by omega
 rw [show m - i=(m - (i+1))+1 by omega,qj8] at d9
 rw [List.append_cons] at d9
 simp (disch:=omega)[qb,hi,d2,qf]
 have hS:bkF b a false=(((Vg b a false).1,(Yd b (Vg b a false).2.1 (Vg b a false).2.2).1),(Yd b (Vg b a false).2.1 (Vg b a false).2.2).2):=rfl
 rw [hS] at d9
 clear hS
 refine qxb d2 d8 (by omega) fun H3 e1 e2 e3=>?_
 have R1:=(qc8 b).le a false d8
 generalize Vg b a false=N1 at *
 obtain ⟨nm,a1,b1⟩:=N1
 simp only at e1 R1 d9
 have k4:∀ j,j<H2.length→j≠1→qr (H3++[HObj.cells [S nm,.sl true 0 []]]) j=qr H2 j:=fun j h1 h2=>(qk (by omega)).trans (e2 j h2)
 have f4:qr (H3++[HObj.cells [S nm,.sl true 0 []]]) 1=some (.cells (qws f b a1 b1)):=(qk (by omega)).trans e1
 have o4:qr (H3++[HObj.cells [S nm,.sl true 0 []]]) H3.length=some (.cells [S nm,.sl true 0 []]):=Qn
 have l4:(H3++[HObj.cells [S nm,.sl true 0 []]]).length=H3.length+1:=by simp
 simp (disch:=omega)[qb]
 generalize H3++[HObj.cells [S nm,.sl true 0 []]]=H4 at *
 generalize H3.length=L3 at *
 refine qwE f4 R1.2 (by omega) fun H9 q1 q2 q3=>?_
 have R4:=(VM b).le a1 b1 R1.2
 generalize Yd b a1 b1=N4 at *
 obtain ⟨ps,a4,b4⟩:=N4
 simp only at q1 R4 d9
 have o9:=(q2 L3 (by omega) (by omega)).trans o4
 have p9:L3<H9.length:=by omega
 simp (disch:=omega)[qb,o9,qt,p9]
 have k10:∀ j,j<H2.length→j≠1→qr (H9.set L3 (HObj.cells [S nm,Pts ps])) j=qr H2 j:=fun j h1 h2=>(qh (by omega)).trans ((q2 j (by omega) h2).trans (k4 j h1 h2))
 have f10:qr (H9.set L3 (HObj.cells [S nm,Pts ps])) 1=some (.cells (qws f b a4 b4)):=(qh (by omega)).trans q1
 have o10:qr (H9.set L3 (HObj.cells [S nm,Pts ps])) L3=some (.cells [S nm,Pts ps]):=qi p9
 have l10:(H9.set L3 (HObj.cells [S nm,Pts ps])).length=H9.length:=by rw [List.length_set]
 generalize H9.set L3 (HObj.cells [S nm,Pts ps])=H10 at *
 have z10:=(k10 0 l0 (by decide)).trans d1
 have y10:=(k10 2 l2 (by decide)).trans d3
 have AY:=d5.mono (H:=H10) fun j hj=>k10 j (d5.lt hj) (by have:=d7 j hj;omega)
 simp (disch:=omega)[qb,o10,y10,qf]
 refine zq (ys:=[.agg (bkC (nm,ps))]) (ids:=[]) rfl rfl ?_
 simp (disch:=omega)[qb,zP,bkC]
 refine Q5 (ys:=bkC (nm,ps)) AY (by omega) (by decide) rfl rfl fun vs w1 w2 w3=>?_
 have y11:=(w1 2 (by omega) (fun h=>by have:=d7 2 h;omega)).trans y10
 have z11:=(w1 0 (by omega) (fun h=>by have:=d7 0 h;omega)).trans z10
 have f11:=(w1 1 (by omega) (fun h=>by have:=d7 1 h;omega)).trans f10
 have p11:2<(qH H10 vs).length:=by omega
 simp (disch:=omega)[qb]
 simp (disch:=omega)[qb,y11,qt,p11]
 generalize qH H10 vs=H11 at *
 rw [hK0]
 refine qz (i+1,rs++[(nm,ps)],.ms H10.length 0 (i+1) 2,a4,b4,H11.set 2 (.cells [.ms H10.length 0 (i+1) 2,I 0,I 0,.sl true 0 [],.sl true 0 []])) ⟨by simp only;omega,(qh (by decide)).trans z11,(qh (by decide)).trans f11,qi p11,?_,by simp only [List.length_append,List.length_cons,List.length_nil];omega,fun j hj=>?_,by simp only;omega,d9⟩ (by simp only;omega) (by simp only [ix])
 · rw [jr]
   exact AccG.mono w3 fun j hj=>qh (by simp only [rid] at hj;injection hj;omega)
 · simp only [rid] at hj
   injection hj with hj
   subst hj
   omega
theorem qw1 (f:Bool) (b:List UInt8) (hb:b.length≤1000000):qC Tryz.prog 49 [zQ f b] (.tup [DyV (qoi b),I (qie b)]):=by
 refine zO (zj Tryz.func49 qwN qwT (by show 1≤_;decide) ?_)
 simp (disch:=omega)[qwq,qb]
 have z7 : ∀ e : Int,qie b = e → e ≠ 0 → qh5 [(2,some (true,5)),(3,none)] (qi7 (.tup [DyV (qoi b),I (qie b)])) .ret ⟨[(2,.ref 0 0),(3,I e)],[.cells z0]⟩ := fun e h1 h2 => by
  have hV:qoi b=dy0:=by unfold qoi;rw [if_neg (by rw [h1];exact h2)]
  rw [h1,hV]
  refine qK (id:=0) (off:=0) rfl rfl (by simp) ?_
  exact qG (r' := .tup [.agg z0,I e]) (is:=[]) rfl (.tupL (.cons (.aggL qlf) (.cons (.refl _) .nil)))
 by_cases h1:b.length≤65536
 case neg =>
  have h1':(65536<(b.length:Int))=True:=by simp only [eq_iff_iff,iff_true];omega
  have hE:qie b=7:=by unfold qie;rw [if_pos (by omega)]
  simp (disch:=omega)[qb,h1']
  exact z7 7 hE (by decide)
 have h1':(65536<(b.length:Int))=False:=by simp only [eq_iff_iff,iff_false];omega
 simp (disch:=omega)[qb,h1']
 by_cases h0:0<b.length
 case neg =>
  have h0':((b.length:Int)==0)=true:=by rw [beq_iff_eq];omega
  have hE:qie b=14:=by unfold qie;rw [if_neg (by omega),if_pos (.inl (List.eq_nil_of_length_eq_zero (by omega)))]
  simp (disch:=omega)[qb,h0',zW,zJ,zE]
  exact z7 14 hE (by decide)
 have h0':((b.length:Int)==0)=false:=by rw [beq_eq_false_iff_ne];omega
 have hlast:=qmz h0
 have hx:((b.length:Int) - 1)=((b.length - 1:Nat):Int):=by omega
 have eD:(qw b).take (b.length - 1)=qw b.dropLast:=by rw [qfG,List.dropLast_eq_take]
 have hS:=qwS f b.dropLast (by rw [List.length_dropLast];omega)
 simp (disch:=omega)[qb,h0',zW,zJ,zE,hx]
 refine ⟨qZ b,?_⟩
 have eB:AV.sl (f&&decide (b.length - 1=b.length)) (b.length - 1) (List.take (b.length - 1) (qw b))=zQ (f&&decide (b.length - 1=b.length)) b.dropLast:=by
  show _=AV.sl _ b.dropLast.length _
  rw [eD,List.length_dropLast]
 rw [eB]
 have hS:=qwS (f&&decide (b.length - 1=b.length)) b.dropLast (by rw [List.length_dropLast];omega)
 refine qQ (ys:=[zQ (f&&decide (b.length - 1=b.length)) b.dropLast]) (ids:=[]) rfl hS ?_
 have hl1:b.length - 1<b.length:=by omega
 have hx2:¬ (b.length:Int)≤(b.length:Int) - 1:=by omega
 have nb:=qvw hl1
 simp (disch:=omega)[qb,AV.scalar,zW,zJ,zE,hx,nb,qZ]
 refine ⟨hl1,?_⟩
 have hne:b≠[]:=fun e=>by rw [e] at h0;exact absurd h0 (by decide)
 by_cases hs:(qgF b.dropLast:Int)=(b[b.length - 1].toNat:Int)
 case neg =>
  have hs':((qgF b.dropLast:Int) != (b[b.length - 1].toNat:Int))=true:=by rw [bne_iff_ne];exact hs
  have hE:qie b=14:=by unfold qie;rw [if_neg (by omega),if_pos (.inr (by rw [hlast];exact hs))]
  simp (disch:=omega)[qb,hs']
  exact z7 14 hE (by decide)
 have hs':((qgF b.dropLast:Int) != (b[b.length - 1].toNat:Int))=false:=by rw [hs];simp
 have hE:qie b=qfw b (qfP b).1 (qfP b).2:=by
  unfold qie
  rw [if_neg (by omega),if_neg]
  rintro (h | h)
  · exact hne h
  · rw [hlast] at h;exact h hs
 have hV:qoi b=qig b (qfP b).1 (qfP b).2:=by unfold qoi qig;rw [hE]
 have t:=qxj (f:=f) h1 []
 rw [←hE,←hV] at t
 clear z7
 simp (disch:=omega)[qb,qww,qwq] at t
 simp (disch:=omega)[qb,hs']
 exact t
theorem qxi (b:List UInt8):DyI (qoi b):=by
 unfold qoi
 split
 · rename_i h
   unfold qie at h
   split at h
   · exact absurd h (by decide)
   split at h
   · exact absurd h (by decide)
   unfold qfw at h
   split at h
   · exact absurd h (by decide)
   split at h
   · rename_i h2
     have h3:=h2.1
     unfold W9 at h3
     split at h3
     · rename_i hd
       exact (jw.1 hd).w.i
     · exact absurd h3 (by decide)
   · exact absurd h (by decide)
 · exact day0_V.w.i
theorem qwJ (d:Dy) (hd:DyT d) (s:List UInt8):qC Tryz.prog 9 [DyV d,zQ false s] (B true):=by
 refine qT (walk Tryz.func9 qwG (by kernel_rfl) (by show 2≤_;decide) ?_)
 simp (disch:=omega)[qwD,qb,qf,dyC]
 have ed:[Bks d.rc,I d.bath,I d.laid,Pts d.pat,Shs d.sh]=dyC d:=rfl
 simp only [ed]
 refine qg (ys:=[DyV d]) (ids:=[]) rfl (qw7 d) ?_
 simp (disch:=omega)[qb,AV.scalar]
 cases hg:qjT d with
 | true =>
   simp (disch:=omega)[qb,AV.scalar]
   refine qg (ys:=[]) (ids:=[]) rfl qqz ?_
   simp (disch:=omega)[qb,AV.scalar]
 | false =>
 have dI:=hd.i hg
 by_cases g1:(4000<s.length∧s.length≤65536)∨65546<s.length
 case pos =>
  by_cases h1:4000<s.length
  case neg=>omega
  have e1:(4000<(s.length:Int))=True:=by simp only [eq_iff_iff,iff_true];omega
  by_cases h2:s.length≤65536
  case pos =>
   have e2:((s.length:Int)≤65536)=True:=by simp only [eq_iff_iff,iff_true];omega
   simp (disch:=omega)[qb,e1,e2]
   refine qg (ys:=[]) (ids:=[]) rfl qqz ?_
   simp (disch:=omega)[qb,AV.scalar]
  have e2:((s.length:Int)≤65536)=False:=by simp only [eq_iff_iff,iff_false];omega
  have e3:(65546<(s.length:Int))=True:=by simp only [eq_iff_iff,iff_true];omega
  simp (disch:=omega)[qb,e1,e2,e3]
  refine qg (ys:=[]) (ids:=[]) rfl qqz ?_
  simp (disch:=omega)[qb,AV.scalar]
 have hs:s.length≤1000000:=by omega
 have e3:(65546<(s.length:Int))=False:=by simp only [eq_iff_iff,iff_false];omega
 have key:∀ {P:Prop},((4000<(s.length:Int))=True→((s.length:Int)≤65536)=False→P)→((4000<(s.length:Int))=False→(0:Nat)=0→P)→P:=by
  intro P a b
  by_cases h1:4000<s.length
  · exact a (by simp only [eq_iff_iff,iff_true];omega) (by simp only [eq_iff_iff,iff_false];omega)
  · exact b (by simp only [eq_iff_iff,iff_false];omega) rfl
 have edd:[Bks (qoi s).rc,I (qoi s).bath,I (qoi s).laid,Pts (qoi s).pat,Shs (qoi s).sh]=dyC (qoi s):=rfl
 have hsd:decide (qoi s=qoi s)=true:=decide_eq_true rfl
 have hb:(qev d==qev d)=true:=by rw [beq_iff_eq]
 refine key (fun e1 e2=>?_) (fun e1 e2=>?_)
 all_goals
  simp (disch:=omega)[qb,e1,e2,e3,qf,dyC]
  simp only [ed]
  refine qg (ys:=[DyV d]) (ids:=[]) rfl (qaj d dI) ?_
  simp (disch:=omega)[qb,AV.scalar,qf,dyC]
  simp only [ed]
  refine qg (ys:=[DyV d]) (ids:=[]) rfl (qwI d dI) ?_
  simp (disch:=omega)[qb,AV.scalar]
  refine qg (ys:=[zQ false s]) (ids:=[]) rfl (qge false s hs) ?_
  simp (disch:=omega)[qb,AV.scalar,dyC]
  simp only [ed,edd]
  refine qg (ys:=[zQ false s]) (ids:=[]) rfl (qw1 false s hs) ?_
  simp (disch:=omega)[qb,AV.scalar,dyC,qg8,hb,qf]
  simp only [ed,edd]
  refine qg (ys:=[DyV (qoi s),DyV (qoi s)]) (ids:=[]) rfl (qeZ (qoi s) (qoi s) (qxi s).s) ?_
  rw [hsd]
  simp (disch:=omega)[qb,AV.scalar]
  refine qg (ys:=[]) (ids:=[]) rfl qqz ?_
  simp (disch:=omega)[qb,AV.scalar]
end Go.AM
