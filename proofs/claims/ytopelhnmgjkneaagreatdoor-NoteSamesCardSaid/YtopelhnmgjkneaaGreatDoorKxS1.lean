/-
  KxS1: texts joined: FmNR Ns16 Ns18 Ns26 Ns27 FmNL Lk3 Lx1. Own work.
-/
import Derived.Test.YtopelhnmgjkneaaGreatDoorKn7
import Derived.Test.YtopelhnmgjkneaaGreatDoorProg
set_option linter.all false
set_option linter.unusedSimpArgs false
set_option linter.unusedVariables false
set_option linter.unusedSectionVars false

set_option maxRecDepth 100000
set_option maxHeartbeats 0
namespace Go.AM
open Go.RowKit Go.Proofs
def qwz:AC:=Subtype.val (p:=fun g=>qo Tryz.prog Tryz.f32 [4,5]=some g) (by refine ⟨?g,?h⟩;case h=>conv=>lhs;reduce)
theorem qwB:qo Tryz.prog Tryz.f32 [4,5]=some qwz:=by kernel_rfl
theorem qwC:ZR Tryz.prog Tryz.f32.results.toList=some [(4,some (true,4)),(5,none)]:=by kernel_rfl
def qwE:AC:=Subtype.val (p:=fun g=>qo Tryz.prog Tryz.f45 [6]=some g) (by refine ⟨?g,?h⟩;case h=>conv=>lhs;reduce)
theorem qwD:qo Tryz.prog Tryz.f45 [6]=some qwE:=by kernel_rfl
def qwv:AC:=Subtype.val (p:=fun g=>qo Tryz.prog Tryz.f89 [4]=some g) (by refine ⟨?g,?h⟩;case h=>conv=>lhs;reduce)
theorem qww:qo Tryz.prog Tryz.f89 [4]=some qwv:=by kernel_rfl
theorem qwK {d:Dy} (h:Wg d=true):(Wh d != 0)=false:=by unfold Wh;rw [h];rfl
theorem qwL {d:Dy} (h:Wg d=false):(Wh d != 0)=true:=by unfold Wh;rw [h];rfl
theorem qwy (d:Dy) (hd:DyI d) (n:Int):qC Tryz.prog 32 [DyV d,I n] (.tup [qnq ((Jh d n).getD sh0),I (Zx d n)]):=by
 refine zO (zj Tryz.func32 qwB qwC (by show 2≤_;decide) ?_)
 have wk0:∀ (e:Int) (H:List HObj),qi7 (.tup [qnq sh0,I e]) (.tup [.agg [I 0,I 0,I 0,.sl true 0 []],I e]) H:=fun e H =>
  qG (r' := .tup [.agg [I 0,I 0,I 0,.sl true 0 []],I e]) (is:=[]) rfl (.tupL (.cons (.aggL (.cons (.refl _) (.cons (.refl _) (.cons (.refl _) (.cons .slf .nil))))) (.cons (.refl _) .nil)))
 simp -implicitDefEqProofs (disch:=omega)[qwz,qb,dyC]
 refine qg (ys:=[DyV d]) (ids:=[]) rfl (qdl d hd) ?_
 simp -implicitDefEqProofs (disch:=omega)[qb,AV.scalar]
 cases hb:Wg d with
 | false =>
   have h1:Jh d n=none:=by unfold Jh;rw [hb];rfl
   have h2:Zx d n=2:=by unfold Zx;rw [hb];rfl
   rw [h1,h2]
   simp -implicitDefEqProofs (disch:=omega)[qb,qwL hb]
   exact qK (id:=1) (off:=0) (cs:=[I 0,I 0,I 0,.sl true 0 []]) rfl rfl (by simp) (wk0 2 _)
 | true =>
 have h1:Jh d n=d.sh.find? (fun s=>decide (s.num=n)):=by unfold Jh;rw [hb];rfl
 have h2:Zx d n=if (d.sh.find? (fun s=>decide (s.num=n))).isSome then 0 else 5:=by unfold Zx;rw [hb,h1];rfl
 have hsl:=hd.sl
 rw [h1,h2]
 clear h1 h2
 generalize hF:d.sh.find? (fun s=>decide (s.num=n))=F
 simp -implicitDefEqProofs (disch:=omega)[qb,qwK hb]
 refine qO (fun i:Nat=>⟨[(1,I n),(2,.ref 0 0),(4,.ref 1 0),(6,I (i:Int))],[.cells (dyC d),.cells [I 0,I 0,I 0,.sl true 0 []]]⟩) (fun i=>i≤d.sh.length∧∀ j (hj:j<d.sh.length),j<i→d.sh[j].num≠n) (fun i=>d.sh.length - i) 0 ⟨Nat.zero_le _,fun j _ h=>by omega⟩ rfl ?_
 rintro i ⟨c1,c2⟩
 refine qW fun K0 hK0=>?_
 simp -implicitDefEqProofs (disch:=omega)[qb,dyC]
 refine qP (fun hc=>?_) (fun hc=>?_)
 · have hi : i < d.sh.length := by simpa using hc
   have ix:((i:Int)+1)=((i+1:Nat):Int):=by omega
   simp -implicitDefEqProofs (disch:=omega)[qb,dyC,hi]
   by_cases he:d.sh[i].num=n
   · have he' : (d.sh[i].num == n) = true := by rw [beq_iff_eq]; exact he
     have hf:F=some d.sh[i]:=by
      rw [←hF,List.find?_eq_some_iff_getElem]
      exact ⟨by simpa using he,i,hi,rfl,fun j hj=>by simpa using c2 j (by omega) hj⟩
     subst hK0
     rw [hf]
     simp -implicitDefEqProofs (disch:=omega)[qb,dyC,he',hi,shC]
     refine qK (id:=1) (off:=0) (cs:=shC d.sh[i]) rfl rfl (by simp [shC]) ?_
     exact qG (r' := .tup [qnq d.sh[i],I 0]) (is:=[]) rfl (.refl _)
   · have he' : (d.sh[i].num == n) = false := by rw [beq_eq_false_iff_ne]; exact he
     simp -implicitDefEqProofs (disch:=omega)[qb,dyC,he']
     rw [hK0]
     refine qz (i+1) ⟨by omega,fun j hj hlt=>?_⟩ (by omega) (by simp only [ix,dyC])
     by_cases e:j=i
     · subst e;exact he
     · exact c2 j hj (by omega)
 · have hi : i = d.sh.length := by simp at hc; omega
   subst hi
   subst hK0
   have hf:F=none:=by
    rw [←hF,List.find?_eq_none]
    intro s hs
    obtain ⟨j,hj,rfl⟩:=List.mem_iff_getElem.1 hs
    simpa using c2 j hj hj
   rw [hf]
   simp -implicitDefEqProofs (disch:=omega)[qb]
   exact qK (id:=1) (off:=0) (cs:=[I 0,I 0,I 0,.sl true 0 []]) rfl rfl (by simp) (wk0 5 _)
theorem qwt (d:Dy) (V:DayV d):∀ (n k:Nat),k<n→k≤d.rc.length→∀ (f:Bool) (l:List Pt),(∀ p∈l,qI k p=true)→l.length≤64→(spell (spR d.rc) l).length≤4096→qC Tryz.prog 89 [DyV d,JG f l] (zQ false (spell (spR d.rc) l)):=by
 intro n
 induction n with
 | zero=>intro k hk;omega
 | succ n ih =>
 intro k hk hkr f l hp hl h4
 have hrl:=V.rl
 refine zO (walk Tryz.func89 qww (by kernel_rfl) (by show 2≤_;decide) ?_)
 simp -implicitDefEqProofs (disch:=omega)[qwv,qb,dyC]
 refine qO (fun q:Nat × AV × List HObj=>⟨[(1,JG f l),(2,.ref 0 0),(5,q.2.1),(6,I (q.1:Int))],q.2.2⟩) (fun q=>q.1≤l.length∧qr q.2.2 0=some (.cells (dyC d))∧AccZ q.2.2 q.2.1 (spell (spR d.rc) (l.take q.1))∧∀ j,rid q.2.1=some j→1≤j) (fun q=>l.length - q.1) (0,.sl true 0 [],[.cells (dyC d)]) ⟨Nat.zero_le _,rfl,.inl ⟨rfl,rfl⟩,by simp [rid]⟩ rfl ?_
 rintro ⟨i,x,H⟩ ⟨c1,z0,c3,r0⟩
 simp only at c1 z0 c3 r0 ⊢
 refine qW fun K0 hK0=>?_
 simp -implicitDefEqProofs (disch:=omega)[qb]
 refine qP (fun hc=>?_) (fun hc=>?_)
 · have hi : i < l.length := by simpa using hc
   have ix:((i:Int)+1)=((i+1:Nat):Int):=by omega
   have stp:=qcf (T:=spR d.rc) hi
   have hpi:=hp _ (List.getElem_mem hi)
   have tm:=Qd hpi
   have rc:=zk hpi
   have hpre:(spell (spR d.rc) (l.take i)).length+(ZG (spR d.rc) l[i] l[i].2.2.toNat).length≤4096:=by
    have e:spell (spR d.rc) l=spell (spR d.rc) (l.take (i+1))++spell (spR d.rc) (l.drop (i+1)):=by
     conv=>lhs;rw [←List.take_append_drop (i+1) l]
     unfold spell;rw [List.flatMap_append]
    rw [e,stp,List.length_append,List.length_append] at h4
    omega
   simp -implicitDefEqProofs (disch:=omega)[qb,hi]
   refine zq (ys:=[U l[i].1]) (ids:=[]) rfl rfl ?_
   simp -implicitDefEqProofs (disch:=omega)[qb,hi,zP]
   have hol:(qaD (spR d.rc) l[i]).length≤4096:=by
    have e:(ZG (spR d.rc) l[i] l[i].2.2.toNat).length=l[i].2.2.toNat*(qaD (spR d.rc) l[i]).length:=qi2
    have:1*(qaD (spR d.rc) l[i]).length≤l[i].2.2.toNat*(qaD (spR d.rc) l[i]).length:=Nat.mul_le_mul_right _ (by omega)
    omega
   by_cases h0:0≤l[i].2.1
   case pos =>
    have hr:l[i].2.1.toNat<k:=by
     rcases rc with ⟨h,_⟩ | ⟨_,_,h⟩ <;> omega
    have hr2:l[i].2.1.toNat<d.rc.length:=by omega
    have hr3:l[i].2.1<(d.rc.length:Int):=by omega
    have eo:qaD (spR d.rc) l[i]=spell (spR d.rc) d.rc[l[i].2.1.toNat].2:=by
     unfold qaD;rw [if_pos h0,qp0 V.recV hr2]
    have bl:=(Q6 (V.rb _ hr2)).2.2.1
    have IH:=ih l[i].2.1.toNat (by omega) (by omega) false d.rc[l[i].2.1.toNat].2 (V.recV.1 _ hr2) (by omega) (by rw [←eo];exact hol)
    rw [←eo] at IH
    simp -implicitDefEqProofs (disch:=omega)[qb,h0,z0,qf,dyC,hi,hr2,hr3]
    refine qQ (ys:=[DyV d,Pts d.rc[l[i].2.1.toNat].2]) (ids:=[]) rfl IH ?_
    simp -implicitDefEqProofs (disch:=omega)[qb,AV.scalar,zW,zJ,zE]
    refine qO (fun q:Nat × AV × List HObj=>⟨[(1,JG f l),(2,.ref 0 0),(5,q.2.1),(6,I (i:Int)),(7,zQ false (qaD (spR d.rc) l[i])),(8,I (q.1:Int))],q.2.2⟩) (fun q=>q.1≤l[i].2.2.toNat∧qr q.2.2 0=some (.cells (dyC d))∧AccZ q.2.2 q.2.1 (spell (spR d.rc) (l.take i)++ZG (spR d.rc) l[i] q.1)∧∀ j,rid q.2.1=some j→1≤j) (fun q=>l[i].2.2.toNat - q.1) (0,x,H) ⟨Nat.zero_le _,z0,by simpa [ZG] using c3,r0⟩ rfl ?_
    rintro ⟨t,x',H'⟩ ⟨d1,z0',c3',r0'⟩
    simp only at d1 z0' c3' r0' ⊢
    refine qW fun K1 hK1=>?_
    simp -implicitDefEqProofs (disch:=omega)[qb,hi]
    have tl:(ZG (spR d.rc) l[i] t).length≤(ZG (spR d.rc) l[i] l[i].2.2.toNat).length:=by rw [qi2,qi2];exact Nat.mul_le_mul_right _ d1
    have al:(spell (spR d.rc) (l.take i)++ZG (spR d.rc) l[i] t).length≤5000:=by rw [List.length_append];omega
    refine qP (fun hc2=>?_) (fun hc2=>?_)
    · have ht : t < l[i].2.2.toNat := by simp at hc2; omega
      have tx:((t:Int)+1)=((t+1:Nat):Int):=by omega
      simp -implicitDefEqProofs (disch:=omega)[qb,hi]
      refine qlz (m:=qaD (spR d.rc) l[i]) c3' (by omega) (by omega) rfl fun y ws w1 w2 w3 w4=>?_
      simp -implicitDefEqProofs (disch:=omega)[qb,hi]
      rw [hK1]
      have l0:=qj z0'
      refine qz (t+1,y,qH H' ws) ⟨by simp only;omega,(w1 0 l0 (fun e=>by have:=r0' 0 e;omega)).trans z0',?_,fun j hj=>by rw [w4] at hj;injection hj;omega⟩ (by simp only;omega) (by simp only [tx])
      rw [qgI,←List.append_assoc]
      exact w3
    · have ht : t = l[i].2.2.toNat := by simp at hc2; omega
      subst ht
      subst hK1
      simp -implicitDefEqProofs (disch:=omega)[qb,hi]
      rw [hK0]
      refine qz (i+1,x',H') ⟨by simp only;omega,z0',?_,r0'⟩ (by simp only;omega) (by simp only [ix])
      rw [stp];exact c3'
   case neg =>
    have hact:VZ l[i].1=true:=by
     rcases rc with ⟨_,h⟩ | ⟨_,h1,_⟩
     · exact h
     · exact absurd h1 h0
    have ha:0≤l[i].1∧l[i].1≤255:=by unfold VZ at hact;simp only [Bool.and_eq_true,decide_eq_true_eq] at hact;omega
    have eo:qaD (spR d.rc) l[i]=[UInt8.ofNat l[i].1.toNat]:=if_neg h0
    have eb:AV.sl true 1 [U l[i].1]=zQ true (qaD (spR d.rc) l[i]):=by
     rw [eo]
     show _=AV.sl true 1 [U ((UInt8.ofNat l[i].1.toNat).toNat:Int)]
     rw [qnf ha.1 ha.2]
    rw [eb]
    simp -implicitDefEqProofs (disch:=omega)[qb,h0]
    refine qO (fun q:Nat × AV × List HObj=>⟨[(1,JG f l),(2,.ref 0 0),(5,q.2.1),(6,I (i:Int)),(7,zQ true (qaD (spR d.rc) l[i])),(8,I (q.1:Int))],q.2.2⟩) (fun q=>q.1≤l[i].2.2.toNat∧qr q.2.2 0=some (.cells (dyC d))∧AccZ q.2.2 q.2.1 (spell (spR d.rc) (l.take i)++ZG (spR d.rc) l[i] q.1)∧∀ j,rid q.2.1=some j→1≤j) (fun q=>l[i].2.2.toNat - q.1) (0,x,H) ⟨Nat.zero_le _,z0,by simpa [ZG] using c3,r0⟩ rfl ?_
    rintro ⟨t,x',H'⟩ ⟨d1,z0',c3',r0'⟩
    simp only at d1 z0' c3' r0' ⊢
    refine qW fun K1 hK1=>?_
    simp -implicitDefEqProofs (disch:=omega)[qb,hi]
    have tl:(ZG (spR d.rc) l[i] t).length≤(ZG (spR d.rc) l[i] l[i].2.2.toNat).length:=by rw [qi2,qi2];exact Nat.mul_le_mul_right _ d1
    have al:(spell (spR d.rc) (l.take i)++ZG (spR d.rc) l[i] t).length≤5000:=by rw [List.length_append];omega
    refine qP (fun hc2=>?_) (fun hc2=>?_)
    · have ht : t < l[i].2.2.toNat := by simp at hc2; omega
      have tx:((t:Int)+1)=((t+1:Nat):Int):=by omega
      simp -implicitDefEqProofs (disch:=omega)[qb,hi]
      refine qlz (m:=qaD (spR d.rc) l[i]) c3' (by omega) (by omega) rfl fun y ws w1 w2 w3 w4=>?_
      simp -implicitDefEqProofs (disch:=omega)[qb,hi]
      rw [hK1]
      have l0:=qj z0'
      refine qz (t+1,y,qH H' ws) ⟨by simp only;omega,(w1 0 l0 (fun e=>by have:=r0' 0 e;omega)).trans z0',?_,fun j hj=>by rw [w4] at hj;injection hj;omega⟩ (by simp only;omega) (by simp only [tx])
      rw [qgI,←List.append_assoc]
      exact w3
    · have ht : t = l[i].2.2.toNat := by simp at hc2; omega
      subst ht
      subst hK1
      simp -implicitDefEqProofs (disch:=omega)[qb,hi]
      rw [hK0]
      refine qz (i+1,x',H') ⟨by simp only;omega,z0',?_,r0'⟩ (by simp only;omega) (by simp only [ix])
      rw [stp];exact c3'
 · have hi : i = l.length := by simp at hc; omega
   subst hi
   subst hK0
   rw [List.take_length] at c3
   simp -implicitDefEqProofs (disch:=omega)[qb]
   obtain ⟨g,ids,h1⟩:=c3.b.pur
   refine qG (is:=ids) (r':=zQ g (spell (spR d.rc) l)) ?_ .slf
   rcases c3 with ⟨rfl,_⟩ | ⟨id,rfl,_⟩ <;> exact h1
theorem qwI (d:Dy) (hd:DyI d) (a b:Int):qC Tryz.prog 45 [DyV d,I a,I b] (I (qgC d a b)):=by
 refine qT (walk Tryz.func45 qwD (by kernel_rfl) (by show 3≤_;decide) ?_)
 simp -implicitDefEqProofs (disch:=omega)[qwE,qb,dyC]
 refine qg (ys:=[DyV d,I a]) (ids:=[]) rfl (qwy d hd a) ?_
 simp -implicitDefEqProofs (disch:=omega)[qb,AV.scalar,shC]
 by_cases e1:Zx d a=0
 case neg =>
  have e1':(Zx d a != 0)=true:=by rw [bne_iff_ne];exact e1
  have hE:qgC d a b=Zx d a:=if_pos e1
  rw [hE]
  simp -implicitDefEqProofs (disch:=omega)[qb,e1']
 have e1':(Zx d a != 0)=false:=by rw [e1];rfl
 simp -implicitDefEqProofs (disch:=omega)[qb,e1']
 refine qg (ys:=[DyV d,I b]) (ids:=[]) rfl (qwy d hd b) ?_
 simp -implicitDefEqProofs (disch:=omega)[qb,AV.scalar,shC]
 by_cases e2:Zx d b=0
 case neg =>
  have e2':(Zx d b != 0)=true:=by rw [bne_iff_ne];exact e2
  have hE:qgC d a b=Zx d b:=by unfold qgC;rw [if_neg (by simpa using e1),if_pos e2]
  rw [hE]
  simp -implicitDefEqProofs (disch:=omega)[qb,e2']
 have e2':(Zx d b != 0)=false:=by rw [e2];rfl
 obtain ⟨hb,s,hs,q1⟩:=qhR e1
 obtain ⟨_,t,ht,q2⟩:=qhR e2
 have V:=jw.1 hb
 have hrl:=V.rl
 have hLO:=jO V.recV
 have hsp:=Z0.1 (V.shm s hs).2.2.1
 have htp:=Z0.1 (V.shm t ht).2.2.1
 have hE:qgC d a b=if 4096<QZ (qu d.rc) s.pat then 7 else if 4096<QZ (qu d.rc) t.pat then 7 else if spell (spR d.rc) s.pat=spell (spR d.rc) t.pat then 0 else 15:=by
  unfold qgC;rw [if_neg (by simpa using e1),if_neg (by simpa using e2),q1,q2];rfl
 rw [hE,q1,q2]
 simp -implicitDefEqProofs (disch:=omega)[qb,e2']
 refine qg (ys:=[Bks d.rc]) (ids:=[]) rfl (qfc false d.rc V.recV (fun b hb=>by have:=(hd.rc b hb).1.2;omega)) ?_
 simp -implicitDefEqProofs (disch:=omega)[qb,AV.scalar]
 refine qg (ys:=[Ls false (qu d.rc),Pts s.pat]) (ids:=[]) rfl (VT false false _ s.pat hLO hsp.2.1 (by omega)) ?_
 simp -implicitDefEqProofs (disch:=omega)[qb,AV.scalar]
 by_cases b1:4096<QZ (qu d.rc) s.pat
 case pos =>
  simp -implicitDefEqProofs (disch:=omega)[qb,b1]
 have b1':(4096<QZ (qu d.rc) s.pat)=False:=by simp only [eq_iff_iff,iff_false];exact b1
 simp -implicitDefEqProofs (disch:=omega)[qb,b1']
 refine qg (ys:=[Ls false (qu d.rc),Pts t.pat]) (ids:=[]) rfl (VT false false _ t.pat hLO htp.2.1 (by omega)) ?_
 simp -implicitDefEqProofs (disch:=omega)[qb,AV.scalar]
 by_cases b2:4096<QZ (qu d.rc) t.pat
 case pos =>
  simp -implicitDefEqProofs (disch:=omega)[qb,b2]
 have b2':(4096<QZ (qu d.rc) t.pat)=False:=by simp only [eq_iff_iff,iff_false];exact b2
 simp -implicitDefEqProofs (disch:=omega)[qb,b2',dyC]
 have hso:=quD V.recV V.rm d.rc.length (Nat.le_refl _)
 rw [List.take_length] at hso
 have hfar:JS=1125899906842624:=rfl
 have l1:=qaW hso (l:=s.pat) fun p hp=>by have:=Qd (hsp.2.1 p hp);omega
 have l2:=qaW hso (l:=t.pat) fun p hp=>by have:=Qd (htp.2.1 p hp);omega
 have S1:=qwt d V (d.rc.length+1) d.rc.length (by omega) (Nat.le_refl _) false s.pat (by rw [←zy d.rc];exact hsp.2.1) (by omega) (by omega)
 have S2:=qwt d V (d.rc.length+1) d.rc.length (by omega) (Nat.le_refl _) false t.pat (by rw [←zy d.rc];exact htp.2.1) (by omega) (by omega)
 refine qQ (ys:=[DyV d,Pts s.pat]) (ids:=[]) rfl S1 ?_
 simp -implicitDefEqProofs (disch:=omega)[qb,AV.scalar,dyC,qg8]
 refine qQ (ys:=[DyV d,Pts t.pat]) (ids:=[]) rfl S2 ?_
 simp -implicitDefEqProofs (disch:=omega)[qb,AV.scalar,zW,zJ,zE,qg8]
 by_cases hq:spell (spR d.rc) s.pat=spell (spR d.rc) t.pat
 · have hq' : (spell (spR d.rc) s.pat == spell (spR d.rc) t.pat) = true := by rw [beq_iff_eq]; exact hq
   simp -implicitDefEqProofs (disch:=omega)[qb,hq]
 · have hq' : (spell (spR d.rc) s.pat == spell (spR d.rc) t.pat) = false := by rw [beq_eq_false_iff_ne]; exact hq
   simp -implicitDefEqProofs (disch:=omega)[qb,hq,hq']
end Go.AM

set_option maxRecDepth 100000
namespace Go.AM
open Go.RowKit Go.Proofs
def qws:AC:=Subtype.val (p:=fun g=>qo Tryz.prog Tryz.f8 [6]=some g) (by refine ⟨?g,?h⟩;case h=>conv=>lhs;reduce)
theorem qwu:qo Tryz.prog Tryz.f8 [6]=some qws:=by kernel_rfl
def qwq:AC:=Subtype.val (p:=fun g=>qo Tryz.prog Tryz.f30 [2]=some g) (by refine ⟨?g,?h⟩;case h=>conv=>lhs;reduce)
theorem qwA:qo Tryz.prog Tryz.f30 [2]=some qwq:=by kernel_rfl
theorem qwF {α:Type} {f:α→Bool} {l:List α} {i:Nat} (h:i<l.length) (hn:(l.take i).any f=false) (hf:f l[i]=false):(l.take (i+1)).any f=false:=by
 rw [List.take_succ_eq_append_getElem h,List.any_append,hn];simp [hf]
theorem qwH {α:Type} {f:α→Bool} {l:List α} {i:Nat} (h:i<l.length) (hf:f l[i]=true):l.any f=true:=List.any_eq_true.2 ⟨_,List.getElem_mem h,hf⟩
theorem qwN {n:Nat} {k:Int} (h:k<n):(k<(n:Int))=True:=by simp only [eq_iff_iff,iff_true];exact h
theorem qwM {n:Nat} {k:Int} (h:¬ k<n):(k<(n:Int))=False:=by simp only [eq_iff_iff,iff_false];exact h
def qwr:AC:=match qwq with
 | .seq _ (.seq _ (.seq _ t))=>t
 | x=>x
theorem qwJ {d : Dy} (hs : d.sh.length ≤ 60) {H : List HObj} (h0 : qr H 0 = some (.cells (dyC d))) (fr : List (Nat × AV)) :
 AWP Tryz.prog (E1 Tryz.prog) qwr ⟨(1,.ref 0 0)::fr,H⟩ (qfB [2] (Out (B (d.sh.any qvt)))):=by
 simp -implicitDefEqProofs (disch:=omega)[qwr,qwq,qb]
 refine qO (fun q:Nat × List HObj=>⟨[(1,.ref 0 0),(4,I (q.1:Int))],q.2⟩) (fun q=>q.1≤d.sh.length∧(d.sh.take q.1).any qvt=false∧q.2=H) (fun q=>d.sh.length - q.1) (0,H) ⟨Nat.zero_le _,rfl,rfl⟩ rfl ?_
 rintro ⟨i,H2⟩ ⟨c1,c2,rfl⟩
 simp only at c1 c2 ⊢
 refine qW fun K0 hK0=>?_
 simp -implicitDefEqProofs (disch:=omega)[qb,h0,qf,dyC]
 refine qP (fun hc=>?_) (fun hc=>?_)
 · have hi : i < d.sh.length := by simpa using hc
   have ix:((i:Int)+1)=((i+1:Nat):Int):=by omega
   by_cases hb:70<d.sh[i].pat.length
   · have hb' : (70 < (d.sh[i].pat.length : Int)) = True := by simp only [eq_iff_iff,iff_true]; omega
     have:=qwH (f:=qvt) hi (decide_eq_true hb)
     rw [hK0]
     simp -implicitDefEqProofs (disch:=omega)[qb,hi,h0,qf,dyC,hb',this]
   · have hb' : (70 < (d.sh[i].pat.length : Int)) = False := by simp only [eq_iff_iff,iff_false]; omega
     simp -implicitDefEqProofs (disch:=omega)[qb,hi,h0,qf,dyC,hb']
     rw [hK0]
     exact qz (i+1,H2) ⟨by simp only;omega,qwF hi c2 (decide_eq_false hb),rfl⟩ (by simp only;omega) (by simp only [ix])
 · have hi : i = d.sh.length := by simp at hc; omega
   subst hi
   rw [List.take_length] at c2
   rw [hK0]
   simp -implicitDefEqProofs (disch:=omega)[qb,c2]
theorem qwG (d:Dy):qC Tryz.prog 30 [DyV d] (B (qjT d)):=by
 refine qT (walk Tryz.func30 qwA (by kernel_rfl) (by show 1≤_;decide) ?_)
 simp -implicitDefEqProofs (disch:=omega)[qwq,qb,dyC]
 unfold qjT
 by_cases q1:40<d.rc.length
 case pos =>
  have e1:=qwN (n:=d.rc.length) (k:=40) (by omega)
  simp -implicitDefEqProofs (disch:=omega)[qb,e1,q1]
 have e1:=qwM (n:=d.rc.length) (k:=40) (by omega)
 simp -implicitDefEqProofs (disch:=omega)[qb,e1,q1]
 by_cases q2:70<d.pat.length
 case pos =>
  have e2:=qwN (n:=d.pat.length) (k:=70) (by omega)
  simp -implicitDefEqProofs (disch:=omega)[qb,e2,q2]
 have e2:=qwM (n:=d.pat.length) (k:=70) (by omega)
 simp -implicitDefEqProofs (disch:=omega)[qb,e2,q2]
 by_cases q3:60<d.sh.length
 case pos =>
  have e3:=qwN (n:=d.sh.length) (k:=60) (by omega)
  simp -implicitDefEqProofs (disch:=omega)[qb,e3,q3]
 have e3:=qwM (n:=d.sh.length) (k:=60) (by omega)
 simp -implicitDefEqProofs (disch:=omega)[qb,e3,q3]
 refine qO (fun q:Nat × List HObj=>⟨[(1,.ref 0 0),(3,I (q.1:Int))],q.2⟩) (fun q=>q.1≤d.rc.length∧(d.rc.take q.1).any qvs=false∧q.2=[.cells (dyC d)]) (fun q=>d.rc.length - q.1) (0,[.cells (dyC d)]) ⟨Nat.zero_le _,rfl,rfl⟩ rfl ?_
 rintro ⟨i,H2⟩ ⟨c1,c2,rfl⟩
 simp only at c1 c2 ⊢
 refine qW fun K0 hK0=>?_
 simp -implicitDefEqProofs (disch:=omega)[qb,qf,dyC]
 refine qP (fun hc=>?_) (fun hc=>?_)
 · have hi : i < d.rc.length := by simpa using hc
   have ix:((i:Int)+1)=((i+1:Nat):Int):=by omega
   by_cases hb:20<d.rc[i].2.length
   · have hb' : (20 < (d.rc[i].2.length : Int)) = True := by simp only [eq_iff_iff,iff_true]; omega
     have:=qwH (f:=qvs) hi (by unfold qvs;simp [hb])
     rw [hK0]
     simp -implicitDefEqProofs (disch:=omega)[qb,hi,qf,dyC,hb',this]
   have hb':(20<(d.rc[i].2.length:Int))=False:=by simp only [eq_iff_iff,iff_false];omega
   by_cases hc2:100<d.rc[i].1.length
   · have hc' : (100 < (d.rc[i].1.length : Int)) = True := by simp only [eq_iff_iff,iff_true]; omega
     have:=qwH (f:=qvs) hi (by unfold qvs;simp [hc2])
     rw [hK0]
     simp -implicitDefEqProofs (disch:=omega)[qb,hi,qf,dyC,hb',hc',this]
   have hc':(100<(d.rc[i].1.length:Int))=False:=by simp only [eq_iff_iff,iff_false];omega
   simp -implicitDefEqProofs (disch:=omega)[qb,hi,qf,dyC,hb',hc']
   rw [hK0]
   refine qz (i+1,[.cells (dyC d)]) ⟨by simp only;omega,qwF hi c2 (by unfold qvs;simp [hb,hc2]),rfl⟩ (by simp only;omega) (by simp only [ix,dyC])
 · have hi : i = d.rc.length := by simp at hc; omega
   subst hi
   rw [List.take_length] at c2
   rw [hK0]
   have t:=qwJ (d:=d) (by omega) (H:=[.cells (dyC d)]) rfl [(3,I (d.rc.length:Int))]
   simp -implicitDefEqProofs (disch:=omega)[qwr,qwq,qb,dyC,c2] at t ⊢
   exact t
theorem qwx (d:Dy) (hd:DyT d) (a b:Int):qC Tryz.prog 8 [DyV d,I a,I b] (B true):=by
 refine qT (walk Tryz.func8 qwu (by kernel_rfl) (by show 3≤_;decide) ?_)
 simp -implicitDefEqProofs (disch:=omega)[qws,qb,qf,dyC]
 have ed:[Bks d.rc,I d.bath,I d.laid,Pts d.pat,Shs d.sh]=dyC d:=rfl
 simp only [ed]
 refine qg (ys:=[DyV d]) (ids:=[]) rfl (qwG d) ?_
 simp -implicitDefEqProofs (disch:=omega)[qb,AV.scalar]
 cases hg:qjT d with
 | true =>
   simp -implicitDefEqProofs (disch:=omega)[qb,AV.scalar]
   refine qg (ys:=[]) (ids:=[]) rfl qqz ?_
   simp -implicitDefEqProofs (disch:=omega)[qb,AV.scalar]
 | false =>
   have dI:=hd.i hg
   simp -implicitDefEqProofs (disch:=omega)[qb,AV.scalar,qf,dyC]
   simp only [ed]
   refine qQ (ys:=[DyV d,I a,I b]) (ids:=[]) rfl (qj0 d dI a b) ?_
   simp -implicitDefEqProofs (disch:=omega)[qb,AV.scalar,qf,dyC,zW,zJ,zE]
   simp only [ed]
   refine qQ (ys:=[DyV d,I a,I b]) (ids:=[]) rfl (qwI d dI a b) ?_
   simp -implicitDefEqProofs (disch:=omega)[qb,AV.scalar,zW,zJ,zE]
   refine qQ (ys:=[]) (ids:=[]) rfl qqz ?_
   simp -implicitDefEqProofs (disch:=omega)[qb,AV.scalar,zW,zJ,zE]
end Go.AM
