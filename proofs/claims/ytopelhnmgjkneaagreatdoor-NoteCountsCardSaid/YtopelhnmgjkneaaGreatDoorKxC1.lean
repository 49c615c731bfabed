/-
  KxC1: texts joined: FmNR Ns16 Ns17 FmNL Lk3 Ns28 Lx3. Own work.
-/
import Derived.Test.YtopelhnmgjkneaaGreatDoorKn7
import Derived.Test.YtopelhnmgjkneaaGreatDoorProg
set_option linter.all false
set_option linter.unusedSimpArgs false
set_option linter.unusedVariables false
set_option linter.unusedSectionVars false

set_option maxRecDepth 100000
set_option maxHeartbeats 0
namespace Go.AM
open Go.RowKit Go.Proofs
def qwD:AC:=Subtype.val (p:=fun g=>qo Tryz.prog Tryz.f37 [4,5]=some g) (by refine ⟨?g,?h⟩;case h=>conv=>lhs;reduce)
theorem qwz:qo Tryz.prog Tryz.f37 [4,5]=some qwD:=by kernel_rfl
def qwM:AC:=Subtype.val (p:=fun g=>qo Tryz.prog Tryz.f39 [6,7]=some g) (by refine ⟨?g,?h⟩;case h=>conv=>lhs;reduce)
theorem qwK:qo Tryz.prog Tryz.f39 [6,7]=some qwM:=by kernel_rfl
def qwE:AC:=Subtype.val (p:=fun g=>qo Tryz.prog Tryz.f41 [6,7]=some g) (by refine ⟨?g,?h⟩;case h=>conv=>lhs;reduce)
theorem qwA:qo Tryz.prog Tryz.f41 [6,7]=some qwE:=by kernel_rfl
def qwF:AC:=Subtype.val (p:=fun g=>qo Tryz.prog Tryz.f77 [4]=some g) (by refine ⟨?g,?h⟩;case h=>conv=>lhs;reduce)
theorem qwB:qo Tryz.prog Tryz.f77 [4]=some qwF:=by kernel_rfl
def qwG:AC:=Subtype.val (p:=fun g=>qo Tryz.prog Tryz.f81 [6]=some g) (by refine ⟨?g,?h⟩;case h=>conv=>lhs;reduce)
theorem qwC:qo Tryz.prog Tryz.f81 [6]=some qwG:=by kernel_rfl
theorem qwR {d:Dy} (h:Wg d=true):(Wh d != 0)=false:=by unfold Wh;rw [h];rfl
theorem qwS {d:Dy} (h:Wg d=false):(Wh d != 0)=true:=by unfold Wh;rw [h];rfl
theorem qwt (d:Dy) (hd:DyI d) (p:Pt):qC Tryz.prog 77 [DyV d,.agg (ptC p)] (I (Zb d p)):=by
 refine qT (walk Tryz.func77 qwB (by kernel_rfl) (by show 2≤_;decide) ?_)
 simp -implicitDefEqProofs (disch:=omega)[qwF,qb,dyC,ptC]
 refine qg (ys:=[DyV d]) (ids:=[]) rfl (qdl d hd) ?_
 simp -implicitDefEqProofs (disch:=omega)[qb,AV.scalar]
 cases hb:Wg d with
 | false =>
   have hE:Zb d p=2:=by unfold Zb;rw [hb];rfl
   rw [hE]
   simp -implicitDefEqProofs (disch:=omega)[qb,qwS hb]
 | true =>
   simp -implicitDefEqProofs (disch:=omega)[qb,qwR hb]
   refine qg (ys:=[I (d.rc.length:Int),.agg (ptC p)]) (ids:=[]) rfl (qaN _ _) ?_
   simp -implicitDefEqProofs (disch:=omega)[qb,AV.scalar]
   cases hp:qI d.rc.length p with
   | false =>
     have hE:Zb d p=3:=by unfold Zb;rw [hb,hp];rfl
     rw [hE]
     simp -implicitDefEqProofs (disch:=omega)[qb]
   | true =>
     have hE:Zb d p=0:=by unfold Zb;rw [hb,hp];rfl
     rw [hE]
     simp -implicitDefEqProofs (disch:=omega)[qb]
theorem qwx (d:Dy) (hd:DyI d) (p:Pt):qC Tryz.prog 37 [DyV d,.agg (ptC p)] (.tup [I (qc6 d p),I (Zb d p)]):=by
 refine qT (walk Tryz.func37 qwz (by kernel_rfl) (by show 2≤_;decide) ?_)
 simp -implicitDefEqProofs (disch:=omega)[qwD,qb,dyC,ptC]
 refine qg (ys:=[DyV d,.agg (ptC p)]) (ids:=[]) rfl (qwt d hd p) ?_
 simp -implicitDefEqProofs (disch:=omega)[qb,AV.scalar]
 by_cases hE:Zb d p=0
 case neg =>
  have hE':(Zb d p != 0)=true:=by rw [bne_iff_ne];exact hE
  have hl:qc6 d p=0:=if_neg hE
  simp -implicitDefEqProofs (disch:=omega)[qb,hE',hl]
  refine qg (ys:=[DyV d,.agg (ptC p)]) (ids:=[]) rfl (qwt d hd p) ?_
  simp -implicitDefEqProofs (disch:=omega)[qb,AV.scalar]
  exact ⟨[],rfl⟩
 have hE':(Zb d p != 0)=false:=by rw [hE];rfl
 have hl:qc6 d p=QZ (qu d.rc) [p]:=if_pos hE
 obtain ⟨hb,hp⟩:=VL.1 hE
 have V:=jw.1 hb
 have hLO:=jO V.recV
 have hp1:∀ q∈[p],qI (qu d.rc).length q=true:=fun q hq=>by rw [List.mem_singleton] at hq;rw [hq,zy];exact hp
 rw [hl,hE]
 simp -implicitDefEqProofs (disch:=omega)[qb,hE']
 refine qQ (ys:=[Bks d.rc]) (ids:=[]) rfl (qfc false d.rc V.recV (fun b hb=>by have:=(hd.rc b hb).1.2;omega)) ?_
 simp -implicitDefEqProofs (disch:=omega)[qb,AV.scalar]
 refine zq (ys:=[.agg (ptC p)]) (ids:=[]) rfl rfl ?_
 simp -implicitDefEqProofs (disch:=omega)[qb,zP,ptC]
 refine qQ (ys:=[Ls false (qu d.rc),JG true [p]]) (ids:=[]) rfl (VT false true _ [p] hLO hp1 (by simp)) ?_
 simp -implicitDefEqProofs (disch:=omega)[qb,AV.scalar,zW,zJ,zE]
 exact ⟨[],rfl⟩
theorem qwP {long:List Int} (hm:∀ x∈long,x≤QM) {p:Pt} (hp:qI long.length p=true):ja long p≤QM:=by
 unfold ja
 split
 · rename_i h0
   rcases zk hp with ⟨h,_⟩ | ⟨_,_,h⟩
   · omega
   · have hi : p.2.1.toNat < long.length := by omega
     rw [List.getD_eq_getElem?_getD,List.getElem?_eq_getElem hi]
     exact hm _ (List.getElem_mem hi)
 · decide
theorem qwy (f g:Bool) (has long:List Int) (act:Int) (l:List Pt) (h:qln has long) (ha:VZ act=true) (hp:∀ p∈l,qI long.length p=true) (hl:l.length≤1000) (hm:∀ x∈long,x≤QM) (hlen:long.length≤1000000):qC Tryz.prog 81 [Ls f has,JG g l,U act] (I (qa8 has act l)):=by
 refine qT (walk Tryz.func81 qwC (by kernel_rfl) (by show 3≤_;decide) ?_)
 simp -implicitDefEqProofs (disch:=omega)[qwG,qb]
 refine qO (fun i:Nat=>⟨[(0,Ls f has),(1,JG g l),(2,U act),(7,I (qa8 has act (l.take i))),(8,I (i:Int))],[]⟩) (fun i=>i≤l.length∧0≤qa8 has act (l.take i)∧qa8 has act (l.take i)≤(i:Int)*1099511627776000) (fun i=>l.length - i) 0 ⟨Nat.zero_le _,Int.le_refl _,Int.le_refl _⟩ rfl ?_
 rintro i ⟨c1,c2,c3⟩
 refine qW fun K0 hK0=>?_
 simp -implicitDefEqProofs (disch:=omega)[qb]
 refine qP (fun hc=>?_) (fun hc=>?_)
 · have hi : i < l.length := by simpa using hc
   have ix:((i:Int)+1)=((i+1:Nat):Int):=by omega
   have hpi:=hp _ (List.getElem_mem hi)
   have st:qa8 has act (l.take (i+1))=qfD has act (qa8 has act (l.take i)) l[i]:=zI hi
   have ho:=qmN h ha hpi
   have hom:=qwP hm hpi
   have ht:=Qd hpi
   have hrc:=zk hpi
   have hll:=h.1
   have m1:0≤qnI has act l[i]*l[i].2.2:=Int.mul_nonneg ho.1 (by omega)
   have m2:qnI has act l[i]*l[i].2.2≤1099511627776000:=by
    have h1:qnI has act l[i]≤1099511627776:=Int.le_trans ho.2 hom
    exact Int.le_trans (Int.mul_le_mul h1 ht.2 (by omega) (by decide)) (by decide)
   have fin:qa8 has act (l.take (i+1))=qa8 has act (l.take i)+qnI has act l[i]*l[i].2.2:=st
   generalize hA:qa8 has act (l.take i)=A at *
   have h97:97≤act:=by unfold VZ at ha;simp only [Bool.and_eq_true,decide_eq_true_eq] at ha;omega
   simp -implicitDefEqProofs (disch:=omega)[qb,hi]
   by_cases e2:0≤l[i].2.1
   case pos =>
    have hlt:l[i].2.1.toNat<has.length:=by
     rcases hrc with ⟨h1,_⟩ | ⟨_,_,h1⟩ <;> omega
    have hlt2:l[i].2.1<(has.length:Int):=by omega
    have hne:l[i].1≠act:=by
     rcases hrc with ⟨h1,_⟩ | ⟨h1,_⟩ <;> omega
    have hne':(l[i].1==act)=false:=by rw [beq_eq_false_iff_ne];exact hne
    have e:qnI has act l[i]=has[l[i].2.1.toNat]:=by
     unfold qnI;rw [if_neg hne,if_pos e2,List.getD_eq_getElem?_getD,List.getElem?_eq_getElem hlt];rfl
    simp -implicitDefEqProofs (disch:=omega)[qb,hi,e2,hlt,hlt2,JH,hne']
    rw [hK0]
    rw [e] at fin m1 m2
    refine qz (i+1) ⟨by omega,by rw [fin];omega,by rw [fin];omega⟩ (by omega) ?_
    simp only [ix,fin]
    rw [qb (n:=has[l[i].2.1.toNat]*l[i].2.2) (by omega),qb (n:=A+has[l[i].2.1.toNat]*l[i].2.2) (by omega)]
   case neg =>
   by_cases he:l[i].1=act
   case pos =>
    have he':(l[i].1==act)=true:=by rw [beq_iff_eq];exact he
    have e:qnI has act l[i]=1:=by unfold qnI;rw [if_pos he]
    simp -implicitDefEqProofs (disch:=omega)[qb,hi,e2,he']
    rw [hK0]
    rw [e] at fin m1 m2
    refine qz (i+1) ⟨by omega,by rw [fin];omega,by rw [fin];omega⟩ (by omega) ?_
    simp only [ix,fin,Int.one_mul]
   case neg =>
    have he':(l[i].1==act)=false:=by rw [beq_eq_false_iff_ne];exact he
    have e:qnI has act l[i]=0:=by unfold qnI;rw [if_neg he,if_neg e2]
    simp -implicitDefEqProofs (disch:=omega)[qb,hi,e2,he']
    rw [hK0]
    rw [e] at fin m1 m2
    refine qz (i+1) ⟨by omega,by rw [fin];omega,by rw [fin];omega⟩ (by omega) ?_
    simp only [ix,fin,Int.zero_mul,Int.add_zero]
 · have hi : i = l.length := by simp at hc; omega
   subst hi
   subst hK0
   rw [List.take_length]
   simp -implicitDefEqProofs (disch:=omega)[qb]
theorem qwL (d:Dy) (hd:DyI d) (p:Pt) (act:Int):qC Tryz.prog 41 [DyV d,.agg (ptC p),U act] (.tup [I (qiC d p act),I (qe3 d p act)]):=by
 refine qT (walk Tryz.func41 qwA (by kernel_rfl) (by show 3≤_;decide) ?_)
 simp -implicitDefEqProofs (disch:=omega)[qwE,qb,dyC,ptC]
 refine qg (ys:=[DyV d,.agg (ptC p)]) (ids:=[]) rfl (qwt d hd p) ?_
 simp -implicitDefEqProofs (disch:=omega)[qb,AV.scalar]
 by_cases hE:Zb d p=0
 case neg =>
  have hE':(Zb d p != 0)=true:=by rw [bne_iff_ne];exact hE
  have hm:qe3 d p act=Zb d p:=if_neg hE
  have hl:qiC d p act=0:=if_neg (by rw [hm];exact hE)
  rw [hm,hl]
  simp -implicitDefEqProofs (disch:=omega)[qb,hE']
  refine qg (ys:=[DyV d,.agg (ptC p)]) (ids:=[]) rfl (qwt d hd p) ?_
  simp -implicitDefEqProofs (disch:=omega)[qb,AV.scalar]
  exact ⟨[],rfl⟩
 have hE':(Zb d p != 0)=false:=by rw [hE];rfl
 simp -implicitDefEqProofs (disch:=omega)[qb,hE']
 refine qg (ys:=[U act]) (ids:=[]) rfl (qb7 act) ?_
 simp -implicitDefEqProofs (disch:=omega)[qb,AV.scalar]
 cases ha:VZ act with
 | false =>
   have hm:qe3 d p act=8:=by unfold qe3;rw [if_pos hE,ha];rfl
   have hl:qiC d p act=0:=if_neg (by rw [hm];decide)
   rw [hm,hl]
   simp -implicitDefEqProofs (disch:=omega)[qb]
   exact ⟨[],rfl⟩
 | true =>
 have hm:qe3 d p act=0:=by unfold qe3;rw [if_pos hE,ha];rfl
 have hr:qiC d p act=qa8 (qiw act d.rc) act [p]:=if_pos hm
 obtain ⟨hb,hp⟩:=VL.1 hE
 have V:=jw.1 hb
 have hrl:=V.rl
 have hLM:=V.rm
 have hHO:=qrQ ha V.recV hLM
 have hmt : ∀ i,∀ x ∈ qu (d.rc.take i),x ≤ QM := fun i x hx => by
  have e:∃ r,qu d.rc=qu (d.rc.take i)++r:=jz i
  obtain ⟨r,e⟩:=e
  exact hLM x (by rw [e];simp [hx])
 rw [hm,hr]
 simp -implicitDefEqProofs (disch:=omega)[qb]
 refine qO (fun q:Nat × AV × List HObj=>⟨[(2,U act),(3,.ref 0 0),(4,.ref 1 0),(8,q.2.1),(9,I (q.1:Int))],q.2.2⟩) (fun q=>q.1≤d.rc.length∧AccG q.2.2 q.2.1 1 q.1 ((qiw act (d.rc.take q.1)).map fun n=>I n)∧qr q.2.2 0=some (.cells (dyC d))∧qr q.2.2 1=some (.cells (ptC p))∧∀ j,rid q.2.1=some j→2≤j) (fun q=>d.rc.length - q.1) (0,.sl true 0 [],[.cells (dyC d),.cells (ptC p)]) ⟨Nat.zero_le _,.nil,rfl,rfl,by simp [rid]⟩ rfl ?_
 rintro ⟨i,x,H⟩ ⟨c1,c2,c3,c4,c5⟩
 simp only at c1 c2 c3 c4 c5 ⊢
 refine qW fun K0 hK0=>?_
 have hhl:(qiw act (d.rc.take i)).length=i:=by rw [qj2,List.length_take];omega
 obtain ⟨ids,hpu,hids⟩:=c2.pur
 have hLs:AV.sl (decide (i=0)) i ((qiw act (d.rc.take i)).map fun n=>I n)=Ls (decide (i=0)) (qiw act (d.rc.take i)):=by show _=AV.sl _ (qiw act (d.rc.take i)).length _;rw [hhl]
 rw [hLs] at hpu
 simp -implicitDefEqProofs (disch:=omega)[qb,c3,qf,dyC]
 refine qP (fun hc=>?_) (fun hc=>?_)
 · have hi : i < d.rc.length := by simpa using hc
   have ix:((i:Int)+1)=((i+1:Nat):Int):=by omega
   have st:=qhu (act:=act) hi
   have hll:(qu (d.rc.take i)).length=i:=by rw [zy,List.length_take];omega
   have hpv:∀ p∈d.rc[i].2,qI (qu (d.rc.take i)).length p=true:=by rw [hll];exact V.recV.1 i hi
   have hbl:=(Q6 (V.rb i hi)).2.2.1
   have rA:=qwy (decide (i=0)) false (qiw act (d.rc.take i)) (qu (d.rc.take i)) act d.rc[i].2 (hHO i (by omega)) ha hpv (by omega) (hmt i) (by omega)
   simp -implicitDefEqProofs (disch:=omega)[qb,c3,qf,dyC,hi]
   refine qg (ys:=[Ls (decide (i=0)) (qiw act (d.rc.take i)),Pts d.rc[i].2,U act]) (ids:=ids++[]) (by simp only [qE,hpu];rfl) rA ?_
   simp -implicitDefEqProofs (disch:=omega)[qb,AV.scalar]
   refine zq (ys:=[I (qa8 (qiw act (d.rc.take i)) act d.rc[i].2)]) (ids:=[]) rfl rfl ?_
   simp -implicitDefEqProofs (disch:=omega)[qb,zP]
   refine Q5 (ys:=[I (qa8 (qiw act (d.rc.take i)) act d.rc[i].2)]) c2 (by omega) (by decide) rfl rfl fun ws w1 w2 w3=>?_
   simp -implicitDefEqProofs (disch:=omega)[qb]
   rw [hK0]
   have l1:=qj c4
   refine qz (i+1,.ms H.length 0 (i+1) 1,qH H ws) ⟨by simp only;omega,?_,(w1 0 (by omega) (fun e=>by have:=c5 0 e;omega)).trans c3,(w1 1 (by omega) (fun e=>by have:=c5 1 e;omega)).trans c4,fun j hj=>?_⟩ (by simp only;omega) (by simp only [ix])
   · rw [st,List.map_append];exact w3
   · simp only [rid] at hj;injection hj;omega
 · have hi : i = d.rc.length := by simp at hc; omega
   subst hi
   subst hK0
   rw [List.take_length] at *
   have hp1:∀ q∈[p],qI (qu d.rc).length q=true:=fun q hq=>by rw [List.mem_singleton] at hq;rw [hq,zy];exact hp
   have hHO1:=hHO d.rc.length (Nat.le_refl _)
   rw [List.take_length] at hHO1
   have rA:=qwy (decide (d.rc.length=0)) true (qiw act d.rc) (qu d.rc) act [p] hHO1 ha hp1 (by simp) hLM (by rw [zy];omega)
   simp -implicitDefEqProofs (disch:=omega)[qb,c4,qf,ptC]
   refine zq (ys:=[.agg (ptC p)]) (ids:=[]) rfl rfl ?_
   simp -implicitDefEqProofs (disch:=omega)[qb,zP,ptC]
   refine qg (ys:=[Ls (decide (d.rc.length=0)) (qiw act d.rc),JG true [p],U act]) (ids:=ids++[]) (by simp only [qE,hpu];rfl) rA ?_
   simp -implicitDefEqProofs (disch:=omega)[qb,AV.scalar]
   exact ⟨[],rfl⟩
end Go.AM

set_option maxRecDepth 100000
namespace Go.AM
open Go.RowKit Go.Proofs
def qwr:AC:=Subtype.val (p:=fun g=>qo Tryz.prog Tryz.f6 [8]=some g) (by refine ⟨?g,?h⟩;case h=>conv=>lhs;reduce)
theorem qwu:qo Tryz.prog Tryz.f6 [8]=some qwr:=by kernel_rfl
def qwq:AC:=Subtype.val (p:=fun g=>qo Tryz.prog Tryz.f30 [2]=some g) (by refine ⟨?g,?h⟩;case h=>conv=>lhs;reduce)
theorem qww:qo Tryz.prog Tryz.f30 [2]=some qwq:=by kernel_rfl
theorem qwH {α:Type} {f:α→Bool} {l:List α} {i:Nat} (h:i<l.length) (hn:(l.take i).any f=false) (hf:f l[i]=false):(l.take (i+1)).any f=false:=by
 rw [List.take_succ_eq_append_getElem h,List.any_append,hn];simp [hf]
theorem qwJ {α:Type} {f:α→Bool} {l:List α} {i:Nat} (h:i<l.length) (hf:f l[i]=true):l.any f=true:=List.any_eq_true.2 ⟨_,List.getElem_mem h,hf⟩
theorem qwU {n:Nat} {k:Int} (h:k<n):(k<(n:Int))=True:=by simp only [eq_iff_iff,iff_true];exact h
theorem qwT {n:Nat} {k:Int} (h:¬ k<n):(k<(n:Int))=False:=by simp only [eq_iff_iff,iff_false];exact h
def qws:AC:=match qwq with
 | .seq _ (.seq _ (.seq _ t))=>t
 | x=>x
theorem qwO {d : Dy} (hs : d.sh.length ≤ 60) {H : List HObj} (h0 : qr H 0 = some (.cells (dyC d))) (fr : List (Nat × AV)) :
 AWP Tryz.prog (E1 Tryz.prog) qws ⟨(1,.ref 0 0)::fr,H⟩ (qfB [2] (Out (B (d.sh.any qvt)))):=by
 simp -implicitDefEqProofs (disch:=omega)[qws,qwq,qb]
 refine qO (fun q:Nat × List HObj=>⟨[(1,.ref 0 0),(4,I (q.1:Int))],q.2⟩) (fun q=>q.1≤d.sh.length∧(d.sh.take q.1).any qvt=false∧q.2=H) (fun q=>d.sh.length - q.1) (0,H) ⟨Nat.zero_le _,rfl,rfl⟩ rfl ?_
 rintro ⟨i,H2⟩ ⟨c1,c2,rfl⟩
 simp only at c1 c2 ⊢
 refine qW fun K0 hK0=>?_
 simp -implicitDefEqProofs (disch:=omega)[qb,h0,qf,dyC]
 refine qP (fun hc=>?_) (fun hc=>?_)
 · have hi : i < d.sh.length := by simpa using hc
   have ix:((i:Int)+1)=((i+1:Nat):Int):=by omega
   by_cases hb:70<d.sh[i].pat.length
   · have hb' : (70 < (d.sh[i].pat.length : Int)) = True := by simp only [eq_iff_iff,iff_true]; omega
     have:=qwJ (f:=qvt) hi (decide_eq_true hb)
     rw [hK0]
     simp -implicitDefEqProofs (disch:=omega)[qb,hi,h0,qf,dyC,hb',this]
   · have hb' : (70 < (d.sh[i].pat.length : Int)) = False := by simp only [eq_iff_iff,iff_false]; omega
     simp -implicitDefEqProofs (disch:=omega)[qb,hi,h0,qf,dyC,hb']
     rw [hK0]
     exact qz (i+1,H2) ⟨by simp only;omega,qwH hi c2 (decide_eq_false hb),rfl⟩ (by simp only;omega) (by simp only [ix])
 · have hi : i = d.sh.length := by simp at hc; omega
   subst hi
   rw [List.take_length] at c2
   rw [hK0]
   simp -implicitDefEqProofs (disch:=omega)[qb,c2]
theorem qwI (d:Dy):qC Tryz.prog 30 [DyV d] (B (qjT d)):=by
 refine qT (walk Tryz.func30 qww (by kernel_rfl) (by show 1≤_;decide) ?_)
 simp -implicitDefEqProofs (disch:=omega)[qwq,qb,dyC]
 unfold qjT
 by_cases q1:40<d.rc.length
 case pos =>
  have e1:=qwU (n:=d.rc.length) (k:=40) (by omega)
  simp -implicitDefEqProofs (disch:=omega)[qb,e1,q1]
 have e1:=qwT (n:=d.rc.length) (k:=40) (by omega)
 simp -implicitDefEqProofs (disch:=omega)[qb,e1,q1]
 by_cases q2:70<d.pat.length
 case pos =>
  have e2:=qwU (n:=d.pat.length) (k:=70) (by omega)
  simp -implicitDefEqProofs (disch:=omega)[qb,e2,q2]
 have e2:=qwT (n:=d.pat.length) (k:=70) (by omega)
 simp -implicitDefEqProofs (disch:=omega)[qb,e2,q2]
 by_cases q3:60<d.sh.length
 case pos =>
  have e3:=qwU (n:=d.sh.length) (k:=60) (by omega)
  simp -implicitDefEqProofs (disch:=omega)[qb,e3,q3]
 have e3:=qwT (n:=d.sh.length) (k:=60) (by omega)
 simp -implicitDefEqProofs (disch:=omega)[qb,e3,q3]
 refine qO (fun q:Nat × List HObj=>⟨[(1,.ref 0 0),(3,I (q.1:Int))],q.2⟩) (fun q=>q.1≤d.rc.length∧(d.rc.take q.1).any qvs=false∧q.2=[.cells (dyC d)]) (fun q=>d.rc.length - q.1) (0,[.cells (dyC d)]) ⟨Nat.zero_le _,rfl,rfl⟩ rfl ?_
 rintro ⟨i,H2⟩ ⟨c1,c2,rfl⟩
 simp only at c1 c2 ⊢
 refine qW fun K0 hK0=>?_
 simp -implicitDefEqProofs (disch:=omega)[qb,qf,dyC]
 refine qP (fun hc=>?_) (fun hc=>?_)
 · have hi : i < d.rc.length := by simpa using hc
   have ix:((i:Int)+1)=((i+1:Nat):Int):=by omega
   by_cases hb:20<d.rc[i].2.length
   · have hb' : (20 < (d.rc[i].2.length : Int)) = True := by simp only [eq_iff_iff,iff_true]; omega
     have:=qwJ (f:=qvs) hi (by unfold qvs;simp [hb])
     rw [hK0]
     simp -implicitDefEqProofs (disch:=omega)[qb,hi,qf,dyC,hb',this]
   have hb':(20<(d.rc[i].2.length:Int))=False:=by simp only [eq_iff_iff,iff_false];omega
   by_cases hc2:100<d.rc[i].1.length
   · have hc' : (100 < (d.rc[i].1.length : Int)) = True := by simp only [eq_iff_iff,iff_true]; omega
     have:=qwJ (f:=qvs) hi (by unfold qvs;simp [hc2])
     rw [hK0]
     simp -implicitDefEqProofs (disch:=omega)[qb,hi,qf,dyC,hb',hc',this]
   have hc':(100<(d.rc[i].1.length:Int))=False:=by simp only [eq_iff_iff,iff_false];omega
   simp -implicitDefEqProofs (disch:=omega)[qb,hi,qf,dyC,hb',hc']
   rw [hK0]
   refine qz (i+1,[.cells (dyC d)]) ⟨by simp only;omega,qwH hi c2 (by unfold qvs;simp [hb,hc2]),rfl⟩ (by simp only;omega) (by simp only [ix,dyC])
 · have hi : i = d.rc.length := by simp at hc; omega
   subst hi
   rw [List.take_length] at c2
   rw [hK0]
   have t:=qwO (d:=d) (by omega) (H:=[.cells (dyC d)]) rfl [(3,I (d.rc.length:Int))]
   simp -implicitDefEqProofs (disch:=omega)[qws,qwq,qb,dyC,c2] at t ⊢
   exact t
theorem qwN {l:List Pt} {k:Nat} {f:Bool} {K:AV→List (Nat × HObj)→Prop} (h:k<l.length):qnr 3 (JG f l) (some (I (k:Int))) (some (I ((k:Int)+1))) none K=K (JG (f&&decide (k+1=l.length)) [l[k]]) []:=by
 rw [qm2]
 have e1:((k:Int)+1).toNat=k+1:=by omega
 have e2:((k:Int)).toNat=k:=by omega
 rw [e1,e2]
 have e3:zT (fl ptC l) (k*3) ((k+1 - k)*3)=fl ptC [l[k]]:=by
  rw [zT,show k+1 - k=1 by omega,Nat.one_mul,qfV qaJ h,Qi,YY,List.append_nil]
 rw [e3,show k+1 - k=1 by omega]
 have:(0≤(k:Int)∧(k:Int)≤(k:Int)+1∧(k:Int)+1≤l.length∧(fl ptC l).length=l.length*3)=True:=by
  simp only [eq_iff_iff,iff_true];exact ⟨by omega,by omega,by omega,qaK⟩
 rw [this,true_and];rfl
theorem qwQ (d:Dy) (hd:DyI d) (p:Pt) (i:Int) (hi64:i64 i):qC Tryz.prog 39 [DyV d,.agg (ptC p),I i] (.tup [U (atR d p i),I (atE d p i)]):=by
 unfold i64 at hi64
 refine qT (walk Tryz.func39 qwK (by kernel_rfl) (by show 3≤_;decide) ?_)
 simp -implicitDefEqProofs (disch:=omega)[qwM,qb,dyC,ptC]
 refine qg (ys:=[DyV d,.agg (ptC p)]) (ids:=[]) rfl (qwx d hd p) ?_
 simp -implicitDefEqProofs (disch:=omega)[qb,AV.scalar]
 by_cases hE:Zb d p=0
 case neg =>
  have hE':(Zb d p != 0)=true:=by rw [bne_iff_ne];exact hE
  have h1:atE d p i=Zb d p:=if_neg hE
  have h2:atR d p i=0:=if_neg (by rw [h1];exact hE)
  rw [h1,h2]
  simp -implicitDefEqProofs (disch:=omega)[qb,hE']
  exact ⟨[],rfl⟩
 have hE':(Zb d p != 0)=false:=by rw [hE];rfl
 simp -implicitDefEqProofs (disch:=omega)[qb,hE']
 by_cases b1:0≤i
 case neg =>
  have b1':(i<0)=True:=by simp only [eq_iff_iff,iff_true];omega
  have h1:atE d p i=3:=by unfold atE;rw [if_pos hE,if_pos (.inl (by omega))]
  have h2:atR d p i=0:=if_neg (by rw [h1];decide)
  rw [h1,h2]
  simp -implicitDefEqProofs (disch:=omega)[qb,b1']
  exact ⟨[],rfl⟩
 have b1':(i<0)=False:=by simp only [eq_iff_iff,iff_false];omega
 by_cases b2:i<qc6 d p
 case neg =>
  have b2':(qc6 d p≤i)=True:=by simp only [eq_iff_iff,iff_true];omega
  have h1:atE d p i=3:=by unfold atE;rw [if_pos hE,if_pos (.inr (by omega))]
  have h2:atR d p i=0:=if_neg (by rw [h1];decide)
  rw [h1,h2]
  simp -implicitDefEqProofs (disch:=omega)[qb,b1',b2']
  exact ⟨[],rfl⟩
 have b2':(qc6 d p≤i)=False:=by simp only [eq_iff_iff,iff_false];omega
 have h1:atE d p i=0:=by unfold atE;rw [if_pos hE,if_neg (by omega)]
 have h2:atR d p i=atF (qu d.rc) d.rc (d.rc.length+1) p i:=if_pos h1
 obtain ⟨hb,hp⟩:=VL.1 hE
 have V:=jw.1 hb
 have hrl:=V.rl
 have hLO:=jO V.recV
 have hln:=zy d.rc
 have hpos := qmB V.recV (fun b hb => by
  obtain ⟨j,hj,rfl⟩:=List.mem_iff_getElem.1 hb
  have:=(Q6 (V.rb j hj)).2.1
  intro e;rw [e] at this;simp at this) d.rc.length (Nat.le_refl _)
 rw [List.take_length] at hpos
 rw [h1,h2]
 simp -implicitDefEqProofs (disch:=omega)[qb,b1',b2',dyC]
 refine qg (ys:=[Bks d.rc]) (ids:=[]) rfl (qfc false d.rc V.recV (fun b hb=>by have:=(hd.rc b hb).1.2;omega)) ?_
 simp -implicitDefEqProofs (disch:=omega)[qb,AV.scalar]
 generalize hR:atF (qu d.rc) d.rc (d.rc.length+1) p i=R
 refine qO (fun q:Nat × Pt × Int=>⟨[(2,I q.2.2),(3,.ref 0 0),(4,.ref 1 0),(10,Ls false (qu d.rc))],[.cells (dyC d),.cells (ptC q.2.1)]⟩) (fun q=>qI d.rc.length q.2.1=true∧0≤q.2.2∧q.2.2≤9223372036854775807∧atF (qu d.rc) d.rc q.1 q.2.1 q.2.2=R∧q.2.1.2.1<q.1) (fun q=>(q.2.1.2.1+1).toNat) (d.rc.length+1,p,i) ⟨hp,b1,hi64.2,hR,by rcases zk hp with ⟨h,_⟩ | ⟨_,_,h⟩ <;> (simp only;omega)⟩ rfl ?_
 clear hR b2 b2' b1 b1' h1 h2 hE hE' hp
 rintro ⟨n,q,j⟩ ⟨hp,c1,c2,c3,c4⟩
 simp only at hp c1 c2 c3 c4 ⊢
 refine qW fun K0 hK0=>?_
 simp -implicitDefEqProofs (disch:=omega)[qb,dyC,ptC]
 refine qP (fun hc=>?_) (fun hc=>?_)
 · have h0 : 0 ≤ q.2.1 := by simpa using hc
   have hr:q.2.1.toNat<d.rc.length:=by rcases zk hp with ⟨h,_⟩ | ⟨_,_,h⟩ <;> omega
   have hr2:q.2.1<(d.rc.length:Int):=by omega
   have hr3:q.2.1.toNat<(qu d.rc).length:=by omega
   have hr4:q.2.1<((qu d.rc).length:Int):=by omega
   obtain ⟨m,rfl⟩:∃ m,n=m+1:=⟨n - 1,by omega⟩
   have hL1:=hpos _ (List.getElem_mem hr3)
   have hL2:=V.rm _ (List.getElem_mem hr3)
   have hmx:QM=1099511627776:=rfl
   have hne0:(qu d.rc)[q.2.1.toNat]≠0:=by omega
   have tm0:0≤j.tmod (qu d.rc)[q.2.1.toNat]:=Int.tmod_nonneg _ c1
   have tm1:j.tmod (qu d.rc)[q.2.1.toNat]<(qu d.rc)[q.2.1.toNat]:=Int.tmod_lt_of_pos _ (by omega)
   simp -implicitDefEqProofs (disch:=omega)[qb,h0,hr,hr2,hr3,hr4,JH,hne0,dyC,ptC]
   have hlg:=qmA V.recV hr hr3
   have hpl:∀ p∈d.rc[q.2.1.toNat].2,qI (qu d.rc).length p=true:=fun p hp'=>WC (V.recV.1 _ hr p hp') (by omega)
   have hpr:=V.recV.1 _ hr
   have hbl:=(Q6 (V.rb _ hr)).2.2.1
   have hraw:=qdH (fun x hx=>by have:=hpos x hx;omega) hpl
   have hfar:JS=1125899906842624:=rfl
   have hst:atF (qu d.rc) d.rc (m+1) q j=atF (qu d.rc) d.rc m (qdf (qu d.rc) d.rc[q.2.1.toNat].2 (j.tmod (qu d.rc)[q.2.1.toNat])).1 (qdf (qu d.rc) d.rc[q.2.1.toNat].2 (j.tmod (qu d.rc)[q.2.1.toNat])).2:=by
    conv=>lhs;unfold atF
    rw [if_neg (by omega),List.getD_eq_getElem?_getD,List.getElem?_eq_getElem hr,List.getD_eq_getElem?_getD,List.getElem?_eq_getElem hr3];rfl
   rw [hst] at c3
   have hjl:j.tmod (qu d.rc)[q.2.1.toNat]<qfd (qu d.rc) d.rc[q.2.1.toNat].2:=by omega
   have hrm:qfd (qu d.rc) d.rc[q.2.1.toNat].2≤QM:=by omega
   clear hst hraw hlg hne0 tm1 hL1 hL2
   generalize hl:d.rc[q.2.1.toNat].2=l at *
   generalize j.tmod (qu d.rc)[q.2.1.toNat]=j0 at *
   refine qO (fun t:Nat × Int=>⟨[(2,I t.2),(3,.ref 0 0),(4,.ref 1 0),(10,Ls false (qu d.rc)),(11,Pts l),(12,I (t.1:Int))],[.cells (dyC d),.cells (ptC q)]⟩) (fun t=>t.1≤l.length∧qdf (qu d.rc) (l.drop t.1) t.2=qdf (qu d.rc) l j0∧0≤t.2∧t.2<qfd (qu d.rc) (l.drop t.1)∧qfd (qu d.rc) (l.drop t.1)≤QM) (fun t=>l.length - t.1) (0,j0) ⟨Nat.zero_le _,rfl,tm0,hjl,hrm⟩ rfl ?_
   rintro ⟨k,j'⟩ ⟨d1,d2,d3,d4,d5⟩
   simp only at d1 d2 d3 d4 d5 ⊢
   refine qW fun K1 hK1=>?_
   have hk:k<l.length:=by
    apply Nat.lt_of_not_le;intro hge
    rw [List.drop_eq_nil_of_le hge] at d4
    simp [qfd] at d4;omega
   have hdr:l.drop k=l[k]::l.drop (k+1):=List.drop_eq_getElem_cons hk
   have hpk:=hpl _ (List.getElem_mem hk)
   have hp1:∀ p∈[l[k]],qI (qu d.rc).length p=true:=fun p hp'=>by rw [List.mem_singleton] at hp';rw [hp'];exact hpk
   have rT:=fun f=>VT false f _ [l[k]] hLO hp1 (by simp)
   have tg:=Vo hLO hp1
   rw [hdr] at d2 d4 d5
   have ew:IntKind.i64.wrap ((k:Int)+1)=(k:Int)+1:=qb (by omega)
   simp -implicitDefEqProofs (disch:=omega)[qb,qwN hk,-qm2]
   refine qg (ys:=[Ls false (qu d.rc),JG false [l[k]]]) (ids:=[]) rfl (rT false) ?_
   have hone:=qqa (long:=qu d.rc) (p:=l[k])
   have hrc:qfd (qu d.rc) (l[k]::l.drop (k+1))=ja (qu d.rc) l[k]*l[k].2.2+qfd (qu d.rc) (l.drop (k+1)):=rfl
   have hr0:=(qdH (fun x hx=>by have:=hpos x hx;omega) (l:=l.drop (k+1)) (fun p hp'=>hpl p (List.mem_of_mem_drop hp'))).1
   have hpk2:qdf (qu d.rc) (l[k]::l.drop (k+1)) j'=if j'<QZ (qu d.rc) [l[k]] then (l[k],j') else qdf (qu d.rc) (l.drop (k+1)) (j' - QZ (qu d.rc) [l[k]]):=rfl
   have hin:=hpr _ (List.getElem_mem hk)
   generalize ja (qu d.rc) l[k]*l[k].2.2=X at *
   generalize QZ (qu d.rc) [l[k]]=T at *
   simp -implicitDefEqProofs (disch:=omega)[qb,AV.scalar]
   by_cases hT:T≤j'
   case pos =>
    have kx:((k:Int)+1)=((k+1:Nat):Int):=by omega
    rw [hpk2,if_neg (by omega)] at d2
    simp -implicitDefEqProofs (disch:=omega)[qb,hT,qwN hk,-qm2]
    refine qg (ys:=[Ls false (qu d.rc),JG false [l[k]]]) (ids:=[]) rfl (rT false) ?_
    simp -implicitDefEqProofs (disch:=omega)[qb,AV.scalar]
    rw [hK1]
    exact qz (k+1,j' - T) ⟨by simp only;omega,d2,by simp only;omega,by simp only;omega,by simp only;omega⟩ (by simp only;omega) (by simp only [kx])
   case neg =>
    have hT':(T≤j')=False:=by simp only [eq_iff_iff,iff_false];exact hT
    rw [hpk2,if_pos (by omega)] at d2
    rw [←d2] at c3
    subst hK1
    simp -implicitDefEqProofs (disch:=omega)[qb,hT',hk,ptC,qt]
    rw [hK0]
    have hlt:l[k].2.1<q.2.1∨l[k].2.1 = -1:=by
     rcases zk hin with ⟨h,_⟩ | ⟨_,_,h⟩ <;> omega
    refine qz (m,l[k],j') ⟨by rw [←hln];exact hpk,d3,by simp only;omega,c3,by simp only;omega⟩ (by simp only;omega) ?_
    rfl
 · have h0 : q.2.1 < 0 := by simp at hc; omega
   have e:R=q.1:=by
    rw [←c3]
    cases n with
    | zero=>rfl
    | succ n=>unfold atF;rw [if_pos h0]
   rw [hK0,e]
   simp -implicitDefEqProofs (disch:=omega)[qb]
   exact ⟨[],rfl⟩
theorem qwv (d:Dy) (hd:DyT d) (p:Pt) (n:Int) (hn:i64 n) (c:Int) (hc:0≤c∧c≤255):qC Tryz.prog 6 [DyV d,.agg (ptC p),I n,U c] (B true):=by
 refine qT (walk Tryz.func6 qwu (by kernel_rfl) (by show 4≤_;decide) ?_)
 simp -implicitDefEqProofs (disch:=omega)[qwr,qb,qf,dyC,ptC]
 have ed:[Bks d.rc,I d.bath,I d.laid,Pts d.pat,Shs d.sh]=dyC d:=rfl
 have ep:[U p.1,I p.2.1,I p.2.2]=ptC p:=rfl
 simp only [ed,ep]
 refine qg (ys:=[DyV d]) (ids:=[]) rfl (qwI d) ?_
 simp -implicitDefEqProofs (disch:=omega)[qb,AV.scalar]
 cases hg:qjT d with
 | true =>
   simp -implicitDefEqProofs (disch:=omega)[qb,AV.scalar]
   refine qg (ys:=[]) (ids:=[]) rfl qqz ?_
   simp -implicitDefEqProofs (disch:=omega)[qb,AV.scalar]
 | false =>
   have dI:=hd.i hg
   simp -implicitDefEqProofs (disch:=omega)[qb,AV.scalar,qf,dyC,ptC]
   simp only [ed,ep]
   refine qg (ys:=[DyV d,.agg (ptC p)]) (ids:=[]) rfl (qjY d dI p) ?_
   simp -implicitDefEqProofs (disch:=omega)[qb,AV.scalar,qf,dyC,ptC]
   simp only [ed,ep]
   refine qg (ys:=[DyV d,.agg (ptC p)]) (ids:=[]) rfl (qwx d dI p) ?_
   simp -implicitDefEqProofs (disch:=omega)[qb,AV.scalar,qf,dyC,ptC]
   simp only [ed,ep]
   refine qg (ys:=[DyV d,.agg (ptC p),I n]) (ids:=[]) rfl (qjV d dI p n hn) ?_
   simp -implicitDefEqProofs (disch:=omega)[qb,AV.scalar,qf,dyC,ptC]
   simp only [ed,ep]
   refine qg (ys:=[DyV d,.agg (ptC p),I n]) (ids:=[]) rfl (qwQ d dI p n hn) ?_
   simp -implicitDefEqProofs (disch:=omega)[qb,AV.scalar,qf,dyC,ptC]
   simp only [ed,ep]
   refine qg (ys:=[DyV d,.agg (ptC p),U c]) (ids:=[]) rfl (qjZ d dI p c hc) ?_
   simp -implicitDefEqProofs (disch:=omega)[qb,AV.scalar,qf,dyC,ptC]
   simp only [ed,ep]
   refine qg (ys:=[DyV d,.agg (ptC p),U c]) (ids:=[]) rfl (qwL d dI p c) ?_
   simp -implicitDefEqProofs (disch:=omega)[qb,AV.scalar]
   refine qg (ys:=[]) (ids:=[]) rfl qqz ?_
   simp -implicitDefEqProofs (disch:=omega)[qb,AV.scalar]
end Go.AM
