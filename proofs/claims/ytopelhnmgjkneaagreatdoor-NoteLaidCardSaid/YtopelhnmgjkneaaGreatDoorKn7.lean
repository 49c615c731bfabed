/-
  Kn7: texts joined: Hq1 Hq2 Hs4 Hr1 Hr2 Hr3 Hw1 We1 Hd4 We2 Hr4 Hr5 Hr6 Nt20 Nt21 Ht1 Ht2 Ht3 Ht4 Hw2 Hw3 Hw4 Hw5 Hw6 Hc9 Lw1 Lw2 ArN ArM WoN. Own work.
-/
import Derived.Test.YtopelhnmgjkneaaGreatDoorKn6
import Derived.Test.YtopelhnmgjkneaaGreatDoorRows
import Derived.Lib.LaidTab
import Derived.Stop.LaidErr
import Derived.Deep.DeepHandedRow
import Derived.Test.YtopelhnmgjkneaaGreatDoorCards
import Derived.LaidByTextLater
import Derived.LaidSub
import Derived.LaidOnce
import Derived.ProofKit
import Derived.OpenShut
import Derived.ChangeOld
import Derived.Below
import Derived.SevenTiedAt
import Derived.Lib.TrailingZeros
set_option linter.all false
set_option linter.unusedSimpArgs false
set_option linter.unusedVariables false
set_option linter.unusedSectionVars false

namespace Go.AM
open Go.RowKit Go.Proofs
theorem qpv {H:List HObj} {x:AV} {n:Nat} {cs:List AV} {K:AV→List (Nat × HObj)→Prop} (h:AccG H x 1 n cs) (k:K x []):qnr 1 x none (some (I (n:Int))) (some (I (n:Int))) K:=by
 rcases h with ⟨rfl,rfl,_⟩ | ⟨id,rfl,_⟩
 · exact qdA (n:=0) rfl rfl rfl k
 · refine ⟨_,_,⟨0,n,rfl,rfl,Nat.zero_le _,Nat.le_refl _,rfl,⟨n,rfl,Nat.le_refl _,Nat.le_refl _,rfl⟩,rfl,rfl⟩,?_⟩
   simpa using k
def V2:AC:=match qck with
 | .seq _ (.seq _ (.seq _ (.seq _ (.seq _ (.seq _ (.seq (.seq _ (.block _ (.loop x))) _))))))=>x
 | x=>x
def qow:List Grp:=match V2 with
 | .seq _ (.seq _ (.seq (.block _ (.seq _ (.drw gs _ _))) _))=>gs
 | _=>[]
theorem qkx:V2 = .seq (.rgn [⟨none,[(.bin 26 .lss (.t 25) (.t 24))]⟩] [7,8,9,23,24,25,26]) (.seq (.cond (.t 26) .skip (.exit 0)) (.seq (.block 1 (.seq (.rgn [⟨none,[(.ia 27 1 (.t 23) (.t 25)),(.ld 28 false 1 (.t 27)),(.mv 11 (.t 28))]⟩] [7,8,9,11,23,24,25]) (.drw qow [] [7,8,9,23,24,25]))) (.rgn [⟨none,[(.bin 40 .add (.t 25) (.k (I 1))),(.mv 25 (.t 40))]⟩] [7,8,9,23,24,25]))):=by kernel_rfl
theorem qpq:qck = .seq (.rgn [⟨none,[(.mv 2 (.k (.v (.pointer none)))),(.mv 3 (.k (.sl true 0 []))),(.mv 4 (.k (I 0)))]⟩] [0]) (.seq (.rgn [⟨none,[(.mv 13 (.t 0)),(.call 14 114 [(.t 13)]),(.mv 12 (.t 14)),(.ext 15 (.t 12) 0),(.ext 16 (.t 12) 1),(.mv 5 (.t 15)),(.mv 6 (.t 16))]⟩] [5,6]) (.seq (.seq (.rgn [⟨none,[(.mv 17 (.t 6)),(.bin 18 .neq (.t 17) (.k (I 0)))]⟩] [5,6,18]) (.cond (.t 18) (.seq (.rgn [⟨none,[(.mv 19 (.t 6)),(.mv 2 (.k (.v (.pointer none)))),(.mv 3 (.k (.sl true 0 []))),(.mv 4 (.t 19))]⟩] [2,3,4]) .ret) .skip)) (.seq (.rgn [⟨none,[(.call 20 115 []),(.mv 7 (.t 20))]⟩] [5,7]) (.seq (.rgn [⟨none,[(.mv 21 (.t 7)),(.mkf 22 (.func 116) [(.t 21)] []),(.mv 8 (.t 22))]⟩] [5,7,8]) (.seq (.rgn [⟨none,[(.mv 9 (.k (.sl true 0 [])))]⟩] [5,7,8,9]) (.seq (.seq (.rgn [⟨none,[(.mv 23 (.t 5)),(.len 24 (.t 23)),(.mv 25 (.k (I 0)))]⟩] [7,8,9,23,24,25]) (.block 0 (.loop V2))) (.seq (.rgn [⟨none,[(.mv 41 (.t 7)),(.mv 42 (.t 9)),(.mv 2 (.t 41)),(.mv 3 (.t 42)),(.mv 4 (.k (I 0)))]⟩] [2,3,4]) .ret))))))):=by kernel_rfl
theorem qbm {H:List HObj} {K:AV→List HObj→Prop} (hK:∀ H',Ext H H'→Lg H' (H.length+1) H.length pl0→K (.ref (H.length+1) 0) H'):zG Tryz.prog 115 [] H K:=by
 refine Y7 (qcX ?_)
 have x0:=Ext.app H [mpK Qb [] 0,.cells [.sl true 0 [],I 0,I 0,.sl true 0 [],.sl true 0 [],.mp H.length,.sl true 0 [],I 0]]
 have m0:qr (H++[mpK Qb [] 0,.cells [.sl true 0 [],I 0,I 0,.sl true 0 [],.sl true 0 [],.mp H.length,.sl true 0 [],I 0]]) H.length=some (mpK Qb [] 0):=V1
 have a0:qr (H++[mpK Qb [] 0,.cells [.sl true 0 [],I 0,I 0,.sl true 0 [],.sl true 0 [],.mp H.length,.sl true 0 [],I 0]]) (H.length+1)=some (.cells [.sl true 0 [],I 0,I 0,.sl true 0 [],.sl true 0 [],.mp H.length,.sl true 0 [],I 0]):=WL
 generalize H++[mpK Qb [] 0,.cells [.sl true 0 [],I 0,I 0,.sl true 0 [],.sl true 0 [],.mp H.length,.sl true 0 [],I 0]]=H1 at *
 have fz:=fun j=>qaA (H:=H1) (ids:=[]) (id:=H.length+1) (o := .cells (dyC dy0++[.mp H.length,Xj [],I 0])) (by simp) (qj a0) j
 refine ⟨H.length+1,_,dyC dy0++[.mp H.length,Xj [],I 0],[],a0,FzL.wk (.cons .slf (.cons (.refl _) (.cons (.refl _) (.cons .slf (.cons .slf (.cons (.refl _) (.cons .slf .rfl'))))))),by simp,by simp,hK _ ⟨Nat.le_trans x0.1 (Zz _ _),fun j hj=>?_⟩ ⟨(fz _).trans (if_pos rfl),[],0,?_,fun x=>rfl,.nil⟩⟩
 · rw [fz j,if_neg (by omega),if_neg (by simp)];exact x0.2 j hj
 · rw [fz,if_neg (by omega),if_neg (by simp)];exact m0
set_option maxHeartbeats 8000000 in
theorem qht {s : List UInt8} (hs : s.length ≤ 1000000) {H : List HObj} {K : AV → List HObj → Prop} (k0 : V0 s ≠ 0 → K (.tup [.v (.pointer none),.sl true 0 [],I (V0 s)]) H)
 (k1:V0 s=0→∀ H' a mid x,Lg H' a mid (jQ (qaw s))→AccG H' x 1 (jQ (qaw s)).errs.length (fl qjb (jQ (qaw s)).errs)→H.length≤a→H.length≤mid→(∀ i,rid x=some i→H.length≤i∧i≠a∧i≠mid)→Ext H H'→K (.tup [.ref a 0,x,I 0]) H') :
 zG Tryz.prog 67 [S s] H K:=by
 refine qjs fun w1 g1=>Yl Tryz.func67 qf5 (by kernel_rfl) (by show 1≤_;decide) ?_
 rw [qpq]
 refine Qh YP Vm ?_
 simp -implicitDefEqProofs (disch:=omega)[qb]
 refine Qh YP Vm ?_
 simp -implicitDefEqProofs (disch:=omega)[qb]
 refine qg (ys:=[S s]) (ids:=[]) rfl (qiu s hs) ?_
 simp -implicitDefEqProofs (disch:=omega)[qb,AV.scalar]
 refine Qh YP Vm ?_
 by_cases e0:V0 s=0
 case neg =>
  have e0':(V0 s != 0)=true:=by rw [bne_iff_ne];exact e0
  simp -implicitDefEqProofs (disch:=omega)[qb,e0']
  exact k0 e0
 have e0':(V0 s != 0)=false:=by rw [e0];rfl
 have k1:=k1 e0
 obtain ⟨hl,hw⟩:=qgh (s:=s)
 simp -implicitDefEqProofs (disch:=omega)[qb,e0']
 generalize qaw s=ls at *
 refine Qh YP Vm ?_
 simp -implicitDefEqProofs (disch:=omega)[qb]
 refine qbm fun H1 x0 L0=>?_
 obtain ⟨a,ea⟩:∃ a,H.length+1=a:=⟨_,rfl⟩
 obtain ⟨mid,em⟩:∃ m,H.length=m:=⟨_,rfl⟩
 rw [ea,em] at L0
 simp -implicitDefEqProofs (disch:=omega)[qb,ea]
 refine Qh YP Vm ?_
 simp -implicitDefEqProofs (disch:=omega)[qb]
 refine Qh YP Vm ?_
 simp -implicitDefEqProofs (disch:=omega)[qb]
 refine ZX (Qh YP Vm ?_)
 simp -implicitDefEqProofs (disch:=omega)[qb]
 refine jD ?_
 refine XK (fun q : Nat × AV × List HObj => ⟨[(7,.ref a 0),(8,.fn (.func 116) [.ref a 0] []),(9,q.2.1),(23,qqK ls),(24,I (ls.length : Int)),(25,I (q.1 : Int))],q.2.2⟩)
  (fun q=>q.1≤ls.length∧Lg q.2.2 a mid (jQ (ls.take q.1))∧AccG q.2.2 q.2.1 1 q.1 (fl qjb (jQ (ls.take q.1)).errs)∧(∀ i,rid q.2.1=some i→mid≤i∧i≠a∧i≠mid)∧Ext H q.2.2)
  (fun q=>ls.length - q.1) (0,.sl true 0 [],H1) ⟨Nat.zero_le _,L0,.nil,by simp [rid],x0⟩ (St.le.rfl' _) ?_
 rintro ⟨i,x,H2⟩ ⟨c1,c2,c3,c4,c5⟩
 simp only at c1 c2 c3 c4 c5 ⊢
 rw [qkx]
 refine Qh YP Vm ?_
 simp -implicitDefEqProofs (disch:=omega)[qb]
 have V:=qdg hl i c1
 refine ZX (XJ (t:=decide (i<ls.length)) rfl (fun hc=>ZB YP Vm ?_) (fun hc=>ZB YP Vm ?_))
 · have hi : i < ls.length := by simpa using hc
   have R:=qpp hl i c1
   have hwi:=hw _ (List.getElem_mem hi)
   have ix:((i:Int)+1)=((i+1:Nat):Int):=by omega
   have st:=Yy hi
   have hel:=V.errs
   rw [hc]
   simp -implicitDefEqProofs (disch:=omega)[qb]
   refine ZX (jD (Qh YP Vm ?_))
   simp -implicitDefEqProofs (disch:=omega)[qb,hi]
   refine Y5 YP [⟨none,[(.mv 29 (.t 9)),(.mv 30 (.t 9)),(.len 31 (.t 30)),(.mv 32 (.t 9)),(.len 33 (.t 32)),(.slc 34 1 (.t 29) none (some (.t 31)) (some (.t 33))),(.mv 35 (.t 8)),(.mv 36 (.t 11))]⟩]
    [⟨none,[(.bsl 38 1 1 [(I 0)] [(0,(.t 37))]),(.app 39 1 8 (.t 34) (.t 38)),(.mv 9 (.t 39))]⟩]
    [] 8 [([],[]),([],[]),([],[]),([],[]),([],[]),([],[]),([],[]),([],[]),([],[])] none (.callv 37 (.t 35) [(.t 36)]) (by kernel_rfl) (by kernel_rfl) (by kernel_rfl) (by kernel_rfl) (by kernel_rfl) (by kernel_rfl) (by kernel_rfl) (.inr ⟨_,_,_,rfl⟩) ?_
   simp -implicitDefEqProofs (disch:=omega)[qb,c3.lenW]
   refine qpv c3 ?_
   simp -implicitDefEqProofs (disch:=omega)[qb,qjU,XP]
   refine ⟨by kernel_rfl,?_⟩
   refine jI (fun r H3 hq=>?_) (qsf V (by omega) R (by omega) c2)
   obtain ⟨e,rfl,q1,q2,q3,q4⟩:=hq
   simp -implicitDefEqProofs (disch:=omega)[qb]
   have g3:AccG H3 x 1 i (fl qjb (jQ (ls.take i)).errs):=c3.mono fun j hj=>q4 j (c3.lt hj) (c4 j hj).2.1 (c4 j hj).2.2
   have g5:∀ j,rid x=some j→j<H2.length:=fun j hj=>c3.lt hj
   refine zq (ys:=[I e]) (ids:=[]) rfl rfl ?_
   simp -implicitDefEqProofs (disch:=omega)[qb,zP]
   refine Q5 (ys:=[I e]) g3 (by omega) (by decide) rfl rfl fun vs w1' w2' w3'=>?_
   simp -implicitDefEqProofs (disch:=omega)[qb]
   refine ZB YP Vm ?_
   simp -implicitDefEqProofs (disch:=omega)[qb]
   have la:=qj q2.obj
   obtain ⟨E,clk,qm,qn⟩:=q2.map
   have lm:=qj qm
   have na:rid x≠some a:=fun h=>(c4 a h).2.1 rfl
   have nm:rid x≠some mid:=fun h=>(c4 mid h).2.2 rfl
   refine qz (i+1,.ms H3.length 0 (i+1) 1,qH H3 vs) ⟨by simp only;omega,?_,?_,fun j hj=>?_,⟨by have:=c5.1;simp only;omega,fun j hj=>?_⟩⟩ (by simp only;omega) (by simp only [ix])
   · rw [st]
     exact ⟨(w1' a la na).trans q2.obj,E,clk,(w1' mid lm nm).trans qm,qn⟩
   · rw [st,q1,jr];exact w3'
   · simp only [rid] at hj; injection hj with hj
     omega
   · refine (w1' j (by have:=c5.1;omega) (fun h=>by have:=(c4 j h).1;omega)).trans ((q4 j (by have:=c5.1;omega) (by omega) (by omega)).trans (c5.2 j hj))
 · have hi : i = ls.length := by simp at hc; omega
   subst hi
   rw [List.take_length] at c2 c3 V
   simp -implicitDefEqProofs (disch:=omega)[qb]
   refine ZB YP Vm ?_
   simp -implicitDefEqProofs (disch:=omega)[qb]
   exact k1 H2 a mid x c2 (by rw [V.errs];exact c3) (by omega) (by omega) (fun j hj=>by have:=c4 j hj;omega) c5
set_option maxHeartbeats 2000000 in
theorem qhs (s:List UInt8) (hs:s.length≤1000000):qC Tryz.prog 24 [S s] (.tup [DyV (qku s),qqH (qmV s),I (V0 s)]):=by
 refine zO (zj Tryz.func24 qip qiQ (by show 1≤_;decide) ?_)
 simp -implicitDefEqProofs (disch:=omega)[qjh,qb]
 refine qht hs (fun e0=>?_) (fun e0 H' a mid x q1 q2 q3 q4 q5 q6=>?_)
 · have e0' : (V0 s != 0) = true := by rw [bne_iff_ne]; exact e0
   have hD:qku s=dy0:=if_neg e0
   have hE:qmV s=[]:=if_neg e0
   rw [hD,hE]
   simp -implicitDefEqProofs (disch:=omega)[qb,e0']
   refine qcb (id:=0) (off:=0) (cs:=[.sl true 0 [],I 0,I 0,.sl true 0 [],.sl true 0 []]) rfl rfl (by simp) ?_
   exact qG (r' := .tup [.agg z0,.sl true 0 [],I (V0 s)]) (is:=[]) rfl (.tupL (.cons (.aggL qlf) (.cons .slf (.cons (.refl _) .nil))))
 · have e0' : (V0 s != 0) = false := by rw [e0]; rfl
   have hD:qku s=qX (jQ (qaw s)):=if_pos e0
   have hE:qmV s=(jQ (qaw s)).errs:=if_pos e0
   rw [hD,hE,e0]
   have h1:=q1.obj
   have z0':qr H' 0=some (.cells z0):=q6.2 0 (by simp)
   generalize jQ (qaw s)=q at *
   simp -implicitDefEqProofs (disch:=omega)[qb,h1,qf,dyC]
   have lz:=qj z0'
   have n5:∀ j,j≠0→qr (H'.set 0 (.cells [Bks (qX q).rc,I (qX q).bath,I (qX q).laid,Pts (qX q).pat,Shs (qX q).sh])) j=qr H' j:=fun j hj=>qh (by omega)
   have g2:AccG (H'.set 0 (.cells [Bks (qX q).rc,I (qX q).bath,I (qX q).laid,Pts (qX q).pat,Shs (qX q).sh])) x 1 q.errs.length (fl qjb q.errs):=q2.mono fun i hi=>n5 i (by have:=(q5 i hi).1;simp at this;omega)
   simp -implicitDefEqProofs (disch:=omega)[qb,z0',qt,lz]
   refine qcb (id:=0) (off:=0) (cs:=dyC (qX q)) rfl (qi lz) (by show 0+5≤5;omega) ?_
   obtain ⟨ids,pu⟩:=g2.pur1
   refine qG (r' := .tup [DyV (qX q),.sl (decide (q.errs.length=0)) q.errs.length (fl qjb q.errs),I 0]) (is:=[]++(ids++[])) ?_ (.tupL (.cons (.refl _) (.cons .slf (.cons (.refl _) .nil))))
   have h0:∀ hp,zu hp (.agg (dyC (qX q)))=some (.agg (dyC (qX q)),[]):=fun _=>rfl
   have h3:∀ hp,Qq hp [I 0]=some ([I 0],[]):=fun _=>rfl
   show qU _ (.tup [.agg (dyC (qX q)),x,I 0])=_
   simp only [qU,Qq,pu,h0]
   rfl
set_option maxHeartbeats 2000000 in
theorem qjW (s:List UInt8) (hs:s.length≤1000000):qC Tryz.prog 26 [S s] (.tup [S (Jw (qaH s)),I (V0 s)]):=by
 refine zO (walk Tryz.func26 qfZ (by kernel_rfl) (by show 1≤_;decide) ?_)
 simp -implicitDefEqProofs (disch:=omega)[qgT,qb]
 refine qht hs (fun e0=>?_) (fun e0 H' a mid x q1 q2 q3 q4 q5 q6=>?_)
 · have e0' : (V0 s != 0) = true := by rw [bne_iff_ne]; exact e0
   have hK:qaH s=[]:=if_neg e0
   rw [hK]
   simp -implicitDefEqProofs (disch:=omega)[qb,e0']
   exact qG (r' := .tup [S [],I (V0 s)]) (is:=[]) rfl (.refl _)
 · have e0' : (V0 s != 0) = false := by rw [e0]; rfl
   obtain ⟨hk1,hk2⟩:=qkv s
   have hK:qaH s=(jQ (qaw s)).kept.take (jQ (qaw s)).at':=if_pos e0
   obtain ⟨hll,_⟩:=qgh (s:=s)
   have V:=qdg hll _ (Nat.le_refl _)
   rw [List.take_length] at V
   have h1:=q1.obj
   have ha:=V.at'
   have hkp:=V.kept
   have hdl:=V.len
   generalize jQ (qaw s)=q at *
   have hsl:=VW q
   rw [e0]
   simp -implicitDefEqProofs (disch:=omega)[-qhS,qb,h1,qf,dyC]
   rw [qkL qdB (by omega) (by omega)]
   rw [Int.toNat_natCast]
   have hst:((Vn q).take q.at').length=(qaH s).length:=by rw [hK,List.length_take,List.length_take];omega
   have hget : ∀ i (h : i < ((Vn q).take q.at').length) (h' : i < (qaH s).length),((Vn q).take q.at')[i].1 = (qaH s)[i] := fun i h h' => by
    rw [List.getElem_take,YE]
    simp only [hK,List.getElem_take]
    exact qaf (by rw [List.length_take] at h;omega)
   generalize (Vn q).take q.at'=st at *
   generalize qaH s=l at *
   clear hK
   simp -implicitDefEqProofs (disch:=omega)[qb,zW,zJ,zE]
   refine qO (fun q:Nat × List HObj=>⟨[(7,S (Jw (l.take q.1))),(27,qlt false st),(28,I (st.length:Int)),(29,I (q.1:Int))],q.2⟩) (fun q=>q.1≤st.length) (fun q=>st.length - q.1) (0,H') (Nat.zero_le _) rfl ?_
   rintro ⟨i,H2⟩ c1
   simp only at c1 ⊢
   refine qW fun K0 hK0=>?_
   simp -implicitDefEqProofs (disch:=omega)[qb]
   refine qP (fun hc=>?_) (fun hc=>?_)
   · have hi : i < st.length := by simpa using hc
     have hil:i<l.length:=by omega
     have ix:((i:Int)+1)=((i+1:Nat):Int):=by omega
     have hlt:(Jw (l.take i)).length≤400*(s.length+1):=Nat.le_trans (qiB fun w hw=>hk2 w (List.mem_of_mem_take hw)) (Nat.mul_le_mul_right _ (by rw [List.length_take];omega))
     have hll:=hk2 _ (List.getElem_mem hil)
     have hg:=hget i hi hil
     generalize ht:st[i]=t at *
     obtain ⟨tx,tl,d1,d2⟩:=t
     simp only at hg
     have hcs:∀ (K:AV→List (Nat × HObj)→Prop),Qm (fl stC st) (i*15) 15 true K=K (.agg (stC (tx,tl,d1,d2))) []:=fun K=>by rw [qct hi,ht]
     simp -implicitDefEqProofs (disch:=omega)[qb,hi,hcs,JQ,stC,lnC,dyC]
     rw [hg]
     simp -implicitDefEqProofs (disch:=first | omega | (simp only [List.length_append,List.length_cons,List.length_nil];omega)) [qb,qf,Qn]
     rw [hK0]
     refine qz (i+1,H2++[.cells (stC (tx,tl,d1,d2))]) (by simp only;omega) (by simp only;omega) ?_
     simp only [ix,qgi hil,hg,stC,lnC,dyC]
     rfl
   · have hi : i = st.length := by simp at hc; omega
     subst hi
     subst hK0
     rw [hst,List.take_length]
     simp -implicitDefEqProofs (disch:=omega)[qb]
     exact qG (r' := .tup [S (Jw l),I 0]) (is:=[]) rfl (.refl _)
theorem AccZ.lt {H x l i} (h:AccZ H x l) (hi:rid x=some i):i<H.length:=by
 rcases h with ⟨rfl,_⟩ | ⟨id,rfl,h2⟩
 · cases hi
 · cases hi;exact qj h2
theorem qk6 {α:Type} {a b:List α} {i:Nat} (hi:i<a.length) (hj:i<b.length) (h:a.take i=b.take i) (e:a[i]=b[i]):a.take (i+1)=b.take (i+1):=by
 rw [List.take_succ_eq_append_getElem hi,List.take_succ_eq_append_getElem hj,h,e]
def Sm1 (W:List UInt8) (c L:Nat) (j:Nat) (H:List HObj) (S:Nat→Prop):Prop :=
 qr H L=some (.lp .ready (L+1))∧(∃ x,qr H c=some (.cells [x])∧AccZ H x (W.take j)∧∀ i,rid x=some i→i≠c∧i≠L∧¬ S i)∧(∀ i,S i→i<H.length∧i≠c∧i≠L)∧c≠L
theorem Sm1.ext {W c L} (j:Nat) (H os:List HObj) (S:Nat→Prop) (h:Sm1 W c L j H S):Sm1 W c L j (H++os) (fun i=>S i∨(H.length≤i∧i<(H++os).length)):=by
 obtain ⟨h1,⟨x,h2,h3,h4⟩,h5,h6⟩:=h
 have l1:=qj h1
 have l2:=qj h2
 refine ⟨(qk l1).trans h1,⟨x,(qk l2).trans h2,h3.mono fun i hi=>qk (h3.lt hi),fun i hi=>⟨(h4 i hi).1,(h4 i hi).2.1,fun hh=>?_⟩⟩,fun i hi=>?_,h6⟩
 · rcases hh with hh | hh
   · exact (h4 i hi).2.2 hh
   · have:=h3.lt hi;omega
 · rcases hi with hi | hi
   · have:=h5 i hi;rw [List.length_append];omega
   · omega
theorem Sm1.sub {W c L} (j:Nat) (H:List HObj) (S S':Nat→Prop) (h:Sm1 W c L j H S) (hs:∀ i,S' i→S i):Sm1 W c L j H S':=by
 obtain ⟨h1,⟨x,h2,h3,h4⟩,h5,h6⟩:=h
 exact ⟨h1,⟨x,h2,h3,fun i hi=>⟨(h4 i hi).1,(h4 i hi).2.1,fun hh=>(h4 i hi).2.2 (hs i hh)⟩⟩,fun i hi=>h5 i (hs i hi),h6⟩
def Sm2 (W1 W2:List UInt8) (c a e L:Nat) (j:Nat) (H:List HObj) (S:Nat→Prop):Prop :=
 qr H L=some (.lp .ready (L+1))∧(∃ x,qr H c=some (.cells [x])∧AccZ H x W1∧∀ i,rid x=some i→i≠a∧i≠e∧i≠L)∧qr H a=some (.cells [I (j:Int)])∧qr H e=some (.cells [B true])∧(j≤W1.length∧W1.take j=W2.take j)∧(∀ i,S i→i<H.length∧i≠a∧i≠e∧i≠L)∧(c≠a∧c≠e∧c≠L∧a≠e∧a≠L∧e≠L)
theorem Sm2.ext {W1 W2 c a e L} (j:Nat) (H os:List HObj) (S:Nat→Prop) (h:Sm2 W1 W2 c a e L j H S):Sm2 W1 W2 c a e L j (H++os) (fun i=>S i∨(H.length≤i∧i<(H++os).length)):=by
 obtain ⟨h1,⟨x,h2,h3,h4⟩,h5,h6,h7,h8,h9⟩:=h
 have l1:=qj h1
 have l2:=qj h2
 have l5:=qj h5
 have l6:=qj h6
 refine ⟨(qk l1).trans h1,⟨x,(qk l2).trans h2,h3.mono fun i hi=>qk (h3.lt hi),h4⟩,(qk l5).trans h5,(qk l6).trans h6,h7,fun i hi=>?_,h9⟩
 rcases hi with hi | hi
 · have:=h8 i hi;rw [List.length_append];omega
 · omega
theorem Sm2.sub {W1 W2 c a e L} (j:Nat) (H:List HObj) (S S':Nat→Prop) (h:Sm2 W1 W2 c a e L j H S) (hs:∀ i,S' i→S i):Sm2 W1 W2 c a e L j H S' :=
 ⟨h.1,h.2.1,h.2.2.1,h.2.2.2.1,h.2.2.2.2.1,fun i hi=>h.2.2.2.2.2.1 i (hs i hi),h.2.2.2.2.2.2⟩
def qvr (W1 W2:List UInt8) (c a e L:Nat) (H:List HObj):Prop :=
 qr H L=some (.lp (.done (some 2)) (L+1))∧qr H e=some (.cells [B false])∧W1≠W2∧e≠L
set_option maxHeartbeats 8000000 in
theorem qj0 (d:Dy) (hd:DyI d) (a b:Int):qC Tryz.prog 44 [DyV d, I a, I b] (I (qgC d a b)):=by
 refine qT (qu2 Tryz.func44 qf3 (by kernel_rfl) (by show 3≤_;decide) ?_)
 simp -implicitDefEqProofs (disch:=omega)[qgX,qb,dyC,qqq]
 refine qg (ys:=[DyV d,I a]) (ids:=[]) rfl (Wy d hd a) ?_
 simp -implicitDefEqProofs (disch:=omega)[qb,AV.scalar,shC]
 by_cases e1:Zx d a=0
 case neg =>
  have e1':(Zx d a != 0)=true:=by rw [bne_iff_ne];exact e1
  have hE:qgC d a b=Zx d a:=if_pos e1
  rw [hE]
  simp -implicitDefEqProofs (disch:=omega)[qb,e1',Exit.ng]
 have e1':(Zx d a != 0)=false:=by rw [e1];rfl
 simp -implicitDefEqProofs (disch:=omega)[qb,e1']
 refine qg (ys:=[DyV d,I b]) (ids:=[]) rfl (Wy d hd b) ?_
 simp -implicitDefEqProofs (disch:=omega)[qb,AV.scalar,shC]
 by_cases e2:Zx d b=0
 case neg =>
  have e2':(Zx d b != 0)=true:=by rw [bne_iff_ne];exact e2
  have hE:qgC d a b=Zx d b:=by unfold qgC;rw [if_neg (by simpa using e1),if_pos e2]
  rw [hE]
  simp -implicitDefEqProofs (disch:=omega)[qb,e2',Exit.ng]
 have e2':(Zx d b != 0)=false:=by rw [e2];rfl
 obtain ⟨hb,s,hs,q1⟩:=qhR e1
 obtain ⟨_,t,ht,q2⟩:=qhR e2
 have V:=jw.1 hb
 have hrl:=V.rl
 have hLO:=jO V.recV
 have hsp:=Z0.1 (V.shm s hs).2.2.1
 have htp:=Z0.1 (V.shm t ht).2.2.1
 have hE:qgC d a b=if 4096<QZ (qu d.rc) s.pat then 7 else if 4096<QZ (qu d.rc) t.pat then 7 else if spell (spR d.rc) s.pat=spell (spR d.rc) t.pat then 0 else 15:=by
  unfold qgC;rw [if_neg (by simpa using e1),if_neg (by simpa using e2),q1,q2];rfl
 rw [hE,q1,q2]
 simp -implicitDefEqProofs (disch:=omega)[qb,e2']
 refine qg (ys:=[Bks d.rc]) (ids:=[]) rfl (Z9 false d.rc V.recV (fun b hb=>by have:=(hd.rc b hb).1.2;omega)) ?_
 simp -implicitDefEqProofs (disch:=omega)[qb,AV.scalar]
 refine qg (ys:=[Ls false (qu d.rc),Pts s.pat]) (ids:=[]) rfl (QN false false _ s.pat hLO hsp.2.1 (by omega)) ?_
 simp -implicitDefEqProofs (disch:=omega)[qb,AV.scalar]
 by_cases b1:4096<QZ (qu d.rc) s.pat
 case pos =>
  simp -implicitDefEqProofs (disch:=omega)[qb,b1,Exit.ng]
 have b1':(4096<QZ (qu d.rc) s.pat)=False:=by simp only [eq_iff_iff,iff_false];exact b1
 simp -implicitDefEqProofs (disch:=omega)[qb,b1']
 refine qg (ys:=[Ls false (qu d.rc),Pts t.pat]) (ids:=[]) rfl (QN false false _ t.pat hLO htp.2.1 (by omega)) ?_
 simp -implicitDefEqProofs (disch:=omega)[qb,AV.scalar]
 by_cases b2:4096<QZ (qu d.rc) t.pat
 case pos =>
  simp -implicitDefEqProofs (disch:=omega)[qb,b2,Exit.ng]
 have b2':(4096<QZ (qu d.rc) t.pat)=False:=by simp only [eq_iff_iff,iff_false];exact b2
 have hso:=quD V.recV V.rm d.rc.length (Nat.le_refl _)
 rw [List.take_length] at hso
 have hfar:JS=1125899906842624:=rfl
 have l1:=qaW hso (l:=s.pat) fun p hp=>by have:=Qd (hsp.2.1 p hp);omega
 have l2:=qaW hso (l:=t.pat) fun p hp=>by have:=Qd (htp.2.1 p hp);omega
 have ps:∀ p∈s.pat,qI d.rc.length p=true:=by rw [←zy d.rc];exact hsp.2.1
 have pt:∀ p∈t.pat,qI d.rc.length p=true:=by rw [←zy d.rc];exact htp.2.1
 simp -implicitDefEqProofs (disch:=omega)[qb,b2',dyC]
 have el:[Bks d.rc,I d.bath,I d.laid,Pts d.pat,Shs d.sh]=dyC d:=rfl
 simp only [el]
 refine qao ?_
 simp -implicitDefEqProofs (disch:=omega)[qb]
 have w1l:(spell (spR d.rc) s.pat).length≤4096:=by omega
 have w2l:(spell (spR d.rc) t.pat).length≤4096:=by omega
 obtain ⟨W1,hW1⟩:∃ W1,W1=spell (spR d.rc) s.pat:=⟨_,rfl⟩
 obtain ⟨W2,hW2⟩:∃ W2,W2=spell (spR d.rc) t.pat:=⟨_,rfl⟩
 rw [←hW1,←hW2]
 rw [←hW1] at w1l
 rw [←hW2] at w2l
 refine qW fun K0 hK0=>?_
 refine qsj (qfq V ps (by omega) (a:=4) rfl rfl (J:=Sm1 W1 3 6) (F:=fun _=>False) Sm1.ext Sm1.sub (fun j H S h i hi=>(h.2.2.1 i hi).1) ?_ (S:=fun i=>i=0∨i=2) ?_) ?_
 · intro j H S hj hJ
   rw [←hW1] at hj
   simp only [←hW1]
   obtain ⟨h1,⟨x,h2,h3,h4⟩,h5,_⟩:=hJ
   refine ⟨by rw [zh];exact h1,rfl,?_⟩
   have l6:=qj h1
   have l3:=qj h2
   have hjw:(W1.take j).length≤4096:=by rw [List.length_take];omega
   have hbsl:=qnf (c:=(W1[j].toNat:Int)) (by omega) (by have:=W1[j].toNat_lt;omega)
   simp -implicitDefEqProofs (disch:=omega)[qb,putPs,zh,h1,l6]
   have g2:qr (H.set 6 (.lp .busy 7)) 3=some (.cells [x]):=(qh (by omega)).trans h2
   have g1:qr (H.set 6 (.lp .busy 7)) 6=some (.lp .busy 7):=qi l6
   have g3:AccZ (H.set 6 (.lp .busy 7)) x (W1.take j):=h3.mono fun i hi=>qh (by have:=(h4 i hi).2.1;omega)
   have g4:∀ i,i≠6→qr (H.set 6 (.lp .busy 7)) i=qr H i:=fun i hi=>qh (by omega)
   have gl:(H.set 6 (.lp .busy 7)).length=H.length:=by simp
   generalize H.set 6 (.lp .busy 7)=G at *
   simp -implicitDefEqProofs (disch:=omega)[qb,g2]
   refine zq (ys:=[U (W1[j].toNat:Int)]) (ids:=[]) rfl rfl ?_
   simp -implicitDefEqProofs (disch:=omega)[qb,zP]
   refine qlz (m:=[W1[j]]) (n:=1) g3 (by omega) (by simp) rfl fun y ws q1 q2 q3 q4=>?_
   have r2:=(q1 3 (by omega) (fun e=>(h4 3 e).1 rfl)).trans g2
   have r1:=(q1 6 (by omega) (fun e=>(h4 6 e).2.1 rfl)).trans g1
   have r4:∀ i,i<H.length→rid x≠some i→i≠6→qr (qH G ws) i=qr H i:=fun i hi h6 h7=>(q1 i (by omega) h6).trans (g4 i h7)
   have ll:H.length<(qH G ws).length:=by omega
   rw [gl] at q4
   clear q1 q2 g1 g2 g3 g4
   rcases q3 with ⟨rfl,_⟩ | ⟨iy,rfl,q3⟩
   · cases q4
   have q4:iy=H.length:=by simpa [rid] using q4
   simp -implicitDefEqProofs (disch:=omega)[qb]
   generalize qH G ws=G2 at *
   have l3':=qj r2
   have l6':=qj r1
   simp -implicitDefEqProofs (disch:=omega)[qb,r2,l3']
   have n1:qr (G2.set 3 (.cells [.ms iy 0 (j+1) 1])) 6=some (.lp .busy 7):=(qh (by omega)).trans r1
   have n2:qr (G2.set 3 (.cells [.ms iy 0 (j+1) 1])) 3=some (.cells [.ms iy 0 (j+1) 1]):=qi l3'
   have n4:∀ i,i≠3→qr (G2.set 3 (.cells [.ms iy 0 (j+1) 1])) i=qr G2 i:=fun i hi=>qh (by omega)
   have nl:(G2.set 3 (.cells [.ms iy 0 (j+1) 1])).length=G2.length:=by simp
   generalize G2.set 3 (.cells [.ms iy 0 (j+1) 1])=G3 at *
   have l6'':=qj n1
   refine ⟨by rw [zh];exact n1,rfl,?_,?_⟩
   · simp only [JY,l6'',if_true]
     refine ⟨qi l6'',⟨_,(qh (by omega)).trans n2,?_,fun i hi=>?_⟩,fun i hi=>?_,by omega⟩
     · have e : W1.take (j + 1) = W1.take j ++ [W1[j]] := List.take_succ_eq_append_getElem hj
       rw [e]
       exact .inr ⟨iy,by rw [←e,List.length_take,Nat.min_eq_left (by omega)],(qh (by omega)).trans ((n4 iy (by omega)).trans q3)⟩
     · simp only [rid] at hi; injection hi with hi
       refine ⟨by omega,by omega,fun hh=>?_⟩
       have:=(h5 i hh).1;omega
     · have:=h5 i hi;rw [List.length_set];omega
   · intro i hi
     have h5i:=h5 i hi
     simp only [JY,l6'',if_true]
     exact (qh (by omega)).trans ((n4 i (by omega)).trans (r4 i h5i.1 (fun e=>(h4 i e).2.2 hi) h5i.2.2))
 · refine ⟨rfl,⟨.sl true 0 [],rfl,.inl ⟨rfl,rfl⟩,by simp [rid]⟩,fun i hi => ?_,by omega⟩
   rcases hi with rfl | rfl <;> exact ⟨by simp,by omega,by omega⟩
 · rintro H' (⟨⟨h1, ⟨x, h2, h3, h4⟩, h5, _⟩, hk⟩ | h)
   case inr=>exact h.elim
   rw [←hW1,List.take_length] at h3
   refine qaS h1 ?_
   have k0:qr H' 0=some (.cells (dyC d)):=hk 0 (.inl rfl)
   have k2:qr H' 2=some (.cells [I t.num,I t.bath,I t.age,Pts t.pat]):=hk 2 (.inr rfl)
   have g2:qr (H'.set 6 .gone) 3=some (.cells [x]):=(qh (by omega)).trans h2
   have g3:AccZ (H'.set 6 .gone) x W1:=h3.mono fun i hi=>qh (by have:=(h4 i hi).2.1;omega)
   have g0:qr (H'.set 6 .gone) 0=some (.cells (dyC d)):=(qh (by omega)).trans k0
   have g5:qr (H'.set 6 .gone) 2=some (.cells [I t.num,I t.bath,I t.age,Pts t.pat]):=(qh (by omega)).trans k2
   generalize H'.set 6 HObj.gone=H2 at *
   clear h1 h2 h3 hk k0 k2 h5
   subst hK0
   have lz3:=qj g2
   have lz0:=qj g0
   have lz2:=qj g5
   simp -implicitDefEqProofs (disch:=omega)[qb,V1,WL,jY,jZ,qf,qt]
   have f2:qr (H2++[HObj.cells [I 0],HObj.cells [B true]]) 3=some (.cells [x]):=(qk lz3).trans g2
   have f3:AccZ (H2++[HObj.cells [I 0],HObj.cells [B true]]) x W1:=g3.mono fun i hi=>qk (g3.lt hi)
   have f0:qr (H2++[HObj.cells [I 0],HObj.cells [B true]]) 0=some (.cells (dyC d)):=(qk lz0).trans g0
   have f5:qr (H2++[HObj.cells [I 0],HObj.cells [B true]]) 2=some (.cells [I t.num,I t.bath,I t.age,Pts t.pat]):=(qk lz2).trans g5
   have fa:qr (H2++[HObj.cells [I 0],HObj.cells [B true]]) H2.length=some (.cells [I 0]):=V1
   have fe:qr (H2++[HObj.cells [I 0],HObj.cells [B true]]) (H2.length+1)=some (.cells [B true]):=WL
   have fl:(H2++[HObj.cells [I 0],HObj.cells [B true]]).length=H2.length+2:=by simp
   have fx:∀ i,rid x=some i→i<H2.length:=fun i hi=>g3.lt hi
   generalize H2++[HObj.cells [I 0],HObj.cells [B true]]=H3 at *
   obtain ⟨A,hA⟩:∃ A,H2.length=A:=⟨_,rfl⟩
   rw [hA] at fa fe fl fx lz3 lz0 lz2
   simp -implicitDefEqProofs (disch:=omega)[qb,hA,f0,f5,qf,dyC]
   simp only [el]
   refine qao ?_
   have m2:qr (H3++[HObj.cells (dyC d),HObj.cells [Pts t.pat]]) 3=some (.cells [x]):=(qk (by omega)).trans f2
   have m3:AccZ (H3++[HObj.cells (dyC d),HObj.cells [Pts t.pat]]) x W1:=f3.mono fun i hi=>qk (f3.lt hi)
   have ma:qr (H3++[HObj.cells (dyC d),HObj.cells [Pts t.pat]]) A=some (.cells [I 0]):=(qk (by omega)).trans fa
   have me:qr (H3++[HObj.cells (dyC d),HObj.cells [Pts t.pat]]) (A+1)=some (.cells [B true]):=(qk (by omega)).trans fe
   have md:qr (H3++[HObj.cells (dyC d),HObj.cells [Pts t.pat]]) H3.length=some (.cells (dyC d)):=V1
   have mp:qr (H3++[HObj.cells (dyC d),HObj.cells [Pts t.pat]]) (H3.length+1)=some (.cells [Pts t.pat]):=WL
   have ml:(H3++[HObj.cells (dyC d),HObj.cells [Pts t.pat]]).length=H3.length+2:=by simp
   generalize H3++[HObj.cells (dyC d),HObj.cells [Pts t.pat]]=H4 at *
   rw [fl] at md mp ml ⊢
   clear f0 f5 fa fe f2 f3 g0 g5 g2 g3
   simp -implicitDefEqProofs (disch:=omega)[qb]
   refine qW fun K1 hK1=>?_
   refine qsj (qfq V pt (by omega) (a:=A+2) md mp (J:=Sm2 W1 W2 3 A (A+1) H4.length) (F:=qvr W1 W2 3 A (A+1) H4.length) Sm2.ext Sm2.sub (fun j H S h i hi=>(h.2.2.2.2.2.1 i hi).1) ?_ (S:=fun _=>False) ?_) ?_
   · intro j H S hj hJ
     rw [←hW2] at hj
     simp only [←hW2]
     obtain ⟨h1,⟨y,h2,h3,h4⟩,h5,h6,h7,h8,h9⟩:=hJ
     refine ⟨by rw [zh];exact h1,rfl,?_⟩
     have l6:=qj h1
     simp -implicitDefEqProofs (disch:=omega)[qb,putPs,zh,h1,l6]
     have ne4:∀ i,i≠H4.length→qr (H.set H4.length (.lp .busy (H4.length+1))) i=qr H i:=fun i hi=>qh (by omega)
     have g1:qr (H.set H4.length (.lp .busy (H4.length+1))) H4.length=some (.lp .busy (H4.length+1)):=qi l6
     have g2:=(ne4 3 (by omega)).trans h2
     have ga:=(ne4 A (by omega)).trans h5
     have ge:=(ne4 (A+1) (by omega)).trans h6
     have g3:AccZ (H.set H4.length (.lp .busy (H4.length+1))) y W1:=h3.mono fun i hi=>ne4 i (by have:=(h4 i hi).2.2;omega)
     have gl:(H.set H4.length (.lp .busy (H4.length+1))).length=H.length:=by simp
     generalize H.set H4.length (.lp .busy (H4.length+1))=G at *
     have lgA:=qj ga
     have lgE:=qj ge
     have stop : W1 ≠ W2 → ∀ G3,qr G3 H4.length = some (.lp .busy (H4.length + 1)) → qr G3 (A + 1) = some (.cells [B false]) → qvr W1 W2 3 A (A + 1) H4.length (JY G3 H4.length (.lp (.done (some 2)) (H4.length + 1))) := fun hne G3 q1 q2 => by
      have lw:=qj q1
      simp only [JY,lw,if_true]
      exact ⟨qi lw,(qh (by omega)).trans q2,hne,by omega⟩
     have nE:∀ i,i≠A+1→qr (G.set (A+1) (.cells [B false])) i=qr G i:=fun i hi=>qh (by omega)
     have sE:qr (G.set (A+1) (.cells [B false])) (A+1)=some (.cells [B false]):=qi lgE
     simp -implicitDefEqProofs (disch:=omega)[qb,g2,ga,qf]
     have hlen : qnn y = fun K => K (I (W1.length : Int)) [] := by
      funext K
      rcases g3 with ⟨rfl,rfl⟩ | ⟨id,rfl,_⟩ <;> rfl
     rw [hlen]
     by_cases hlt:W1.length≤j
     case pos =>
      have hlt':((W1.length:Int)≤(j:Int))=True:=by simp only [eq_iff_iff,iff_true];omega
      simp -implicitDefEqProofs (disch:=omega)[qb,hlt',hlt,ge,qt,lgE]
      refine ⟨by rw [zh];exact (nE _ (by omega)).trans g1,?_⟩
      exact .inr ⟨rfl,stop (fun e=>by rw [e] at hlt;omega) _ ((nE _ (by omega)).trans g1) sE⟩
     have hlt':((W1.length:Int)≤(j:Int))=False:=by simp only [eq_iff_iff,iff_false];omega
     rcases g3 with ⟨rfl,rfl⟩ | ⟨iy,rfl,g3⟩
     · simp at hlt
     have hjj:j<W1.length:=by omega
     have hb1:YO (qw W1) j=some (U (W1[j].toNat:Int)):=by rw [Jl];exact qbJ hjj
     simp -implicitDefEqProofs (disch:=omega)[qb,hlt',hlt,hjj,g3,qf,g2,ga,hb1]
     by_cases heq:W1[j]=W2[j]
     case neg =>
      have hq:((W1[j].toNat:Int) != (W2[j].toNat:Int))=true:=by
       rw [bne_iff_ne];exact fun e=>heq (UInt8.toNat_inj.1 (by omega))
      simp -implicitDefEqProofs (disch:=omega)[qb,hq,ge,qt,lgE]
      refine ⟨by rw [zh];exact (nE _ (by omega)).trans g1,?_⟩
      exact .inr ⟨rfl,stop (fun e=>heq (by subst e;rfl)) _ ((nE _ (by omega)).trans g1) sE⟩
     have hq:((W1[j].toNat:Int) != (W2[j].toNat:Int))=false:=by rw [heq];exact bne_self_eq_false _
     have jx:((j:Int)+1)=((j+1:Nat):Int):=by omega
     simp -implicitDefEqProofs (disch:=omega)[qb,hq,ga,qf,qt,lgA]
     have nA:∀ i,i≠A→qr (G.set A (.cells [I ((j:Int)+1)])) i=qr G i:=fun i hi=>qh (by omega)
     have sA:qr (G.set A (.cells [I ((j:Int)+1)])) A=some (.cells [I ((j:Int)+1)]):=qi lgA
     have lA:(G.set A (.cells [I ((j:Int)+1)])).length=H.length:=by rw [List.length_set,gl]
     have z1:=(nA _ (by omega)).trans g1
     refine ⟨by rw [zh];exact z1,.inl ⟨rfl,?_,fun i hi=>?_⟩⟩
     · have lw := qj z1
       simp only [JY,lw,if_true]
       have n6:∀ i,i≠H4.length→qr ((G.set A (.cells [I ((j:Int)+1)])).set H4.length (.lp .ready (H4.length+1))) i=qr (G.set A (.cells [I ((j:Int)+1)])) i:=fun i hi=>qh (by omega)
       have y4:=h4 iy rfl
       refine ⟨qi lw,⟨.ms iy 0 W1.length 1,(n6 _ (by omega)).trans ((nA _ (by omega)).trans g2),.inr ⟨iy,rfl,(n6 _ (by omega)).trans ((nA _ (by omega)).trans g3)⟩,h4⟩,?_,(n6 _ (by omega)).trans ((nA _ (by omega)).trans ge),⟨by omega,qk6 hjj hj h7.2 heq⟩,fun i hi=>?_,h9⟩
       · rw [←jx];exact (n6 _ (by omega)).trans sA
       · have:=h8 i hi;rw [List.length_set,lA];exact this
     · have lw := qj z1
       have:=h8 i hi
       simp only [JY,lw,if_true]
       exact (qh (by omega)).trans ((nA i (by omega)).trans (ne4 i (by omega)))
   · refine ⟨V1,⟨x,(qk (by omega)).trans m2,m3.mono fun i hi => qk (m3.lt hi),fun i hi => ?_⟩,(qk (by omega)).trans ma,(qk (by omega)).trans me,⟨Nat.zero_le _,rfl⟩,fun i hi => hi.elim,by omega⟩
     have:=fx i hi
     omega
   · rintro H' (⟨⟨h1,⟨y,h2,h3,h4⟩,h5,h6,h7,_⟩,_⟩ | ⟨h1,h2,h3,h4⟩)
     · rw [← hW2] at h5 h7
       rw [List.take_length] at h7
       refine qaS h1 ?_
       have n4:∀ i,i≠H4.length→qr (H'.set H4.length .gone) i=qr H' i:=fun i hi=>qh (by omega)
       have g2:=(n4 3 (by omega)).trans h2
       have ga:=(n4 A (by omega)).trans h5
       have ge:=(n4 (A+1) (by omega)).trans h6
       generalize H'.set H4.length HObj.gone=G at *
       have hlen : qnn y = fun K => K (I (W1.length : Int)) [] := by
        funext K
        rcases h3 with ⟨rfl,rfl⟩ | ⟨id,rfl,_⟩ <;> rfl
       subst hK1
       simp -implicitDefEqProofs (disch:=omega)[qb,ge,qf,g2,ga,hlen]
       by_cases hl:W2.length<W1.length
       · have hne : W1 ≠ W2 := fun e => by rw [e] at hl; omega
         simp -implicitDefEqProofs (disch:=omega)[qb,hl,hne,Exit.ng]
       · have he:W1=W2:=by
          rw [←h7.2,List.take_of_length_le (by omega)]
         simp -implicitDefEqProofs (disch:=omega)[qb,hl,he,Exit.ng]
     · have lw := qj h1
       simp only [qh6,zh,h1,JY,lw,if_true]
       have ge:qr (H'.set H4.length .gone) (A+1)=some (.cells [B false]):=(qh (by omega)).trans h2
       generalize H'.set H4.length HObj.gone=G at *
       subst hK1
       simp -implicitDefEqProofs (disch:=omega)[qb,ge,qf,h3,Exit.ng]
theorem qsd {n x k:Nat} (h:n<2 ^ k):n ||| (x*2 ^ k)=n+x*2 ^ k:=by
 have:=Nat.shiftLeft_add_eq_or_of_lt h x
 rw [Nat.shiftLeft_eq] at this
 rw [Nat.or_comm,←this,Nat.add_comm]
theorem qgK:∀ a:Fin 256,IntKind.u8.wrap ((a.1 % 2 ^ IntKind.u8.bits &&& 127 % 2 ^ IntKind.u8.bits:Nat):Int)=((a.1 % 128:Nat):Int):=by decide +kernel
theorem qpr (k:Nat):2 ^ (7*k)=128 ^ k:=by rw [Nat.pow_mul]
theorem qmL {n k c : Nat} (hk : k < 7) (hn : n < 2 ^ (7 * k)) (hc : c < 256) :
 IntKind.i64.wrap ((n % 2 ^ IntKind.i64.bits ||| (IntKind.i64.wrap (IntKind.i64.wrap (IntKind.u8.wrap ((c % 2 ^ IntKind.u8.bits &&& 127 % 2 ^ IntKind.u8.bits:Nat):Int))*2 ^ min (7*(k:Int)).toNat IntKind.i64.bits) % 2 ^ IntKind.i64.bits).toNat:Nat):Int)=((n+c % 128*2 ^ (7*k):Nat):Int):=by
 have h1:2 ^ (7*k)≤2 ^ 42:=Nat.pow_le_pow_right (by decide) (by omega)
 have e42:2 ^ 42=4398046511104:=by decide
 have hx:c % 128*2 ^ (7*k)≤127*2 ^ (7*k):=Nat.mul_le_mul_right _ (by omega)
 have e64:(2 ^ IntKind.i64.bits:Nat)=18446744073709551616:=by decide
 have e64i:(2 ^ IntKind.i64.bits:Int)=18446744073709551616:=by decide
 have hm:min (7*(k:Int)).toNat IntKind.i64.bits=7*k:=by
  have:IntKind.i64.bits=64:=rfl
  rw [this];omega
 have hmul:((c % 128:Nat):Int)*2 ^ (7*k)=((c % 128*2 ^ (7*k):Nat):Int):=by rw [Int.natCast_mul,Int.natCast_pow];rfl
 have hu:IntKind.u8.wrap ((c % 2 ^ IntKind.u8.bits &&& 127 % 2 ^ IntKind.u8.bits:Nat):Int)=((c % 128:Nat):Int):=qgK ⟨c,hc⟩
 rw [hu,qb (n:=((c % 128:Nat):Int)) (by omega),hm,hmul,e64,e64i]
 have hor:=qsd (x:=c % 128) hn
 generalize c % 128*2 ^ (7*k)=X at *
 rw [qb (n:=(X:Int)) (by omega)]
 have e1:((X:Int) % 18446744073709551616).toNat=X:=by omega
 rw [e1,Nat.mod_eq_of_lt (by omega),hor,qb (by omega)]
abbrev ZA (g:Bool) (s:Rd):List AV:=[zQ g s.1,B s.2]
theorem qhc : ∀ (k : Nat) (r : List UInt8) (n pl : Int),0 ≤ n → 0 ≤ pl → 0 ≤ (qi9 k r n pl).1 ∧ (qi9 k r n pl).1 ≤ 1099511627776 ∧ (qi9 k r n pl).2.1.length ≤ r.length
 | 0,r,n,pl,_,_=>⟨Int.le_refl _,by show (0:Int)≤1099511627776;decide,Nat.le_refl _⟩
 | k+1,[],n,pl,_,_=>⟨Int.le_refl _,by show (0:Int)≤1099511627776;decide,Nat.le_refl _⟩
 | k+1, c::r, n, pl, h0, h1=>by
   have m0:0≤pl*((c.toNat:Int) % 128):=Int.mul_nonneg h1 (by omega)
   have ih:=qhc k r (n+pl*((c.toNat:Int) % 128)) (pl*128) (by omega) (by omega)
   unfold qi9
   split
   · split
     · exact ⟨Int.le_refl _,by show (0:Int)≤1099511627776;decide,by simp⟩
     · exact ⟨by simp only;omega,by simp only;omega,by simp⟩
   · exact ⟨ih.1,ih.2.1,by have:=ih.2.2;simp only [List.length_cons];omega⟩
theorem zw (s:Rd):0≤(qR s).1∧(qR s).1≤1099511627776∧(qR s).2.1.length≤s.1.length:=by
 unfold qR
 split
 · exact ⟨Int.le_refl _,by show (0:Int)≤1099511627776;decide,Nat.le_refl _⟩
 · exact qhc 7 s.1 0 1 (Int.le_refl _) (by decide)
set_option maxHeartbeats 4000000 in
theorem QF {H : List HObj} {id : Nat} {g : Bool} {s : Rd} {K : AV → List HObj → Prop} (h : qr H id = some (.cells (ZA g s))) (hb : s.1.length ≤ 1000000)
 (hK:∀ H',qr H' id=some (.cells (ZA g (qR s).2))→(∀ j,j≠id→qr H' j=qr H j)→H'.length=H.length→K (I (qR s).1) H'):zG Tryz.prog 99 [.ref id 0] H K:=by
 refine zj Tryz.func99 qcE (QB qwf) (by show 1≤_;decide) ?_
 simp -implicitDefEqProofs (disch:=omega)[qbt,qb]
 obtain ⟨s1,bad⟩:=s
 simp only at h hb hK ⊢
 refine qO (fun q : Nat × List UInt8 × Nat × List HObj => ⟨[(0,.ref id 0),(3,I (q.2.2.1 : Int)),(4,I ((7 * q.1 : Nat) : Int))],q.2.2.2⟩)
  (fun q=>q.1≤7∧qr q.2.2.2 id=some (.cells (ZA g (q.2.1,bad)))∧(∀ j,j≠id→qr q.2.2.2 j=qr H j)∧q.2.2.2.length=H.length∧q.2.1.length≤s1.length∧q.2.2.1<2 ^ (7*q.1)∧(bad=false→qi9 7 s1 0 1=qi9 (7 - q.1) q.2.1 (q.2.2.1:Int) ((128 ^ q.1:Nat):Int))∧(bad=true→q.2.1=s1))
  (fun q=>7 - q.1) (0,s1,0,H) ⟨by show 0≤7;decide,h,fun _ _=>rfl,rfl,Nat.le_refl _,by show 0<2 ^ (7*0);decide,fun _=>rfl,fun _=>rfl⟩ rfl ?_
 rintro ⟨k,r,n,H2⟩ ⟨c1,c2,c3,c4,c5,c6,c7,c8⟩
 simp only at c1 c2 c3 c4 c5 c6 c7 c8 ⊢
 have lid:=qj c2
 refine qW fun K0 hK0=>?_
 simp -implicitDefEqProofs (disch:=omega)[qb,c2,qf]
 have stop : (k = 7 ∨ r = [] ∨ bad = true) → (qR (s1,bad)) = (0,r,true) := fun hs => by
  cases hb':bad with
  | true=>rw [c8 hb'];rfl
  | false =>
    show qi9 7 s1 0 1=_
    rw [c7 hb']
    rcases hs with rfl | rfl | h
    · rfl
    · cases hk7:7 - k <;> rfl
    · rw [hb'] at h;cases h
 by_cases hk:k<7
 case neg =>
  have hk':(7*(k:Int)<49)=False:=by simp only [eq_iff_iff,iff_false];omega
  have e0:=stop (.inl (by omega))
  rw [e0] at hK
  subst hK0
  simp -implicitDefEqProofs (disch:=omega)[qb,hk',c2,qf,qt]
  rw [if_pos lid]
  exact ⟨[I 0],⟨rfl,trivial⟩,hK _ (qi lid) (fun j hj=>(qh (Ne.symm hj)).trans (c3 j hj)) (by rw [List.length_set];exact c4)⟩
 have hk':(7*(k:Int)<49)=True:=by simp only [eq_iff_iff,iff_true];omega
 cases r with
 | nil =>
   have e0:=stop (.inr (.inl rfl))
   rw [e0] at hK
   subst hK0
   simp -implicitDefEqProofs (disch:=omega)[qb,hk',c2,qf,qt]
   rw [if_pos lid]
   exact ⟨[I 0],⟨rfl,trivial⟩,hK _ (qi lid) (fun j hj=>(qh (Ne.symm hj)).trans (c3 j hj)) (by rw [List.length_set];exact c4)⟩
 | cons c r =>
 cases bad with
 | true =>
   have e0:=stop (.inr (.inr rfl))
   rw [e0] at hK
   subst hK0
   simp -implicitDefEqProofs (disch:=omega)[qb,hk',c2,qf,qt]
   rw [if_pos lid]
   exact ⟨[I 0],⟨rfl,trivial⟩,hK _ (qi lid) (fun j hj=>(qh (Ne.symm hj)).trans (c3 j hj)) (by rw [List.length_set];exact c4)⟩
 | false =>
 simp -implicitDefEqProofs (disch:=omega)[qb,hk',c2,qf,qt]
 have hb0:YO (qw (c::r)) 0=some (U (c.toNat:Int)):=rfl
 have hbl:(qw (c::r)).length=r.length+1:=by rw [qZ];rfl
 refine ⟨hbl,?_⟩
 simp only [List.length_cons] at c5
 simp -implicitDefEqProofs (disch:=omega)[qb,hb0,Yv,c2,qf,qt]
 refine ⟨⟨by omega,hbl⟩,?_⟩
 have hst:=qmL (n:=n) hk c6 c.toNat_lt
 rw [hst]
 have hpw:=qpr k
 have hpk:2 ^ (7*(k+1))=128*2 ^ (7*k):=by rw [show 7*(k+1)=7*k+7 by omega,Nat.pow_add,Nat.mul_comm]
 have hx:c.toNat % 128*2 ^ (7*k)≤127*2 ^ (7*k):=Nat.mul_le_mul_right _ (by omega)
 have h42:2 ^ (7*k)≤2 ^ 42:=Nat.pow_le_pow_right (by decide) (by omega)
 have e42:2 ^ 42=4398046511104:=by decide
 have hcn:qi9 7 s1 0 1=if (c.toNat:Int)<128 then (if 1099511627776<((n+c.toNat % 128*2 ^ (7*k):Nat):Int) then (0,r,true) else (((n+c.toNat % 128*2 ^ (7*k):Nat):Int),r,false)) else qi9 (7 - (k+1)) r ((n+c.toNat % 128*2 ^ (7*k):Nat):Int) ((128 ^ (k+1):Nat):Int):=by
  rw [c7 rfl,show 7 - k=(7 - (k+1))+1 by omega]
  have e1:(n:Int)+((128 ^ k:Nat):Int)*((c.toNat:Int) % 128)=((n+c.toNat % 128*2 ^ (7*k):Nat):Int):=by
   rw [hpw,Int.natCast_add,Int.natCast_mul,Int.mul_comm];rfl
  have e2:((128 ^ k:Nat):Int)*128=((128 ^ (k+1):Nat):Int):=by rw [Nat.pow_succ,Int.natCast_mul];rfl
  show (if (c.toNat:Int)<128 then _ else _)=_
  rw [e1,e2]
 have htk:(qw (c::r)).tail.take r.length=qw r:=by
  show (qw r).take r.length=_
  rw [List.take_of_length_le (by rw [qZ];exact Nat.le_refl _)]
 rw [if_pos lid,htk]
 have g1:qr (H2.set id (.cells [.sl g r.length (qw r),B false])) id=some (.cells (ZA g (r,false))):=qi lid
 have g2:∀ j,j≠id→qr (H2.set id (.cells [.sl g r.length (qw r),B false])) j=qr H j:=fun j hj=>(qh (Ne.symm hj)).trans (c3 j hj)
 have g3:(H2.set id (.cells [.sl g r.length (qw r),B false])).length=H.length:=by rw [List.length_set];exact c4
 generalize H2.set id (.cells [.sl g r.length (qw r),B false])=H3 at *
 have lid3:=qj g1
 generalize hX:n+c.toNat % 128*2 ^ (7*k)=X at *
 by_cases hlt:(c.toNat:Int)<128
 · rw [if_pos hlt] at hcn
   by_cases hbig:1099511627776<(X:Int)
   · rw [if_pos hbig] at hcn
     have hcf:qR (s1,false)=(0,r,true):=hcn
     rw [hcf] at hK
     subst hK0
     simp -implicitDefEqProofs (disch:=omega)[qb,hlt,hbig,g1,qf,qt]
     rw [if_pos lid3]
     have g5:qr (H3.set id (.cells [zQ g r,B true])) id=some (.cells (ZA g (r,true))):=qi lid3
     have g6:∀ j,j≠id→qr (H3.set id (.cells [zQ g r,B true])) j=qr H j:=fun j hj=>(qh (Ne.symm hj)).trans (g2 j hj)
     have g7:(H3.set id (.cells [zQ g r,B true])).length=H.length:=by rw [List.length_set];exact g3
     generalize H3.set id (.cells [zQ g r,B true])=H4 at *
     simp -implicitDefEqProofs (disch:=omega)[qb,g5,qf]
     exact ⟨[I 0],⟨rfl,trivial⟩,hK _ g5 g6 g7⟩
   · rw [if_neg hbig] at hcn
     have hcf:qR (s1,false)=((X:Int),r,false):=hcn
     rw [hcf] at hK
     subst hK0
     simp -implicitDefEqProofs (disch:=omega)[qb,hlt,hbig,g1,qf,qt]
     rw [if_pos lid3]
     have g5:qr (H3.set id (.cells [zQ g r,B false])) id=some (.cells (ZA g (r,false))):=qi lid3
     have g6:∀ j,j≠id→qr (H3.set id (.cells [zQ g r,B false])) j=qr H j:=fun j hj=>(qh (Ne.symm hj)).trans (g2 j hj)
     have g7:(H3.set id (.cells [zQ g r,B false])).length=H.length:=by rw [List.length_set];exact g3
     generalize H3.set id (.cells [zQ g r,B false])=H4 at *
     simp -implicitDefEqProofs (disch:=omega)[qb,g5,qf]
     exact ⟨[I (X:Int)],⟨rfl,trivial⟩,hK _ g5 g6 g7⟩
 · rw [if_neg hlt] at hcn
   simp -implicitDefEqProofs (disch:=omega)[qb,hlt]
   rw [hK0]
   refine qz (k+1,r,X,H3) ⟨by simp only;omega,g1,g2,g3,by simp only;omega,by simp only;omega,fun _=>hcn,fun h=>by cases h⟩ (by simp only;omega) ?_
   have e7:(7*(k:Int)+7)=((7*(k+1):Nat):Int):=by omega
   simp only [e7]
theorem Z6 (s:Rd):0≤(QC s).1∧(QC s).1≤((QC s).2.1.length:Int)∧(QC s).2.1.length≤s.1.length:=by
 have h:=zw s
 unfold QC
 split
 · exact ⟨Int.le_refl _,by simp only;omega,h.2.2⟩
 · rename_i hn;exact ⟨h.1,by omega,h.2.2⟩
set_option maxHeartbeats 2000000 in
theorem Vy {H : List HObj} {id : Nat} {g : Bool} {s : Rd} {K : AV → List HObj → Prop} (h : qr H id = some (.cells (ZA g s))) (hb : s.1.length ≤ 1000000)
 (hK:∀ H',qr H' id=some (.cells (ZA g (QC s).2))→(∀ j,j≠id→qr H' j=qr H j)→H'.length=H.length→K (I (QC s).1) H'):zG Tryz.prog 96 [.ref id 0] H K:=by
 refine zj Tryz.func96 qfW (QB qwk) (by show 1≤_;decide) ?_
 simp -implicitDefEqProofs (disch:=omega)[qgQ,qb]
 refine QF h hb fun H1 g1 g2 g3=>?_
 have hr:=zw s
 have hm:QC s=if ((qR s).2.1.length:Int)<(qR s).1 then (0,(qR s).2.1,true) else qR s:=rfl
 generalize qR s=q at *
 obtain ⟨n,r,bad⟩:=q
 simp only at g1 hr hm
 have l1:=qj g1
 simp -implicitDefEqProofs (disch:=omega)[qb,g1,qf]
 by_cases hlt:(r.length:Int)<n
 · rw [if_pos hlt] at hm
   rw [hm] at hK
   simp -implicitDefEqProofs (disch:=omega)[qb,hlt,g1,qf,qt]
   rw [if_pos l1]
   exact ⟨[I 0],⟨rfl,trivial⟩,hK _ (qi l1) (fun j hj=>(qh (Ne.symm hj)).trans (g2 j hj)) (by rw [List.length_set];exact g3)⟩
 · rw [if_neg hlt] at hm
   rw [hm] at hK
   simp -implicitDefEqProofs (disch:=omega)[qb,hlt]
   exact ⟨[I n],⟨rfl,trivial⟩,hK _ g1 g2 g3⟩
set_option maxHeartbeats 2000000 in
theorem qjm {H : List HObj} {id : Nat} {g : Bool} {s : Rd} {K : AV → List HObj → Prop} (h : qr H id = some (.cells (ZA g s))) (hb : s.1.length ≤ 1000000)
 (hK:∀ H',qr H' id=some (.cells (ZA g (V6 s).2))→(∀ j,j≠id→qr H' j=qr H j)→H'.length=H.length→K (S (V6 s).1) H'):zG Tryz.prog 97 [.ref id 0] H K:=by
 refine zj Tryz.func97 qfX (QB qwl) (by show 1≤_;decide) ?_
 simp -implicitDefEqProofs (disch:=omega)[qgR,qb]
 refine Vy h hb fun H1 g1 g2 g3=>?_
 have hr:=Z6 s
 have hm:V6 s=((QC s).2.1.take (QC s).1.toNat,(QC s).2.1.drop (QC s).1.toNat,(QC s).2.2):=rfl
 rw [hm] at hK
 clear hm
 generalize QC s=q at *
 obtain ⟨n,r,bad⟩:=q
 simp only at g1 hr hK
 obtain ⟨m,rfl⟩:∃ m:Nat,n=(m:Int):=⟨n.toNat,by omega⟩
 have hmr:m≤r.length:=by omega
 rw [Int.toNat_natCast] at hK
 have l1:=qj g1
 simp -implicitDefEqProofs (disch:=omega)[qb,g1,qf]
 refine ⟨⟨hmr,qZ r⟩,?_⟩
 have et:(qw r).take m=qw (r.take m):=by simp [qw]
 have ed:((qw r).drop m).take (r.length - m)=qw (r.drop m):=by
  rw [List.take_of_length_le (by rw [List.length_drop,qZ];exact Nat.le_refl _)];simp [qw]
 have hlt:(r.take m).length=m:=by rw [List.length_take];omega
 have hld:(r.drop m).length=r.length - m:=List.length_drop
 rw [et,qg8]
 refine ⟨hlt.symm,?_⟩
 simp -implicitDefEqProofs (disch:=omega)[qb,g1,qf,qt]
 refine ⟨⟨hmr,qZ r⟩,?_⟩
 rw [if_pos l1,ed,←hld]
 exact ⟨[S (r.take m)],⟨rfl,trivial⟩,hK _ (qi l1) (fun j hj=>(qh (Ne.symm hj)).trans (g2 j hj)) (by rw [List.length_set];exact g3)⟩
theorem qc0 {α : Type} (rd : Rd → α × Rd) : ∀ (k : Nat) (s : Rd),(itC rd k s).1.length = k
 | 0,_=>rfl
 | k+1,s=>by show (_::_).length=_;rw [List.length_cons,qc0 rd k]
theorem qnw (s:Rd):(cPt s).2.1.length≤s.1.length:=by
 have h1:=zw s
 have h2:=zw (qR s).2
 show (qR (qR s).2).2.1.length≤_
 omega
set_option maxHeartbeats 4000000 in
theorem V3 {H : List HObj} {id : Nat} {g : Bool} {s : Rd} {K : AV → List HObj → Prop} (h : qr H id = some (.cells (ZA g s))) (hb : s.1.length ≤ 1000000)
 (hK:∀ H',qr H' id=some (.cells (ZA g (Zq s).2))→(∀ j,j<H.length→j≠id→qr H' j=qr H j)→H.length≤H'.length→K (Pts (Zq s).1) H'):zG Tryz.prog 98 [.ref id 0] H K:=by
 refine qej (qeh (zj Tryz.func98 qey (QB qwh) (by show 1≤_;decide) ?_))
 simp -implicitDefEqProofs (disch:=omega)[qdQ,qb]
 refine Vy h hb fun H1 k1 k2 k3=>?_
 have hid:=qj h
 have R:=Z6 s
 unfold Zq at hK
 generalize QC s=N at *
 obtain ⟨n,s0⟩:=N
 simp only at *
 obtain ⟨m,rfl⟩:∃ m:Nat,n=m:=⟨n.toNat,by omega⟩
 simp -implicitDefEqProofs (disch:=omega)[qb]
 rw [Int.toNat_natCast] at hK
 refine qO (fun q : Nat × List Pt × AV × Rd × List HObj => ⟨[(0,.ref id 0),(3,q.2.2.1),(7,I (m : Int)),(8,I (q.1 : Int))],q.2.2.2.2⟩)
  (fun q=>q.1≤m∧qr q.2.2.2.2 id=some (.cells (ZA g q.2.2.2.1))∧(∀ j,j<H.length→j≠id→qr q.2.2.2.2 j=qr H j)∧H.length≤q.2.2.2.2.length∧q.2.2.2.1.1.length≤s.1.length∧AccG q.2.2.2.2 q.2.2.1 3 q.1 (fl ptC q.2.1)∧q.2.1.length=q.1∧(∀ j,rid q.2.2.1=some j→H.length≤j)∧itC cPt m s0=(q.2.1++(itC cPt (m - q.1) q.2.2.2.1).1,(itC cPt (m - q.1) q.2.2.2.1).2))
  (fun q=>m - q.1) (0,[],.sl true 0 [],s0,H1) ⟨Nat.zero_le _,k1,fun j _ hj=>k2 j hj,by simp only;omega,by simp only;omega,.nil,rfl,by simp [rid],rfl⟩ rfl ?_
 rintro ⟨i,ps,x,st,H2⟩ ⟨c1,c2,c3,c4,c5,c6,c7,c8,c9⟩
 simp only at c1 c2 c3 c4 c5 c6 c7 c8 c9 ⊢
 refine qW fun K0 hK0=>?_
 have lid:=qj c2
 have hm1:m≤1000000:=by omega
 simp -implicitDefEqProofs (disch:=omega)[qb]
 refine qP (fun hc=>?_) (fun hc=>?_)
 case refine_2 =>
  have hi:i=m:=by simp at hc;omega
  have e0:m - i=0:=by omega
  rw [e0] at c9
  rw [c9] at hK
  simp only [itC,List.append_nil] at hK
  subst hK0
  simp -implicitDefEqProofs (disch:=omega)[qb]
  obtain ⟨ids,pu,pi⟩:=c6.pur
  refine ⟨[x],⟨rfl,trivial⟩,_,ids,pu,Pts ps,by rw [←c7];exact .slf,?_⟩
  have lt:∀ j∈ids,j<H2.length:=fun j hj=>(pi j hj).2
  have ge:∀ j∈ids,H.length≤j:=fun j hj=>c8 j (pi j hj).1
  exact hK _ ((Wv lt fun e=>by have:=ge _ e;omega).trans c2) (fun j h1 h2=>(Wv lt fun e=>by have:=ge _ e;omega).trans (c3 j h1 h2)) (Nat.le_trans c4 JW)
 have hi:i<m:=by simpa using hc
 have ix:((i:Int)+1)=((i+1:Nat):Int):=by omega
 rw [show m - i=(m - (i+1))+1 by omega] at c9
 have c9:itC cPt m s0=(ps++(cPt st).1::(itC cPt (m - (i+1)) (cPt st).2).1,(itC cPt (m - (i+1)) (cPt st).2).2):=c9
 rw [List.append_cons] at c9
 simp -implicitDefEqProofs (disch:=omega)[qb,hi]
 refine QF c2 (by omega) fun H3 e1 e2 e3=>?_
 have R1:=zw st
 have R2:=zw (qR st).2
 have hP:cPt st=((if 26≤(qR st).1 then (0,(qR st).1 - 26,(qR (qR st).2).1) else (97+(qR st).1 % 26,-1,(qR (qR st).2).1)),(qR (qR st).2).2):=rfl
 rw [hP] at c9
 clear hP
 generalize qR st=N1 at *
 obtain ⟨n1,s1⟩:=N1
 simp only at *
 obtain ⟨c,rfl⟩:∃ c:Nat,n1=c:=⟨n1.toNat,by omega⟩
 have ht:(c:Int).tmod 26=(c:Int) % 26:=by rw [Int.tmod_eq_emod_of_nonneg (by omega)]
 simp -implicitDefEqProofs (disch:=omega)[qb,ht]
 rw [qgP (by omega)]
 have lid3:=qj e1
 obtain ⟨A,hA⟩:∃ A,97+(c:Int) % 26=A:=⟨_,rfl⟩
 rw [hA] at c9 ⊢
 have t1:qr (H3++[.cells [U A,I (-1),I 0]]) id=some (.cells (ZA g s1)):=(qk lid3).trans e1
 have t2:qr (H3++[.cells [U A,I (-1),I 0]]) H3.length=some (.cells [U A,I (-1),I 0]):=Qn
 have t3:(H3++[HObj.cells [U A,I (-1),I 0]]).length=H3.length+1:=by simp
 have t5:∀ j,j<H3.length→qr (H3++[.cells [U A,I (-1),I 0]]) j=qr H3 j:=fun j hj=>qk hj
 generalize H3++[HObj.cells [U A,I (-1),I 0]]=H4 at *
 by_cases h26:26≤(c:Int)
 · rw [if_pos h26] at c9
   obtain ⟨R,hR⟩:∃ R,(c:Int) - 26=R:=⟨_,rfl⟩
   rw [hR] at c9
   simp -implicitDefEqProofs (disch:=omega)[qb,h26,hR,t2,qt]
   have lid4:H3.length<H4.length:=by omega
   rw [if_pos lid4]
   have r1:qr (H4.set H3.length (.cells [U 0,I R,I 0])) id=some (.cells (ZA g s1)):=(qh (by omega)).trans t1
   have r2:qr (H4.set H3.length (.cells [U 0,I R,I 0])) H3.length=some (.cells [U 0,I R,I 0]):=qi lid4
   have r3:(H4.set H3.length (.cells [U 0,I R,I 0])).length=H3.length+1:=by rw [List.length_set];exact t3
   have r5:∀ j,j<H3.length→qr (H4.set H3.length (.cells [U 0,I R,I 0])) j=qr H3 j:=fun j hj=>(qh (by omega)).trans (t5 j hj)
   generalize H4.set H3.length (.cells [U 0,I R,I 0])=H4' at *
   refine QF r1 (by omega) fun H5 g1 g2 g3=>?_
   have q2:=(g2 _ (show H3.length≠id by omega)).trans r2
   have lid5:H3.length<H5.length:=by omega
   simp -implicitDefEqProofs (disch:=omega)[qb,q2,qt,lid5]
   generalize qR s1=N2 at *
   obtain ⟨n2,s2'⟩:=N2
   simp only at *
   have s1:qr (H5.set H3.length (.cells [U 0,I R,I n2])) H3.length=some (.cells [U 0,I R,I n2]):=qi lid5
   have s2:qr (H5.set H3.length (.cells [U 0,I R,I n2])) id=some (.cells (ZA g s2')):=(qh (by omega)).trans g1
   have s3:∀ j,j<H3.length→j≠id→qr (H5.set H3.length (.cells [U 0,I R,I n2])) j=qr H2 j:=fun j h1 h2=>(qh (by omega)).trans ((g2 j h2).trans ((r5 j h1).trans (e2 j h2)))
   have s4:(H5.set H3.length (.cells [U 0,I R,I n2])).length=H3.length+1:=by rw [List.length_set];omega
   have s5:AccG (H5.set H3.length (.cells [U 0,I R,I n2])) x 3 i (fl ptC ps):=c6.mono fun j hj=>s3 j (by have:=c6.lt hj;omega) (by have:=c8 j hj;omega)
   generalize H5.set H3.length (HObj.cells [U 0,I R,I n2])=H6 at *
   simp -implicitDefEqProofs (disch:=omega)[qb,s1,qf]
   refine zq (ys:=[.agg (ptC (0,R,n2))]) (ids:=[]) rfl rfl ?_
   simp -implicitDefEqProofs (disch:=omega)[qb,zP,ptC]
   refine Q5 (ys:=ptC (0,R,n2)) s5 (by omega) (by decide) rfl rfl fun vs w1 w2 w3=>?_
   simp -implicitDefEqProofs (disch:=omega)[qb]
   rw [hK0]
   refine qz (i+1,ps++[(0,R,n2)],.ms H6.length 0 (i+1) 3,s2',qH H6 vs) ⟨by simp only;omega,(w1 id (by omega) (fun h=>by have:=c8 id h;omega)).trans s2,fun j h1 h2=>?_,by simp only;omega,by simp only;omega,?_,by simp only [List.length_append,List.length_cons,List.length_nil];omega,fun j hj=>?_,c9⟩ (by simp only;omega) (by simp only [ix])
   · exact (w1 j (by omega) (fun h=>by have:=c8 j h;omega)).trans ((s3 j (by omega) h2).trans (c3 j h1 h2))
   · rw [jr];exact w3
   · simp only [rid] at hj;injection hj;omega
 · rw [if_neg h26] at c9
   have r1:=t1
   have r2:=t2
   have r3:=t3
   have r5:=t5
   simp -implicitDefEqProofs (disch:=omega)[qb,h26]
   refine QF r1 (by omega) fun H5 g1 g2 g3=>?_
   have q2:=(g2 _ (show H3.length≠id by omega)).trans r2
   have lid5:H3.length<H5.length:=by omega
   simp -implicitDefEqProofs (disch:=omega)[qb,q2,qt,lid5]
   generalize qR s1=N2 at *
   obtain ⟨n2,s2'⟩:=N2
   simp only at *
   have s1:qr (H5.set H3.length (.cells [U A,I (-1),I n2])) H3.length=some (.cells [U A,I (-1),I n2]):=qi lid5
   have s2:qr (H5.set H3.length (.cells [U A,I (-1),I n2])) id=some (.cells (ZA g s2')):=(qh (by omega)).trans g1
   have s3:∀ j,j<H3.length→j≠id→qr (H5.set H3.length (.cells [U A,I (-1),I n2])) j=qr H2 j:=fun j h1 h2=>(qh (by omega)).trans ((g2 j h2).trans ((r5 j h1).trans (e2 j h2)))
   have s4:(H5.set H3.length (.cells [U A,I (-1),I n2])).length=H3.length+1:=by rw [List.length_set];omega
   have s5:AccG (H5.set H3.length (.cells [U A,I (-1),I n2])) x 3 i (fl ptC ps):=c6.mono fun j hj=>s3 j (by have:=c6.lt hj;omega) (by have:=c8 j hj;omega)
   generalize H5.set H3.length (HObj.cells [U A,I (-1),I n2])=H6 at *
   simp -implicitDefEqProofs (disch:=omega)[qb,s1,qf]
   refine zq (ys:=[.agg (ptC (A,(-1),n2))]) (ids:=[]) rfl rfl ?_
   simp -implicitDefEqProofs (disch:=omega)[qb,zP,ptC]
   refine Q5 (ys:=ptC (A,(-1),n2)) s5 (by omega) (by decide) rfl rfl fun vs w1 w2 w3=>?_
   simp -implicitDefEqProofs (disch:=omega)[qb]
   rw [hK0]
   refine qz (i+1,ps++[(A,(-1),n2)],.ms H6.length 0 (i+1) 3,s2',qH H6 vs) ⟨by simp only;omega,(w1 id (by omega) (fun h=>by have:=c8 id h;omega)).trans s2,fun j h1 h2=>?_,by simp only;omega,by simp only;omega,?_,by simp only [List.length_append,List.length_cons,List.length_nil];omega,fun j hj=>?_,c9⟩ (by simp only;omega) (by simp only [ix])
   · exact (w1 j (by omega) (fun h=>by have:=c8 j h;omega)).trans ((s3 j (by omega) h2).trans (c3 j h1 h2))
   · rw [jr];exact w3
   · simp only [rid] at hj;injection hj;omega
theorem qi3:∀ a:Fin 256,IntKind.u8.wrap ((((a.1:Int) % 2 ^ IntKind.u8.bits).toNat ||| 128 % 2 ^ IntKind.u8.bits:Nat):Int)=((128+a.1 % 128:Nat):Int):=by decide +kernel
theorem qsC (a:Nat) (h:a<256):IntKind.u8.wrap ((((a:Int) % 2 ^ IntKind.u8.bits).toNat ||| 128 % 2 ^ IntKind.u8.bits:Nat):Int)=((128+a % 128:Nat):Int):=qi3 ⟨a,h⟩
theorem qnS {n:Nat} (h:n≤255):[U (n:Int)]=qw [UInt8.ofNat n]:=by
 show _=[U ((UInt8.ofNat n).toNat:Int)]
 rw [qnR h]
structure WrH (H:List HObj) (id:Nat) (x:AV) (l:List UInt8):Prop where
 at':qr H id=some (.cells [x])
 acc:AccB H x l
 ne:rid x≠some id
structure WrK (H:List HObj) (id:Nat) (x:AV) (H':List HObj) (y:AV):Prop where
 keep:∀ j,j<H.length→j≠id→rid x≠some j→qr H' j=qr H j
 len:H.length≤H'.length
 own:∀ j,rid y=some j→rid x=some j∨H.length≤j
theorem WrK.refl {H id x}:WrK H id x H x:=⟨fun _ _ _ _=>rfl,Nat.le_refl _,fun _ h => .inl h⟩
theorem WrK.trans {H id x H' y H'' z} (h:WrK H id x H' y) (k:WrK H' id y H'' z):WrK H id x H'' z:=by
 refine ⟨fun j h1 h2 h3=>?_,Nat.le_trans h.len k.len,fun j hj=>?_⟩
 · have : rid y ≠ some j := fun e => by
    rcases h.own j e with h | h
    · exact h3 h
    · omega
   exact (k.keep j (Nat.lt_of_lt_of_le h1 h.len) h2 this).trans (h.keep j h1 h2 h3)
 · rcases k.own j hj with h1 | h1
   · exact h.own j h1
   · exact .inr (Nat.le_trans h.len h1)
theorem WrH.put {H H3 : List HObj} {id : Nat} {x y : AV} {l m : List UInt8} (h : WrH H id x l) (w1 : ∀ i,i < H.length → rid x ≠ some i → qr H3 i = qr H i) (w2 : H.length < H3.length) (w3 : AccB H3 y m) (w4 : rid y = some H.length) :
 WrH (H3.set id (.cells [y])) id y m∧WrK H id x (H3.set id (.cells [y])) y:=by
 have l0:=qj h.at'
 refine ⟨⟨qi (by omega),w3.mono fun i hi=>qh (by rw [w4] at hi;cases hi;omega),by rw [w4];intro e;cases e;omega⟩,fun j h1 h2 h3=>(qh (by omega)).trans (w1 j h1 h3),by rw [List.length_set];omega,fun j hj => .inr (by rw [w4] at hj;cases hj;omega)⟩
set_option maxHeartbeats 2000000 in
theorem zK {H : List HObj} {id : Nat} {x : AV} {l : List UInt8} {n : Nat} {K : AV → List HObj → Prop} (h : WrH H id x l) (hn : n ≤ 4611686018427387904) (hl : l.length ≤ 1000000)
 (hK:∀ H' y,WrH H' id y (l++ZJ n)→WrK H id x H' y→K (.tup []) H'):zG Tryz.prog 90 [.ref id 0,I (n:Int)] H K:=by
 refine zj Tryz.func90 qcT (QB qwg) (by show 2≤_;decide) ?_
 simp -implicitDefEqProofs (disch:=omega)[qbG,qb]
 have hp9:=zD (n:=n) (by omega)
 refine qO (fun q : Nat × List UInt8 × AV × List HObj => ⟨[(0,.ref id 0),(1,I (q.1 : Int))],q.2.2.2⟩)
  (fun q=>q.1≤n∧WrH q.2.2.2 id q.2.2.1 q.2.1∧WrK H id x q.2.2.2 q.2.2.1∧q.2.1++ZJ q.1=l++ZJ n)
  (fun q=>q.1) (n,l,x,H) ⟨Nat.le_refl _,h,.refl,rfl⟩ rfl ?_
 rintro ⟨m,l2,y,H2⟩ ⟨c1,c2,c3,c4⟩
 simp only at c1 c2 c3 c4 ⊢
 have l0:=qj c2.at'
 have hl2:l2.length≤1000009:=by
  have:=congrArg List.length c4
  simp only [List.length_append] at this
  omega
 refine qW fun K0 hK0=>?_
 simp -implicitDefEqProofs (disch:=omega)[qb]
 refine qP (fun hc=>?_) (fun hc=>?_)
 · have hm : 128 ≤ m := by simp at hc; omega
   simp -implicitDefEqProofs (disch:=omega)[qb,c2.at',qf]
   have e1:IntKind.u8.wrap (m:Int)=((m % 256:Nat):Int):=by rw [qdL];omega
   have e2:=qsC (m % 256) (Nat.mod_lt _ (by decide))
   rw [Nat.mod_mod_of_dvd _ (by decide)] at e2
   rw [e1,e2]
   refine zq (ys:=[U ((128+m % 128:Nat):Int)]) (ids:=[]) rfl rfl ?_
   simp -implicitDefEqProofs (disch:=omega)[qb,zP]
   have eb:[U (128+(m:Int) % 128)]=qw [UInt8.ofNat (128+m % 128)]:=by
    rw [←qnS (by omega),show ((128+m % 128:Nat):Int)=128+(m:Int) % 128 by omega]
   rw [eb]
   refine Xn c2.acc (by omega) (by simp) (by simp) rfl fun y2 ws w1 w2 w3 w4=>?_
   simp -implicitDefEqProofs (disch:=omega)[qb]
   obtain ⟨f1,f2⟩:=c2.put w1 w2 w3 w4
   have w3':=w3
   rcases w3' with rfl | ⟨j2,rfl,w5⟩
   · cases w4
   have f3:qr (qH H2 ws) id=some (.cells [y]):=(w1 id l0 c2.ne).trans c2.at'
   generalize qH H2 ws=H3 at *
   have l3:id<H3.length:=by omega
   simp -implicitDefEqProofs (disch:=omega)[qb,f3,qt]
   have e7:((m:Int).fdiv (2 ^ min 7 IntKind.i64.bits))=((m / 128:Nat):Int):=by
    have:(2 ^ min 7 IntKind.i64.bits:Int)=128:=by decide
    rw [this,Int.fdiv_eq_ediv_of_nonneg _ (by decide)];omega
   rw [if_pos l3,hK0]
   refine qz (m / 128,l2++[UInt8.ofNat (128+m % 128)],.ms j2 0 (l2++[UInt8.ofNat (128+m % 128)]).length 1,H3.set id (.cells [.ms j2 0 (l2++[UInt8.ofNat (128+m % 128)]).length 1])) ⟨by simp only;omega,f1,c3.trans f2,?_⟩ (by simp only;omega) (by simp only [e7];try simp)
   rw [←c4,qfa (n:=m) (by omega)];simp
 · have hm : m < 128 := by simp at hc; omega
   subst hK0
   simp -implicitDefEqProofs (disch:=omega)[qb,c2.at',qf]
   have e1:IntKind.u8.wrap (m:Int)=((m:Nat):Int):=by rw [qdL];omega
   rw [e1]
   refine zq (ys:=[U ((m:Nat):Int)]) (ids:=[]) rfl rfl ?_
   simp -implicitDefEqProofs (disch:=omega)[qb,zP]
   rw [qnS (by omega)]
   refine Xn c2.acc (by omega) (by simp) (by simp) rfl fun y2 ws w1 w2 w3 w4=>?_
   simp -implicitDefEqProofs (disch:=omega)[qb]
   obtain ⟨f1,f2⟩:=c2.put w1 w2 w3 w4
   have w3':=w3
   rcases w3' with rfl | ⟨j2,rfl,w5⟩
   · cases w4
   have f3:qr (qH H2 ws) id=some (.cells [y]):=(w1 id l0 c2.ne).trans c2.at'
   generalize qH H2 ws=H3 at *
   have l3:id<H3.length:=by omega
   simp -implicitDefEqProofs (disch:=omega)[qb,f3,qt]
   rw [if_pos l3]
   have el:(l2++[UInt8.ofNat m]).length=l2.length+1:=by simp
   rw [el] at f1 f2
   refine ⟨[],trivial,hK _ _ ?_ (c3.trans f2)⟩
   rw [←c4,qdj hm];exact f1
theorem qcY (f:Bool) (l:List UInt8) (hl:l.length≤1000000):qC Tryz.prog 92 [zQ f l] (U (qgF l:Int)):=by
 refine qT (walk Tryz.func92 qiq (by kernel_rfl) (by show 1≤_;decide) ?_)
 simp -implicitDefEqProofs (disch:=omega)[qji,qb]
 refine qO (fun i:Nat=>⟨[(3,U ((qtr (l.take i) % 256:Nat):Int)),(6,zQ f l),(7,I (l.length:Int)),(8,I (i:Int))],[]⟩) (fun i=>i≤l.length) (fun i=>l.length - i) 0 (Nat.zero_le _) rfl ?_
 intro i c1
 refine qW fun K0 hK0=>?_
 simp -implicitDefEqProofs (disch:=omega)[qb]
 refine qP (fun hc=>?_) (fun hc=>?_)
 · have hi : i < l.length := by simpa using hc
   have ix:((i:Int)+1)=((i+1:Nat):Int):=by omega
   have st:=qk2 hi
   simp -implicitDefEqProofs (disch:=omega)[qb,hi,qvw,qZ]
   rw [hK0,qdL]
   refine qz (i+1) (by omega) (by omega) ?_
   simp only [ix,st]
   congr 5
   try simp only [AV.v.injEq,Value.int.injEq,true_and]
   try omega
 · have hi : i = l.length := by simp at hc; omega
   subst hi
   subst hK0
   rw [List.take_length]
   simp -implicitDefEqProofs (disch:=omega)[qb]
   show ((qtr l % 256:Nat):Int)=_
   omega
theorem WrH.front {H os id x l} (h:WrH H id x l):WrH (H++os) id x l:=⟨(qk (qj h.at')).trans h.at',h.acc.mono fun i hi=>qk (h.acc.lt hi),h.ne⟩
theorem WrK.front {H id x H' y os} (h:WrK H id x H' y):WrK H id x (H'++os) y:=⟨fun j h1 h2 h3=>(qk (Nat.lt_of_lt_of_le h1 h.len)).trans (h.keep j h1 h2 h3),by rw [List.length_append];have:=h.len;omega,h.own⟩
set_option maxHeartbeats 4000000 in
theorem WM {H : List HObj} {id : Nat} {x : AV} {l : List UInt8} {f : Bool} {ps : List Pt} {K : AV → List HObj → Prop} (h : WrH H id x l) (hp : ∀ p ∈ ps,qi8 p) (hps : ps.length ≤ 1000) (hl : l.length ≤ 900000)
 (hK:∀ H' y,WrH H' id y (l++qbp ps)→WrK H id x H' y→K (.tup []) H'):zG Tryz.prog 91 [.ref id 0,JG f ps] H K:=by
 refine zj Tryz.func91 qeU (QB qwj) (by show 2≤_;decide) ?_
 simp -implicitDefEqProofs (disch:=omega)[qd9,qb]
 have hlen9:=zD (n:=ps.length) (by omega)
 refine zK h (by omega) (by omega) fun H1 y1 a1 a2=>?_
 simp -implicitDefEqProofs (disch:=omega)[qb]
 refine qO (fun q:Nat × AV × List HObj=>⟨[(0,.ref id 0),(10,JG f ps),(11,I (ps.length:Int)),(12,I (q.1:Int))],q.2.2⟩) (fun q=>q.1≤ps.length∧WrH q.2.2 id q.2.1 (l++(ZJ ps.length++JV (ps.take q.1)))∧WrK H id x q.2.2 q.2.1) (fun q=>ps.length - q.1) (0,y1,H1) ⟨Nat.zero_le _,by simpa [JV] using a1,a2⟩ rfl ?_
 rintro ⟨i,y,H2⟩ ⟨c1,c2,c3⟩
 simp only at c1 c2 c3 ⊢
 refine qW fun K0 hK0=>?_
 simp -implicitDefEqProofs (disch:=omega)[qb]
 refine qP (fun hc=>?_) (fun hc=>?_)
 · have hi : i < ps.length := by simpa using hc
   have ix:((i:Int)+1)=((i+1:Nat):Int):=by omega
   have st:=qiN hi
   have hpi:=hp _ (List.getElem_mem hi)
   have hln:=qfb (l:=ps.take i) fun p hq=>hp p (List.mem_of_mem_take hq)
   have hlt:(ps.take i).length≤1000:=by rw [List.length_take];omega
   simp -implicitDefEqProofs (disch:=omega)[qb,hi,ptC]
   generalize hB:ps[i]=p at *
   obtain ⟨pa,pr,pt⟩:=p
   unfold qi8 at hpi
   simp only at hpi st
   have hc9:W8 (pa,pr,pt)≤1000255:=by unfold W8;simp only;split <;> omega
   have hcl:=zD (n:=W8 (pa,pr,pt)) (by omega)
   have htl:=zD (n:=pt.toNat) (by omega)
   have et:(pt:Int)=((pt.toNat:Nat):Int):=by omega
   have d2:=c2.front (os:=[HObj.cells [U pa,I pr,I pt]])
   have d3:=c3.front (os:=[HObj.cells [U pa,I pr,I pt]])
   have o1:qr (H2++[HObj.cells [U pa,I pr,I pt]]) H2.length=some (.cells [U pa,I pr,I pt]):=Qn
   have hne:id≠H2.length:=by have:=qj c2.at';omega
   have hne2:rid y≠some H2.length:=fun e=>by have:=c2.acc.lt e;omega
   have hLl:H2.length<(H2++[HObj.cells [U pa,I pr,I pt]]).length:=by simp
   generalize H2++[HObj.cells [U pa,I pr,I pt]]=H3 at *
   generalize H2.length=L at *
   simp -implicitDefEqProofs (disch:=omega)[qb,o1,qf]
   have hA:(l++(ZJ ps.length++JV (ps.take i))).length≤930000:=by simp only [List.length_append];omega
   by_cases h0:0≤pr
   · have ec : (26 + pr : Int) = ((W8 (pa,pr,pt) : Nat) : Int) := by unfold W8; simp only; rw [if_pos h0]; omega
     simp -implicitDefEqProofs (disch:=omega)[qb,h0,o1,qf]
     rw [ec]
     refine zK d2 (by omega) (by omega) fun H4 y4 b1 b2=>?_
     have o4:=(b2.keep L hLl (Ne.symm hne) hne2).trans o1
     simp -implicitDefEqProofs (disch:=omega)[qb,o4,qf]
     rw [et]
     refine zK b1 (by omega) (by simp only [List.length_append] at hA ⊢;omega) fun H5 y5 b3 b4=>?_
     simp -implicitDefEqProofs (disch:=omega)[qb]
     rw [hK0]
     refine qz (i+1,y5,H5) ⟨by simp only;omega,?_,d3.trans (b2.trans b4)⟩ (by simp only;omega) (by simp only [ix])
     rw [st]
     simpa [List.append_assoc] using b3
   · have ec : (pa - 97 : Int) = ((W8 (pa,pr,pt) : Nat) : Int) := by unfold W8; simp only; rw [if_neg h0]; omega
     simp -implicitDefEqProofs (disch:=omega)[qb,h0,o1,qf]
     rw [ec]
     refine zK d2 (by omega) (by omega) fun H4 y4 b1 b2=>?_
     have o4:=(b2.keep L hLl (Ne.symm hne) hne2).trans o1
     simp -implicitDefEqProofs (disch:=omega)[qb,o4,qf]
     rw [et]
     refine zK b1 (by omega) (by simp only [List.length_append] at hA ⊢;omega) fun H5 y5 b3 b4=>?_
     simp -implicitDefEqProofs (disch:=omega)[qb]
     rw [hK0]
     refine qz (i+1,y5,H5) ⟨by simp only;omega,?_,d3.trans (b2.trans b4)⟩ (by simp only;omega) (by simp only [ix])
     rw [st]
     simpa [List.append_assoc] using b3
 · have hi : i = ps.length := by simp at hc; omega
   subst hi
   subst hK0
   rw [List.take_length] at c2
   simp -implicitDefEqProofs (disch:=omega)[qb]
   exact ⟨[],trivial,hK _ _ c2 c3⟩
set_option maxHeartbeats 4000000 in
theorem qjV (d:Dy) (hd:DyI d) (p:Pt) (i:Int) (hi64:i64 i):qC Tryz.prog 38 [DyV d,.agg (ptC p),I i] (.tup [U (atR d p i),I (atE d p i)]):=by
 unfold i64 at hi64
 refine qT (walk Tryz.func38 qjM (by kernel_rfl) (by show 3≤_;decide) ?_)
 simp -implicitDefEqProofs (disch:=omega)[qnl,qb,dyC,ptC]
 refine qg (ys:=[DyV d,.agg (ptC p)]) (ids:=[]) rfl (Yp d hd p) ?_
 simp -implicitDefEqProofs (disch:=omega)[qb,AV.scalar]
 by_cases hE:Zb d p=0
 case neg =>
  have hE':(Zb d p != 0)=true:=by rw [bne_iff_ne];exact hE
  have h1:atE d p i=Zb d p:=if_neg hE
  have h2:atR d p i=0:=if_neg (by rw [h1];exact hE)
  rw [h1,h2]
  simp -implicitDefEqProofs (disch:=omega)[qb,hE']
  exact ⟨[],rfl⟩
 have hE':(Zb d p != 0)=false:=by rw [hE];rfl
 obtain ⟨hb,hp⟩:=VL.1 hE
 have V:=jw.1 hb
 have hLO:=jO V.recV
 have hl:qc6 d p=QZ (qu d.rc) [p]:=if_pos hE
 have hp1:∀ q∈[p],qI (qu d.rc).length q=true:=fun q hq=>by rw [List.mem_singleton] at hq;rw [hq,zy];exact hp
 simp -implicitDefEqProofs (disch:=omega)[qb,hE']
 refine qg (ys:=[Bks d.rc]) (ids:=[]) rfl (Z9 false d.rc V.recV (fun b hb=>by have:=(hd.rc b hb).1.2;omega)) ?_
 simp -implicitDefEqProofs (disch:=omega)[qb,AV.scalar]
 by_cases b1:0≤i
 case neg =>
  have b1':(i<0)=True:=by simp only [eq_iff_iff,iff_true];omega
  have h1:atE d p i=3:=by unfold atE;rw [if_pos hE,if_pos (.inl (by omega))]
  have h2:atR d p i=0:=if_neg (by rw [h1];decide)
  rw [h1,h2]
  simp -implicitDefEqProofs (disch:=omega)[qb,b1']
  exact ⟨[],rfl⟩
 have b1':(i<0)=False:=by simp only [eq_iff_iff,iff_false];omega
 simp -implicitDefEqProofs (disch:=omega)[qb,b1']
 refine zq (ys:=[.agg (ptC p)]) (ids:=[]) rfl rfl ?_
 simp -implicitDefEqProofs (disch:=omega)[qb,zP,ptC]
 refine qg (ys:=[Ls false (qu d.rc),JG true [p]]) (ids:=[]) rfl (QN false true _ [p] hLO hp1 (by simp)) ?_
 rw [←hl]
 simp -implicitDefEqProofs (disch:=omega)[qb,AV.scalar]
 by_cases b2:i<qc6 d p
 case neg =>
  have b2':(qc6 d p≤i)=True:=by simp only [eq_iff_iff,iff_true];omega
  have h1:atE d p i=3:=by unfold atE;rw [if_pos hE,if_pos (.inr (by omega))]
  have h2:atR d p i=0:=if_neg (by rw [h1];decide)
  rw [h1,h2]
  simp -implicitDefEqProofs (disch:=omega)[qb,b2']
  exact ⟨[],rfl⟩
 have b2':(qc6 d p≤i)=False:=by simp only [eq_iff_iff,iff_false];omega
 have h1:atE d p i=0:=by unfold atE;rw [if_pos hE,if_neg (by omega)]
 have h2:atR d p i=atF (qu d.rc) d.rc (d.rc.length+1) p i:=if_pos h1
 have hrl:=V.rl
 have hln:=zy d.rc
 have hpos := qmB V.recV (fun b hb => by
  obtain ⟨j,hj,rfl⟩:=List.mem_iff_getElem.1 hb
  have:=(Q6 (V.rb j hj)).2.1
  intro e;rw [e] at this;simp at this) d.rc.length (Nat.le_refl _)
 rw [List.take_length] at hpos
 rw [h1,h2]
 simp -implicitDefEqProofs (disch:=omega)[qb,b2',dyC]
 generalize hR:atF (qu d.rc) d.rc (d.rc.length+1) p i=R
 refine qkg (fun q:Nat × Pt × Int × List HObj=>⟨[(2,I q.2.2.1),(3,.ref 0 0),(4,.ref 1 0),(9,Ls false (qu d.rc))],q.2.2.2⟩) (fun q=>(qI d.rc.length q.2.1=true∧0≤q.2.2.1∧q.2.2.1≤9223372036854775807∧atF (qu d.rc) d.rc q.1 q.2.1 q.2.2.1=R∧q.2.1.2.1<q.1)∧qr q.2.2.2 0=some (.cells (dyC d))∧qr q.2.2.2 1=some (.cells (ptC q.2.1))) (fun q=>(q.2.1.2.1+1).toNat) (d.rc.length+1,p,i,[.cells (dyC d),.cells (ptC p)]) ⟨⟨hp,b1,hi64.2,hR,by rcases zk hp with ⟨h,_⟩ | ⟨_,_,h⟩ <;> (simp only;omega)⟩,rfl,rfl⟩ (qke fun t=>by simp only [JJ,qgc];(repeat' split) <;> first | (exfalso;omega) | exact .inl rfl | exact .inr rfl) ?_
 clear hR b2 b2' b1 b1' h1 h2 hE hE' hp hl hp1
 rintro ⟨n,q,j,H⟩ ⟨⟨hp,c1,c2,c3,c4⟩,o0,o1⟩
 simp only at hp c1 c2 c3 c4 o0 o1 ⊢
 refine qW fun K0 hK0=>?_
 simp -implicitDefEqProofs (disch:=omega)[qb,o1,qf,dyC,ptC]
 refine qP (fun hc=>?_) (fun hc=>?_)
 · have h0 : 0 ≤ q.2.1 := by simpa using hc
   have hr:q.2.1.toNat<d.rc.length:=by rcases zk hp with ⟨h,_⟩ | ⟨_,_,h⟩ <;> omega
   have hr2:q.2.1<(d.rc.length:Int):=by omega
   have hr3:q.2.1.toNat<(qu d.rc).length:=by omega
   have hr4:q.2.1<((qu d.rc).length:Int):=by omega
   obtain ⟨m,rfl⟩:∃ m,n=m+1:=⟨n - 1,by omega⟩
   have hL1:=hpos _ (List.getElem_mem hr3)
   have hL2:=V.rm _ (List.getElem_mem hr3)
   have hmx:QM=1099511627776:=rfl
   have hne0:(qu d.rc)[q.2.1.toNat]≠0:=by omega
   have tm0:0≤j.tmod (qu d.rc)[q.2.1.toNat]:=Int.tmod_nonneg _ c1
   have tm1:j.tmod (qu d.rc)[q.2.1.toNat]<(qu d.rc)[q.2.1.toNat]:=Int.tmod_lt_of_pos _ (by omega)
   simp -implicitDefEqProofs (disch:=omega)[qb,h0,hr,hr2,hr3,hr4,JH,hne0,o0,o1,qf,dyC,ptC]
   have hlg:=qmA V.recV hr hr3
   have hpl:∀ p∈d.rc[q.2.1.toNat].2,qI (qu d.rc).length p=true:=fun p hp'=>WC (V.recV.1 _ hr p hp') (by omega)
   have hpr:=V.recV.1 _ hr
   have hbl:=(Q6 (V.rb _ hr)).2.2.1
   have hraw:=qdH (fun x hx=>by have:=hpos x hx;omega) hpl
   have hfar:JS=1125899906842624:=rfl
   have hst:atF (qu d.rc) d.rc (m+1) q j=atF (qu d.rc) d.rc m (qdf (qu d.rc) d.rc[q.2.1.toNat].2 (j.tmod (qu d.rc)[q.2.1.toNat])).1 (qdf (qu d.rc) d.rc[q.2.1.toNat].2 (j.tmod (qu d.rc)[q.2.1.toNat])).2:=by
    conv=>lhs;unfold atF
    rw [if_neg (by omega),List.getD_eq_getElem?_getD,List.getElem?_eq_getElem hr,List.getD_eq_getElem?_getD,List.getElem?_eq_getElem hr3];rfl
   rw [hst] at c3
   have hjl:j.tmod (qu d.rc)[q.2.1.toNat]<qfd (qu d.rc) d.rc[q.2.1.toNat].2:=by omega
   have hrm:qfd (qu d.rc) d.rc[q.2.1.toNat].2≤QM:=by omega
   clear hst hraw hlg hne0 tm1 hL1 hL2
   generalize hl:d.rc[q.2.1.toNat].2=l at *
   generalize j.tmod (qu d.rc)[q.2.1.toNat]=j0 at *
   refine qO (fun t:Nat × Int × Pt × List HObj=>⟨[(2,I t.2.1),(3,.ref 0 0),(4,.ref 1 0),(9,Ls false (qu d.rc)),(48,Pts l),(49,I (l.length:Int)),(50,I (t.1:Int))],t.2.2.2⟩) (fun t=>(t.1≤l.length∧qdf (qu d.rc) (l.drop t.1) t.2.1=qdf (qu d.rc) l j0∧0≤t.2.1∧t.2.1<qfd (qu d.rc) (l.drop t.1)∧qfd (qu d.rc) (l.drop t.1)≤QM)∧qr t.2.2.2 0=some (.cells (dyC d))∧qr t.2.2.2 1=some (.cells (ptC t.2.2.1))) (fun t=>l.length - t.1) (0,j0,q,H) ⟨⟨Nat.zero_le _,rfl,tm0,hjl,hrm⟩,o0,o1⟩ rfl ?_
   clear o0 o1
   rintro ⟨k,j',qq,H1⟩ ⟨⟨d1,d2,d3,d4,d5⟩,o0,o1⟩
   simp only at d1 d2 d3 d4 d5 o0 o1 ⊢
   refine qW fun K1 hK1=>?_
   have hk:k<l.length:=by
    apply Nat.lt_of_not_le;intro hge
    rw [List.drop_eq_nil_of_le hge] at d4
    simp [qfd] at d4;omega
   have hdr:l.drop k=l[k]::l.drop (k+1):=List.drop_eq_getElem_cons hk
   have hpk:=hpl _ (List.getElem_mem hk)
   have hp1:∀ p∈[l[k]],qI (qu d.rc).length p=true:=fun p hp'=>by rw [List.mem_singleton] at hp';rw [hp'];exact hpk
   have rT:=fun f=>QN false f _ [l[k]] hLO hp1 (by simp)
   have tg:=Vo hLO hp1
   rw [hdr] at d2 d4 d5
   have ew:IntKind.i64.wrap ((k:Int)+1)=(k:Int)+1:=qb (by omega)
   have kx:((k:Int)+1)=((k+1:Nat):Int):=by omega
   have hll:l.length≤1000000:=by omega
   simp -implicitDefEqProofs (disch:=omega)[qb,hk,ptC]
   have hone:=qqa (long:=qu d.rc) (p:=l[k])
   have hrc:qfd (qu d.rc) (l[k]::l.drop (k+1))=ja (qu d.rc) l[k]*l[k].2.2+qfd (qu d.rc) (l.drop (k+1)):=rfl
   have hr0:=(qdH (fun x hx=>by have:=hpos x hx;omega) (l:=l.drop (k+1)) (fun p hp'=>hpl p (List.mem_of_mem_drop hp'))).1
   have hpk2:qdf (qu d.rc) (l[k]::l.drop (k+1)) j'=if j'<QZ (qu d.rc) [l[k]] then (l[k],j') else qdf (qu d.rc) (l.drop (k+1)) (j' - QZ (qu d.rc) [l[k]]):=rfl
   have hin:=hpr _ (List.getElem_mem hk)
   generalize ja (qu d.rc) l[k]*l[k].2.2=X at *
   generalize QZ (qu d.rc) [l[k]]=T at *
   generalize hlk:l[k]=pk at *
   obtain ⟨pa,pr,pt⟩:=pk
   have l0:=qj o0
   have l1:=qj o1
   have u0:qr (H1++[HObj.cells [U pa,I pr,I pt]]) 0=some (.cells (dyC d)):=(qk l0).trans o0
   have u1:qr (H1++[HObj.cells [U pa,I pr,I pt]]) 1=some (.cells (ptC qq)):=(qk l1).trans o1
   have u2:qr (H1++[HObj.cells [U pa,I pr,I pt]]) H1.length=some (.cells [U pa,I pr,I pt]):=Qn
   have hL0:H1.length≠0:=by omega
   have hL1:H1.length≠1:=by omega
   generalize H1++[HObj.cells [U pa,I pr,I pt]]=H2 at *
   generalize H1.length=L at *
   have l1':=qj u1
   have v0:qr (H2.set 1 (.cells [U pa,I pr,I pt])) 0=some (.cells (dyC d)):=(qh (by omega)).trans u0
   have v1:qr (H2.set 1 (.cells [U pa,I pr,I pt])) 1=some (.cells [U pa,I pr,I pt]):=qi l1'
   have v2:qr (H2.set 1 (.cells [U pa,I pr,I pt])) L=some (.cells [U pa,I pr,I pt]):=(qh (by omega)).trans u2
   simp -implicitDefEqProofs (disch:=omega)[qb,u2,u1,ptC]
   try rw [if_pos l1']
   generalize H2.set 1 (.cells [U pa,I pr,I pt])=H3 at *
   simp -implicitDefEqProofs (disch:=omega)[qb,v2,qf]
   refine zq (ys:=[.agg (ptC (pa,pr,pt))]) (ids:=[]) rfl rfl ?_
   simp -implicitDefEqProofs (disch:=omega)[qb,zP,ptC]
   refine qg (ys:=[Ls false (qu d.rc),JG true [(pa,pr,pt)]]) (ids:=[]) rfl (rT true) ?_
   simp -implicitDefEqProofs (disch:=omega)[qb,AV.scalar]
   by_cases hT:T≤j'
   case pos =>
    have hT':(j'<T)=False:=by simp only [eq_iff_iff,iff_false];omega
    rw [hpk2,if_neg (by omega)] at d2
    simp -implicitDefEqProofs (disch:=omega)[qb,hT',ew]
    rw [hK1]
    exact qz (k+1,j' - T,(pa,pr,pt),H3) ⟨⟨by simp only;omega,d2,by simp only;omega,by simp only;omega,by simp only;omega⟩,v0,v1⟩ (by simp only;omega) (by simp only [kx])
   case neg =>
    have hT':(j'<T)=True:=by simp only [eq_iff_iff,iff_true];omega
    rw [hpk2,if_pos (by omega)] at d2
    rw [←d2] at c3
    subst hK1
    simp -implicitDefEqProofs (disch:=omega)[qb,hT',hk,ptC]
    rw [hK0]
    have hlt:pr<q.2.1∨pr = -1:=by
     rcases zk hin with ⟨h,_⟩ | ⟨_,_,h⟩ <;> (simp only at h;omega)
    exact ⟨(m,(pa,pr,pt),j',H3),⟨⟨by rw [←hln];exact hpk,d3,by simp only;omega,c3,by simp only;omega⟩,v0,v1⟩,by simp only;omega,qke fun t=>by simp only [JJ,qgc];(repeat' split) <;> first | (exfalso;omega) | exact .inl rfl | exact .inr rfl⟩
 · have h0 : q.2.1 < 0 := by simp at hc; omega
   have e:R=q.1:=by
    rw [←c3]
    cases n with
    | zero=>rfl
    | succ n=>unfold atF;rw [if_pos h0]
   rw [hK0,e]
   simp -implicitDefEqProofs (disch:=omega)[qb,o1,qf,ptC]
   exact ⟨[],rfl⟩
structure EnH (d:Dy) (H:List HObj) (x:AV) (l:List UInt8):Prop where
 dy:qr H 0=some (.cells (dyC d))
 wr:WrH H 1 x l
 rg:∀ j,rid x=some j→2≤j
theorem EnH.step {d H x l H' y m} (h:EnH d H x l) (a:WrH H' 1 y m) (k:WrK H 1 x H' y):EnH d H' y m:=by
 refine ⟨(k.keep 0 (qj h.dy) (by decide) (fun e=>by have:=h.rg 0 e;omega)).trans h.dy,a,fun j hj=>?_⟩
 rcases k.own j hj with h1 | h1
 · exact h.rg j h1
 · have:=qj h.wr.at';omega
theorem EnH.front {d H x l os} (h:EnH d H x l):EnH d (H++os) x l:=⟨(qk (qj h.dy)).trans h.dy,h.wr.front,h.rg⟩
structure EnS (d:Dy) (H:List HObj) (x:AV) (l:List UInt8) (L:Nat) (o:HObj):Prop where
 h:EnH d H x l
 s:qr H L=some o
 l2:2≤L
 r:rid x≠some L
theorem EnS.step {d H x l L o H' y m} (h:EnS d H x l L o) (a:WrH H' 1 y m) (k:WrK H 1 x H' y):EnS d H' y m L o:=by
 refine ⟨h.h.step a k,(k.keep L (qj h.s) (by have:=h.l2;omega) h.r).trans h.s,h.l2,fun e=>?_⟩
 rcases k.own L e with h1 | h1
 · exact h.r h1
 · have:=qj h.s;omega
theorem EnH.new {d H x l} {o:HObj} (h:EnH d H x l):EnS d (H++[o]) x l H.length o:=⟨h.front,Qn,by have:=qj h.wr.at';omega,fun e=>by have:=h.wr.acc.lt e;omega⟩
def JZ:AC:=match ZK with
 | .seq _ (.seq _ (.seq _ (.seq _ (.seq _ (.seq _ (.seq _ (.seq _ (.seq _ t))))))))=>t
 | x=>x
set_option maxHeartbeats 4000000 in
theorem qj3 (d : Dy) (V : DayV d) (x0 : AV) (H0 : List HObj) (pre : List UInt8) (hpre : qbQ d = pre ++ d.sh.flatMap qij) (hpl : pre.length ≤ 100000) (c0 : EnH d H0 x0 pre) :
 AWP Tryz.prog (E1 Tryz.prog) JZ ⟨[(1,.ref 0 0),(4,.ref 1 0)],H0⟩ (qfB [2,3] (qi7 (.tup [zQ false (qev d),I (W9 d)]))):=by
 have hsl:=V.shl
 have hsm:=V.shm
 have hLl:=V.lens
 have hm:QM=1099511627776:=rfl
 have hpp : ∀ s ∈ d.sh,(∀ p ∈ s.pat,qi8 p) ∧ s.pat.length ≤ 64 := fun s hs => by
  have q:=Z0.1 (hsm s hs).2.2.1
  exact ⟨fun p hp=>qde (by omega) (q.2.1 p hp),q.1⟩
 have hb:=V.bath
 have hel : ∀ s ∈ d.sh,(qij s).length ≤ 1300 := fun s hs => by
  have q:=hsm s hs
  exact qlZ (hpp s hs).1 (hpp s hs).2 q.1.2 (by omega) (by omega)
 simp -implicitDefEqProofs (disch:=omega)[JZ,ZK,qb,c0.dy,qf,dyC]
 refine qO (fun q:Nat × AV × List HObj=>⟨[(4,.ref 1 0),(64,Shs d.sh),(65,I (d.sh.length:Int)),(66,I (q.1:Int))],q.2.2⟩) (fun q=>q.1≤d.sh.length∧EnH d q.2.2 q.2.1 (pre++(d.sh.take q.1).flatMap qij)) (fun q=>d.sh.length - q.1) (0,x0,H0) ⟨Nat.zero_le _,by simpa using c0⟩ rfl ?_
 clear c0
 rintro ⟨i,x,H⟩ ⟨c1,c2⟩
 simp only at c1 c2 ⊢
 refine qW fun K0 hK0=>?_
 simp -implicitDefEqProofs (disch:=omega)[qb]
 refine qP (fun hc=>?_) (fun hc=>?_)
 · have hi : i < d.sh.length := by simpa using hc
   have ix:((i:Int)+1)=((i+1:Nat):Int):=by omega
   have st:=qcC (f:=qij) hi
   have hmem:=List.getElem_mem hi
   have q:=hsm _ hmem
   have qp:=hpp _ hmem
   have hA:(pre++(d.sh.take i).flatMap qij).length≤700000:=by
    have:=qcB (f:=qij) (n:=1300) (l:=d.sh.take i) fun s hs=>hel s (List.mem_of_mem_take hs)
    rw [List.length_take] at this
    rw [List.length_append]
    have:min i d.sh.length*1300≤400*1300:=Nat.mul_le_mul_right _ (by omega)
    omega
   simp -implicitDefEqProofs (disch:=omega)[qb,hi,shC]
   generalize hs:d.sh[i]=s at *
   have b1:s.num.toNat≤4611686018427387904:=by omega
   have b2:s.bath.toNat≤4611686018427387904:=by omega
   have b3:s.age.toNat≤4611686018427387904:=by omega
   have e1:=zD (n:=s.num.toNat) (by omega)
   have e2:=zD (n:=s.bath.toNat) (by omega)
   have e3:=zD (n:=s.age.toNat) (by omega)
   have n1:s.num=((s.num.toNat:Nat):Int):=by omega
   have n2:s.bath=((s.bath.toNat:Nat):Int):=by omega
   have n3:s.age=((s.age.toNat:Nat):Int):=by omega
   have hst:qij s=ZJ s.num.toNat++ZJ s.bath.toNat++ZJ s.age.toNat++qbp s.pat:=rfl
   rw [hst] at st
   clear hst q
   obtain ⟨sn,sb,sa,sp⟩:=s
   simp only at e1 e2 e3 n1 n2 n3 st qp b1 b2 b3
   have f0:=c2.new (o:=HObj.cells [I sn,I sb,I sa,Pts sp])
   generalize H++[HObj.cells [I sn,I sb,I sa,Pts sp]]=H1 at *
   generalize H.length=L at *
   simp -implicitDefEqProofs (disch:=omega)[qb,f0.s,qf]
   rw [n1]
   refine zK f0.h.wr b1 (by omega) fun H2 y2 a2 k2=>?_
   rw [←n1]
   have f1:=f0.step a2 k2
   have m1:(pre++(d.sh.take i).flatMap qij++ZJ sn.toNat).length≤700010:=by rw [List.length_append];omega
   simp -implicitDefEqProofs (disch:=omega)[qb,f1.s,qf]
   rw [n2]
   refine zK f1.h.wr b2 (by omega) fun H3 y3 a3 k3=>?_
   rw [←n2]
   have f2:=f1.step a3 k3
   have m2:(pre++(d.sh.take i).flatMap qij++ZJ sn.toNat++ZJ sb.toNat).length≤700020:=by rw [List.length_append];omega
   simp -implicitDefEqProofs (disch:=omega)[qb,f2.s,qf]
   rw [n3]
   refine zK f2.h.wr b3 (by omega) fun H4 y4 a4 k4=>?_
   rw [←n3]
   have f3:=f2.step a4 k4
   have m3:(pre++(d.sh.take i).flatMap qij++ZJ sn.toNat++ZJ sb.toNat++ZJ sa.toNat).length≤700030:=by rw [List.length_append];omega
   simp -implicitDefEqProofs (disch:=omega)[qb,f3.s,qf]
   refine WM f3.h.wr qp.1 (by omega) (by omega) fun H5 y5 a5 k5=>?_
   have f4:=f3.step a5 k5
   simp -implicitDefEqProofs (disch:=omega)[qb]
   rw [hK0]
   refine qz (i+1,y5,H5) ⟨by simp only;omega,?_⟩ (by simp only;omega) (by simp only [ix])
   rw [st]
   simpa only [List.append_assoc] using f4.h
 · have hi : i = d.sh.length := by simp at hc; omega
   subst hi
   subst hK0
   rw [List.take_length,←hpre] at c2
   have hbl:Wg d=true:=jw.2 V
   simp -implicitDefEqProofs (disch:=omega)[qb,c2.wr.at',qf,c2.wr.acc.lenW]
   by_cases hL:65536≤(qbQ d).length
   case pos =>
    have hL':(65536≤((qbQ d).length:Int))=True:=by simp only [eq_iff_iff,iff_true];omega
    have hE:W9 d=7:=by unfold W9;rw [hbl,if_pos rfl,if_pos hL]
    have hF:qev d=[]:=if_neg (by rw [hE];decide)
    rw [hE,hF]
    simp -implicitDefEqProofs (disch:=omega)[qb,hL']
    exact qG (r' := .tup [.sl true 0 [],I 7]) (is:=[]) rfl (.tupL (.cons .slf (.cons (.refl _) .nil)))
   have hL':(65536≤((qbQ d).length:Int))=False:=by simp only [eq_iff_iff,iff_false];omega
   have hE:W9 d=0:=by unfold W9;rw [hbl,if_pos rfl,if_neg hL]
   have hF:qev d=qbQ d++[UInt8.ofNat (qgF (qbQ d))]:=if_pos hE
   rw [hE,hF]
   simp -implicitDefEqProofs (disch:=omega)[qb,hL',c2.wr.at',qf]
   have c3:=c2.wr.acc
   obtain ⟨fx,ids,hpu⟩:=c3.pur
   have hpa:qE (hpf H) [x]=some ([zQ fx (qbQ d)],ids++[]):=by
    rcases c3 with rfl | ⟨id,rfl,_⟩ <;> (simp only [qE,qU,hpu])
   refine qQ hpa (qcY fx (qbQ d) (by omega)) ?_
   simp -implicitDefEqProofs (disch:=omega)[qb,AV.scalar]
   refine zq (ys:=[U (qgF (qbQ d):Int)]) (ids:=[]) rfl rfl ?_
   have hsu:qgF (qbQ d)≤255:=by unfold qgF;omega
   have eb:[U (qgF (qbQ d):Int)]=qw [UInt8.ofNat (qgF (qbQ d))]:=by
    show _=[U ((UInt8.ofNat (qgF (qbQ d))).toNat:Int)]
    rw [qnR hsu]
   simp -implicitDefEqProofs (disch:=omega)[qb,zP]
   rw [eb]
   refine Xn (m:=[UInt8.ofNat (qgF (qbQ d))]) c3 (by omega) (by simp) (by simp) rfl fun y ws w1 w2 w3 w4=>?_
   simp -implicitDefEqProofs (disch:=omega)[qb,zW,zJ,zE]
   obtain ⟨fy,jds,hpy⟩:=w3.pur
   refine qG (r' := .tup [zQ fy (qbQ d++[UInt8.ofNat (qgF (qbQ d))]),I 0]) (is:=jds++[]) ?_ (.tupL (.cons .slf (.cons (.refl _) .nil)))
   simp only [qU,Qq,hpy]
   rfl
set_option maxHeartbeats 4000000 in
theorem qaj (d:Dy) (hd:DyI d):qC Tryz.prog 46 [DyV d] (.tup [zQ false (qev d),I (W9 d)]):=by
 refine zO (walk Tryz.func46 qcG (by kernel_rfl) (by show 1≤_;decide) ?_)
 have eG:ZK=ZK:=rfl
 simp -implicitDefEqProofs (disch:=omega)[qb,ZK,dyC]
 refine qg (ys:=[DyV d]) (ids:=[]) rfl (Yr d hd) ?_
 simp -implicitDefEqProofs (disch:=omega)[qb,AV.scalar]
 cases hbl:Wg d with
 | false =>
   have hE:W9 d=2:=by unfold W9;rw [hbl];rfl
   have hF:qev d=[]:=if_neg (by rw [hE];decide)
   rw [hE,hF]
   simp -implicitDefEqProofs (disch:=omega)[qb]
   exact qG (r' := .tup [.sl true 0 [],I 2]) (is:=[]) rfl (.tupL (.cons .slf (.cons (.refl _) .nil)))
 | true =>
 have V:=jw.1 hbl
 have hrl:=V.rl
 have hbt:=V.bath
 have hla:=V.laid
 have hsl:=V.shl
 have hpt:=Z0.1 V.pat
 have hLl:=V.lens
 have hbk : ∀ b ∈ d.rc,(∀ p ∈ b.2,qi8 p) ∧ b.2.length ≤ 8 ∧ 1 ≤ b.1.length ∧ b.1.length ≤ 8 := fun b hb => by
  obtain ⟨j,hj,rfl⟩:=List.mem_iff_getElem.1 hb
  have q:=Q6 (V.rb j hj)
  have hn:=qc9 q.1
  refine ⟨fun p hp=>qde (n:=(d.rc.take j).length) (by rw [List.length_take];omega) (q.2.2.2.2 p hp),q.2.2.1,?_,hn⟩
  cases hnm:d.rc[j].1 with
  | nil=>have:=q.1;rw [hnm] at this;cases this
  | cons c r=>simp
 have hmx:QM=1099511627776:=rfl
 have i0:EnH d [.cells (dyC d),.cells [zQ true []]] (zQ true []) []:=⟨rfl,⟨rfl,.inl rfl,by simp [rid]⟩,by simp [rid]⟩
 simp -implicitDefEqProofs (disch:=omega)[qb]
 refine zK (H:=[.cells (dyC d),.cells [zQ true []]]) i0.wr (by omega) (by simp) fun H1 y1 a1 k1=>?_
 have i1:=i0.step a1 k1
 rw [List.nil_append] at i1
 simp -implicitDefEqProofs (disch:=omega)[qb,i1.dy,qf,dyC]
 refine qO (fun q:Nat × AV × List HObj=>⟨[(1,.ref 0 0),(4,.ref 1 0),(20,Bks d.rc),(21,I (d.rc.length:Int)),(22,I (q.1:Int))],q.2.2⟩) (fun q=>q.1≤d.rc.length∧EnH d q.2.2 q.2.1 (ZJ d.rc.length++(d.rc.take q.1).flatMap qhk)) (fun q=>d.rc.length - q.1) (0,y1,H1) ⟨Nat.zero_le _,by simpa using i1⟩ rfl ?_
 clear i0 i1 a1 k1
 rintro ⟨i,x,H⟩ ⟨c1,c2⟩
 simp only at c1 c2 ⊢
 refine qW fun K0 hK0=>?_
 simp -implicitDefEqProofs (disch:=omega)[qb]
 have hpl:=zD (n:=d.rc.length) (by omega)
 have hA:(ZJ d.rc.length++(d.rc.take i).flatMap qhk).length≤10000:=by
  have := qcB (f := qhk) (n := 200) (l := d.rc.take i) fun b hb => by
   have q:=hbk b (List.mem_of_mem_take hb)
   exact qlY q.1 q.2.1 q.2.2.2
  rw [List.length_take] at this
  rw [List.length_append]
  have:min i d.rc.length*200≤32*200:=Nat.mul_le_mul_right _ (by omega)
  omega
 refine qP (fun hc=>?_) (fun hc=>?_)
 · have hi : i < d.rc.length := by simpa using hc
   have ix:((i:Int)+1)=((i+1:Nat):Int):=by omega
   have st:=qcC (f:=qhk) hi
   have q:=hbk _ (List.getElem_mem hi)
   simp -implicitDefEqProofs (disch:=omega)[qb,hi,bkC]
   generalize hb:d.rc[i]=b at *
   have hst:qhk b=ZJ b.1.length++b.1++qbp b.2:=rfl
   rw [hst] at st
   clear hst
   obtain ⟨nm,ps⟩:=b
   simp only at st q
   have e1:=zD (n:=nm.length) (by omega)
   have f0:=c2.new (o:=HObj.cells [S nm,Pts ps])
   generalize H++[HObj.cells [S nm,Pts ps]]=H1 at *
   generalize H.length=L at *
   simp -implicitDefEqProofs (disch:=omega)[qb,f0.s,qf]
   refine zK f0.h.wr (by omega) (by omega) fun H2 y2 a2 k2=>?_
   have f1:=f0.step a2 k2
   have m1:(ZJ d.rc.length++(d.rc.take i).flatMap qhk++ZJ nm.length).length≤10010:=by rw [List.length_append];omega
   simp -implicitDefEqProofs (disch:=omega)[qb,f1.s,f1.h.wr.at',qf]
   refine Xn (m:=nm) f1.h.wr.acc (by omega) (by omega) (by omega) rfl fun y3 ws w1 w2 w3 w4=>?_
   simp -implicitDefEqProofs (disch:=omega)[qb]
   obtain ⟨g1,g2⟩:=f1.h.wr.put w1 w2 w3 w4
   have w3':=w3
   rcases w3' with rfl | ⟨j2,rfl,w5⟩
   · cases w4
   have f3:qr (qH H2 ws) 1=some (.cells [y2]):=(w1 1 (qj f1.h.wr.at') f1.h.wr.ne).trans f1.h.wr.at'
   generalize qH H2 ws=H3 at *
   have l3:1<H3.length:=qj f3
   have f2:=f1.step g1 g2
   have m2:(ZJ d.rc.length++(d.rc.take i).flatMap qhk++ZJ nm.length++nm).length≤10020:=by rw [List.length_append];omega
   generalize hN:(ZJ d.rc.length++(d.rc.take i).flatMap qhk++ZJ nm.length++nm).length=N at *
   simp -implicitDefEqProofs (disch:=omega)[qb,f3,qt,zW,zJ,zE]
   rw [if_pos l3]
   generalize H3.set 1 (.cells [.ms j2 0 N 1])=H4 at *
   simp -implicitDefEqProofs (disch:=omega)[qb,f2.s,qf]
   refine WM f2.h.wr q.1 (by omega) (by omega) fun H5 y5 a5 k5=>?_
   have f4:=f2.step a5 k5
   simp -implicitDefEqProofs (disch:=omega)[qb]
   rw [hK0]
   refine qz (i+1,y5,H5) ⟨by simp only;omega,?_⟩ (by simp only;omega) (by simp only [ix])
   rw [st]
   simpa only [List.append_assoc] using f4.h
 · have hi : i = d.rc.length := by simp at hc; omega
   subst hi
   subst hK0
   rw [List.take_length] at c2 hA
   have n1:d.bath=((d.bath.toNat:Nat):Int):=by omega
   have n2:d.laid=((d.laid.toNat:Nat):Int):=by omega
   have e1:=zD (n:=d.bath.toNat) (by omega)
   have e2:=zD (n:=d.laid.toNat) (by omega)
   simp -implicitDefEqProofs (disch:=omega)[qb,c2.dy,qf,dyC]
   rw [n1]
   refine zK c2.wr (by omega) (by omega) fun H2 y2 a2 k2=>?_
   rw [←n1]
   have c3:=c2.step a2 k2
   have m3:(ZJ d.rc.length++d.rc.flatMap qhk++ZJ d.bath.toNat).length≤10010:=by rw [List.length_append];omega
   simp -implicitDefEqProofs (disch:=omega)[qb,c3.dy,qf,dyC]
   rw [n2]
   refine zK c3.wr (by omega) (by omega) fun H3 y3 a3 k3=>?_
   rw [←n2]
   have c4:=c3.step a3 k3
   have m4:(ZJ d.rc.length++d.rc.flatMap qhk++ZJ d.bath.toNat++ZJ d.laid.toNat).length≤10020:=by rw [List.length_append];omega
   simp -implicitDefEqProofs (disch:=omega)[qb,c4.dy,qf,dyC]
   have hpp:∀ p∈d.pat,qi8 p:=fun p hp=>qde (by omega) (hpt.2.1 p hp)
   have e5:=qdk hpp (by omega)
   refine WM c4.wr hpp (by omega) (by omega) fun H4 y4 a4 k4=>?_
   have c5:=c4.step a4 k4
   have m5:(ZJ d.rc.length++d.rc.flatMap qhk++ZJ d.bath.toNat++ZJ d.laid.toNat++qbp d.pat).length≤50000:=by rw [List.length_append];omega
   have e6:=zD (n:=d.sh.length) (by omega)
   simp -implicitDefEqProofs (disch:=omega)[qb,c5.dy,qf,dyC]
   refine zK c5.wr (by omega) (by omega) fun H5 y5 a5 k5=>?_
   have c6:=c5.step a5 k5
   have t:=qj3 d V y5 H5 _ (by unfold qbQ qrz;rfl) (by rw [List.length_append];omega) c6
   simp -implicitDefEqProofs (disch:=omega)[qb,JZ,ZK,c6.dy,qf,dyC] at t
   simp -implicitDefEqProofs (disch:=omega)[qb,c6.dy,qf,dyC]
   exact t
theorem qi5 (f g:Bool) (x y:List UInt8):qC Tryz.prog 100 [zQ f x,zQ g y] (B (decide (x=y))):=by
 refine qT (walk Tryz.func100 qeV (by kernel_rfl) (by show 2≤_;decide) ?_)
 simp -implicitDefEqProofs (disch:=omega)[qea,qb,qg8]
 have e:(x==y)=decide (x=y):=by by_cases h:x=y <;> simp [h]
 rw [e]
 try exact ⟨[],rfl⟩
def JE:AC:=match zU with
 | .seq _ (.seq _ (.seq _ (.seq _ (.seq _ (.seq _ (.seq _ (.seq _ t)))))))=>t
 | x=>x
set_option maxHeartbeats 8000000 in
theorem qoA {b : List UInt8} {f : Bool} (hb : b.length ≤ 65536) {rs : List Bk} {ss : List Sht} {B' L : Int} {P : List Pt} {x y : AV} {n m : Nat} {g : Bool} {s : List UInt8} {bad : Bool} {H : List HObj} (fr : List (Nat × AV))
 (z:qr H 0=some (.cells z0)) (c1:qr H 1=some (.cells (ZA g (s,bad)))) (c2:qr H 2=some (.cells [x,I B',I L,Pts P,y])) (cx:AccG H x 2 n (fl bkC rs)) (cy:AccG H y 4 m (fl shC ss)) (hn:rs.length=n) (hm:ss.length=m)
 (rx:∀ j,rid x=some j→3≤j) (ry:∀ j,rid y=some j→3≤j) (hd:DyI ⟨rs,B',L,P,ss⟩) :
 AWP Tryz.prog (E1 Tryz.prog) JE ⟨(0,zQ f b)::(2,.ref 0 0)::(4,.ref 1 0)::(5,.ref 2 0)::fr,H⟩ (qh5 [(2,some (true,5)),(3,none)] (qi7 (.tup [DyV (qig b ⟨rs,B',L,P,ss⟩ bad),I (qfw b ⟨rs,B',L,P,ss⟩ bad)]))):=by
 have l0:=qj z
 have l1:=qj c1
 have l2:=qj c2
 simp -implicitDefEqProofs (disch:=omega)[JE,zU,qb,c1,qf]
 simp -implicitDefEqProofs (disch:=omega)[qb,c2,qf]
 subst hn
 subst hm
 obtain ⟨ix,px,lx⟩:=cx.pur2
 obtain ⟨iy,py,ly⟩:=cy.pur2
 have pL:Qq (hpf H) [x,I B',I L,Pts P,y]=some ([.sl (decide (rs.length=0)) rs.length (fl bkC rs),I B',I L,Pts P,.sl (decide (ss.length=0)) ss.length (fl shC ss)],ix++(iy++[])):=by
  simp only [Qq,px,py];rfl
 have hlt : ∀ i ∈ ix ++ (iy ++ []),i < H.length ∧ 3 ≤ i := fun i hi => by
  rw [List.append_nil,List.mem_append] at hi
  rcases hi with hi | hi
  · exact ⟨(lx i hi).2,rx i (lx i hi).1⟩
  · exact ⟨(ly i hi).2,ry i (ly i hi).1⟩
 refine qeg (id:=2) (cs:=[x,I B',I L,Pts P,y]) (cs':=[.sl (decide (rs.length=0)) rs.length (fl bkC rs),I B',I L,Pts P,.sl (decide (ss.length=0)) ss.length (fl shC ss)]) (is:=ix++(iy++[])) (ys:=[.agg [.sl (decide (rs.length=0)) rs.length (fl bkC rs),I B',I L,Pts P,.sl (decide (ss.length=0)) ss.length (fl shC ss)]]) c2 pL (fun h=>by have:=(hlt 2 h).2;omega) rfl (fun i h1 h2=>?_) ?_
 · have : i = 0 := by simp at h1; omega
   subst this
   refine .inr ⟨ix++(iy++[]),?_,fun j hj=>hj⟩
   show qU (hpf H) (.agg _)=_
   simp only [qU,pL];rfl
 have fz:=fun j=>qaA (H:=H) (o := .cells [.sl (decide (rs.length=0)) rs.length (fl bkC rs),I B',I L,Pts P,.sl (decide (ss.length=0)) ss.length (fl shC ss)]) (fun i hi=>(hlt i hi).1) l2 j
 have z2:=(fz 0).trans ((if_neg (by decide)).trans ((if_neg (fun h=>by have:=(hlt 0 h).2;omega)).trans z))
 have z1:=(fz 1).trans ((if_neg (by decide)).trans ((if_neg (fun h=>by have:=(hlt 1 h).2;omega)).trans c1))
 have d2:=(fz 2).trans (if_pos rfl)
 have wk:WkL [.sl (decide (rs.length=0)) rs.length (fl bkC rs),I B',I L,Pts P,.sl (decide (ss.length=0)) ss.length (fl shC ss)] (dyC ⟨rs,B',L,P,ss⟩) := .cons .slf (.cons (.refl _) (.cons (.refl _) (.cons (.refl _) (.cons .slf .nil))))
 generalize qH H (zB (ix++(iy++[]))++[(2,HObj.cells [.sl (decide (rs.length=0)) rs.length (fl bkC rs),I B',I L,Pts P,.sl (decide (ss.length=0)) ss.length (fl shC ss)])])=H2 at *
 refine qlI rfl (.cons (.aggL wk) .nil) (qaj _ hd) ?_
 have l02:=qj z2
 have l22:=qj d2
 generalize hE:W9 ⟨rs,B',L,P,ss⟩=E at *
 generalize hF:qev ⟨rs,B',L,P,ss⟩=F at *
 simp -implicitDefEqProofs (disch:=omega)[qb,AV.scalar,z1,qf]
 cases bad with
 | true =>
   have hO:qfw b ⟨rs,B',L,P,ss⟩ true=8:=rfl
   have hV:qig b ⟨rs,B',L,P,ss⟩ true=dy0:=rfl
   rw [hO,hV]
   simp -implicitDefEqProofs (disch:=omega)[qb,z2,qt,l02]
   refine qK (id:=0) (off:=0) rfl (qi l02) (by simp) ?_
   exact qG (r' := .tup [.agg z0,I 8]) (is:=[]) rfl (.tupL (.cons (.aggL qlf) (.cons (.refl _) .nil)))
 | false =>
 have hO:qfw b ⟨rs,B',L,P,ss⟩ false=if E=0∧F=b then 0 else 8:=by unfold qfw;rw [hE,hF];rfl
 have bad:qfw b ⟨rs,B',L,P,ss⟩ false=8→qig b ⟨rs,B',L,P,ss⟩ false=dy0:=fun h=>by unfold qig;rw [h];rfl
 by_cases e0:E=0
 case neg =>
  have e0':(E != 0)=true:=by rw [bne_iff_ne];exact e0
  have h8:qfw b ⟨rs,B',L,P,ss⟩ false=8:=by rw [hO,if_neg (fun h=>e0 h.1)]
  rw [bad h8,h8]
  simp -implicitDefEqProofs (disch:=omega)[qb,e0',z2,qt,l02]
  refine qK (id:=0) (off:=0) rfl (qi l02) (by simp) ?_
  exact qG (r' := .tup [.agg z0,I 8]) (is:=[]) rfl (.tupL (.cons (.aggL qlf) (.cons (.refl _) .nil)))
 have e0':(E != 0)=false:=by rw [e0];rfl
 simp -implicitDefEqProofs (disch:=omega)[qb,e0']
 refine qg (ys:=[zQ false F,zQ f b]) (ids:=[]) rfl (qi5 false f F b) ?_
 by_cases e1:F=b
 case neg =>
  have h8:qfw b ⟨rs,B',L,P,ss⟩ false=8:=by rw [hO,if_neg (fun h=>e1 h.2)]
  rw [bad h8,h8]
  have e1':decide (F=b)=false:=decide_eq_false e1
  simp -implicitDefEqProofs (disch:=omega)[qb,AV.scalar,e1',z2,qt,l02]
  refine qK (id:=0) (off:=0) rfl (qi l02) (by simp) ?_
  exact qG (r' := .tup [.agg z0,I 8]) (is:=[]) rfl (.tupL (.cons (.aggL qlf) (.cons (.refl _) .nil)))
 have h0:qfw b ⟨rs,B',L,P,ss⟩ false=0:=by rw [hO,if_pos ⟨e0,e1⟩]
 have hY:qig b ⟨rs,B',L,P,ss⟩ false=⟨rs,B',L,P,ss⟩:=by unfold qig;rw [if_pos h0]
 rw [h0,hY]
 have e1':decide (F=b)=true:=decide_eq_true e1
 simp -implicitDefEqProofs (disch:=omega)[qb,AV.scalar,e1',d2,qf,z2,qt,l02]
 refine qK (id:=0) (off:=0) rfl (qi l02) (by simp) ?_
 exact qG (r' := .tup [.agg [.sl (decide (rs=[])) rs.length (fl bkC rs),I B',I L,Pts P,.sl (decide (ss=[])) ss.length (fl shC ss)],I 0]) (is:=[]) rfl (.tupL (.cons (.aggL (.cons .slf (.cons (.refl _) (.cons (.refl _) (.cons (.refl _) (.cons .slf .nil)))))) (.cons (.refl _) .nil)))
theorem qtU (s:Rd):PtI (cPt s).1:=by
 have h1:=zw s
 have h2:=zw (qR s).2
 unfold cPt
 split
 · refine ⟨by simp only;omega,?_,?_⟩ <;> unfold i64 <;> simp only <;> omega
 · refine ⟨by simp only;omega,?_,?_⟩ <;> unfold i64 <;> simp only <;> omega
theorem qnE {α : Type} {rd : Rd → α × Rd} (hle : ∀ s,(rd s).2.1.length ≤ s.1.length) : ∀ (k : Nat) (s : Rd),(itC rd k s).2.1.length ≤ s.1.length
 | 0,_=>Nat.le_refl _
 | k+1,s=>Nat.le_trans (qnE hle k (rd s).2) (hle s)
theorem qc1 {α : Type} {rd : Rd → α × Rd} {Q : α → Prop} {N : Nat} (hle : ∀ s,(rd s).2.1.length ≤ s.1.length) (hq : ∀ s : Rd,s.1.length ≤ N → Q (rd s).1) : ∀ (k : Nat) (s : Rd),s.1.length ≤ N → ∀ x ∈ (itC rd k s).1,Q x
 | 0,s,_,x,hx=>by cases hx
 | k+1,s,hs,x,hx=>by
   have hx:x∈(rd s).1::(itC rd k (rd s).2).1:=hx
   rcases List.mem_cons.1 hx with rfl | hx
   · exact hq s hs
   · exact qc1 hle hq k _ (Nat.le_trans (hle s) hs) x hx
theorem qcq (s:Rd) (hs:s.1.length≤65536):qnp (Zq s).1:=by
 have h:=Z6 s
 unfold Zq
 refine ⟨qc1 (N:=65536) qnw (fun s _=>qtU s) _ _ (by omega),?_⟩
 rw [qc0];omega
theorem J5 (s:Rd):(Zq s).2.1.length≤s.1.length:=Nat.le_trans (qnE qnw _ _) (Z6 s).2.2
theorem qcp (s:Rd):(V6 s).2.1.length≤s.1.length:=by
 have h:=(Z6 s).2.2
 show (List.drop _ _).length≤_
 rw [List.length_drop];omega
theorem qqR (s:Rd):(cBk s).2.1.length≤s.1.length:=Nat.le_trans (J5 _) (qcp s)
theorem qtT (s:Rd) (hs:s.1.length≤65536):BkI (cBk s).1:=by
 refine ⟨qcq _ (Nat.le_trans (qcp s) hs),?_⟩
 have h:=(Z6 s).2.2
 show (List.take _ _).length≤_
 rw [List.length_take];omega
theorem qn9 (s:Rd):(qa9 s).2.1.length≤s.1.length:=by
 have h1:=(zw s).2.2
 have h2:=(zw (qR s).2).2.2
 have h3:=(zw (qR (qR s).2).2).2.2
 have h4:=J5 (qR (qR (qR s).2).2).2
 show (Zq (qR (qR (qR s).2).2).2).2.1.length≤_
 omega
theorem qen (s:Rd):i64 (qR s).1:=by
 have h:=zw s
 unfold i64;omega
theorem qqT (s:Rd) (hs:s.1.length≤65536):ShI (qa9 s).1:=by
 have h1:=(zw s).2.2
 have h2:=(zw (qR s).2).2.2
 have h3:=(zw (qR (qR s).2).2).2.2
 exact ⟨qen _,qen _,qen _,qcq _ (by omega)⟩
def JD:AC:=match zU with
 | .seq _ (.seq _ (.seq _ (.seq _ (.seq _ (.seq _ (.seq _ (.seq (.seq _ a) b))))))) => .seq a b
 | x=>x
set_option maxHeartbeats 8000000 in
theorem qoz {b : List UInt8} {f g : Bool} (hb : b.length ≤ 65536) {rs : List Bk} {B' L : Int} {P : List Pt} {x : AV} {n k : Nat} {s0 : Rd} {H : List HObj}
 (z:qr H 0=some (.cells z0)) (c1:qr H 1=some (.cells (ZA g s0))) (c2:qr H 2=some (.cells [x,I B',I L,Pts P,.sl true 0 []])) (cx:AccG H x 2 n (fl bkC rs)) (hn:rs.length=n)
 (rx:∀ j,rid x=some j→3≤j) (hs0:s0.1.length≤65536) (hrs:(∀ x∈rs,BkI x)∧rs.length≤100000) (hB:i64 B') (hL:i64 L) (hP:qnp P) (hk:k≤65536) :
 AWP Tryz.prog (E1 Tryz.prog) JD ⟨[(0,zQ f b),(2,.ref 0 0),(4,.ref 1 0),(5,.ref 2 0),(65,I (k:Int)),(66,I 0)],H⟩ (qh5 [(2,some (true,5)),(3,none)] (qi7 (.tup [DyV (qig b ⟨rs,B',L,P,(itC qa9 k s0).1⟩ (itC qa9 k s0).2.2),I (qfw b ⟨rs,B',L,P,(itC qa9 k s0).1⟩ (itC qa9 k s0).2.2)]))):=by
 simp -implicitDefEqProofs (disch:=omega)[JD,zU,qb]
 have hSI:=qc1 qn9 qqT k s0 hs0
 have hSL:=qc0 qa9 k s0
 refine qO (fun q : Nat × List Sht × AV × Rd × List HObj => ⟨[(0,zQ f b),(2,.ref 0 0),(4,.ref 1 0),(5,.ref 2 0),(65,I (k : Int)),(66,I (q.1 : Int))],q.2.2.2.2⟩)
  (fun q=>q.1≤k∧qr q.2.2.2.2 0=some (.cells z0)∧qr q.2.2.2.2 1=some (.cells (ZA g q.2.2.2.1))∧qr q.2.2.2.2 2=some (.cells [x,I B',I L,Pts P,q.2.2.1])∧AccG q.2.2.2.2 x 2 n (fl bkC rs)∧AccG q.2.2.2.2 q.2.2.1 4 q.1 (fl shC q.2.1)∧q.2.1.length=q.1∧(∀ j,rid q.2.2.1=some j→3≤j∧rid x≠some j)∧q.2.2.2.1.1.length≤65536∧itC qa9 k s0=(q.2.1++(itC qa9 (k - q.1) q.2.2.2.1).1,(itC qa9 (k - q.1) q.2.2.2.1).2))
  (fun q=>k - q.1) (0,[],.sl true 0 [],s0,H) ⟨Nat.zero_le _,z,c1,c2,cx,.nil,rfl,by simp [rid],hs0,rfl⟩ rfl ?_
 rintro ⟨i,ss,y,st,H2⟩ ⟨d0,d1,d2,d3,d4,d5,d6,d7,d8,d9⟩
 simp only at d0 d1 d2 d3 d4 d5 d6 d7 d8 d9 ⊢
 have l0:=qj d1
 have l1:=qj d2
 have l2:=qj d3
 refine qW fun K0 hK0=>?_
 simp -implicitDefEqProofs (disch:=omega)[qb]
 refine qP (fun hc=>?_) (fun hc=>?_)
 case refine_2 =>
  have hi:i=k:=by simp at hc;omega
  have e0:k - i=0:=by omega
  rw [e0] at d9
  rw [d9] at hSI
  simp only [itC,List.append_nil] at hSI
  rw [d9] at hK0
  simp only [itC,List.append_nil] at hK0
  obtain ⟨sl,bad⟩:=st
  have t:=qoA hb (rs:=rs) (ss:=ss) (B':=B') (L:=L) (P:=P) (bad:=bad) (f:=f) [] d1 d2 d3 d4 d5 hn d6 rx (fun j hj=>(d7 j hj).1) ⟨hrs.1,hrs.2,hB,hL,hP,hSI,by simp only;omega⟩
  simp -implicitDefEqProofs (disch:=omega)[qb,JE,zU,d3,qf] at t
  subst hK0
  simp -implicitDefEqProofs (disch:=omega)[qb,d3,qf]
  exact t
 have hi:i<k:=by simpa using hc
 have ix:((i:Int)+1)=((i+1:Nat):Int):=by omega
 rw [show k - i=(k - (i+1))+1 by omega] at d9
 have d9:itC qa9 k s0=(ss++(qa9 st).1::(itC qa9 (k - (i+1)) (qa9 st).2).1,(itC qa9 (k - (i+1)) (qa9 st).2).2):=d9
 rw [List.append_cons] at d9
 simp -implicitDefEqProofs (disch:=omega)[qb]
 have hS:qa9 st=(⟨(qR st).1,(qR (qR st).2).1,(qR (qR (qR st).2).2).1,(Zq (qR (qR (qR st).2).2).2).1⟩,(Zq (qR (qR (qR st).2).2).2).2):=rfl
 rw [hS] at d9
 clear hS
 refine QF d2 (by omega) fun H3 e1 e2 e3=>?_
 have R1:=zw st
 generalize qR st=N1 at *
 obtain ⟨n1,s1⟩:=N1
 simp only at e1 R1 d9
 have k4:∀ j,j<H2.length→j≠1→qr (H3++[HObj.cells [I n1,I 0,I 0,.sl true 0 []]]) j=qr H2 j:=fun j h1 h2=>(qk (by omega)).trans (e2 j h2)
 have f4:qr (H3++[HObj.cells [I n1,I 0,I 0,.sl true 0 []]]) 1=some (.cells (ZA g s1)):=(qk (by omega)).trans e1
 have o4:qr (H3++[HObj.cells [I n1,I 0,I 0,.sl true 0 []]]) H3.length=some (.cells [I n1,I 0,I 0,.sl true 0 []]):=Qn
 have l4:(H3++[HObj.cells [I n1,I 0,I 0,.sl true 0 []]]).length=H3.length+1:=by simp
 simp -implicitDefEqProofs (disch:=omega)[qb]
 generalize H3++[HObj.cells [I n1,I 0,I 0,.sl true 0 []]]=H4 at *
 generalize H3.length=L3 at *
 refine QF f4 (by omega) fun H5 g1 g2 g3=>?_
 have R2:=zw s1
 generalize qR s1=N2 at *
 obtain ⟨n2,s2⟩:=N2
 simp only at g1 R2 d9
 have o5:=(g2 L3 (by omega)).trans o4
 have p5:L3<H5.length:=by omega
 simp -implicitDefEqProofs (disch:=omega)[qb]
 refine QF g1 (by omega) fun H7 m1 m2 m3=>?_
 have R3:=zw s2
 generalize qR s2=N3 at *
 obtain ⟨n3,s3⟩:=N3
 simp only at m1 R3 d9
 have o7:=(m2 L3 (by omega)).trans o5
 have p7:L3<H7.length:=by omega
 have o7b:qr (H7.set L3 (HObj.cells [I n1,I n2,I 0,.sl true 0 []])) L3=some (.cells [I n1,I n2,I 0,.sl true 0 []]):=qi p7
 have p7b:L3<(H7.set L3 (HObj.cells [I n1,I n2,I 0,.sl true 0 []])).length:=by rw [List.length_set];exact p7
 simp -implicitDefEqProofs (disch:=omega)[qb,o7,qt,p7,o7b,p7b]
 have k8:∀ j,j<H2.length→j≠1→qr (H7.set L3 (HObj.cells [I n1,I n2,I n3,.sl true 0 []])) j=qr H2 j:=fun j h1 h2=>(qh (by omega)).trans ((m2 j h2).trans ((g2 j h2).trans (k4 j h1 h2)))
 have f8:qr (H7.set L3 (HObj.cells [I n1,I n2,I n3,.sl true 0 []])) 1=some (.cells (ZA g s3)):=(qh (by omega)).trans m1
 have o8:qr (H7.set L3 (HObj.cells [I n1,I n2,I n3,.sl true 0 []])) L3=some (.cells [I n1,I n2,I n3,.sl true 0 []]):=qi p7
 have l8:(H7.set L3 (HObj.cells [I n1,I n2,I n3,.sl true 0 []])).length=L3+1:=by rw [List.length_set];omega
 generalize H7.set L3 (HObj.cells [I n1,I n2,I n3,.sl true 0 []])=H8 at *
 refine V3 f8 (by omega) fun H9 q1 q2 q3=>?_
 have R4:=J5 s3
 generalize Zq s3=N4 at *
 obtain ⟨ps,s4⟩:=N4
 simp only at q1 R4 d9
 have o9:=(q2 L3 (by omega) (by omega)).trans o8
 have p9:L3<H9.length:=by omega
 simp -implicitDefEqProofs (disch:=omega)[qb,o9,qt,p9]
 have k10:∀ j,j<H2.length→j≠1→qr (H9.set L3 (HObj.cells [I n1,I n2,I n3,Pts ps])) j=qr H2 j:=fun j h1 h2=>(qh (by omega)).trans ((q2 j (by omega) h2).trans (k8 j h1 h2))
 have f10:qr (H9.set L3 (HObj.cells [I n1,I n2,I n3,Pts ps])) 1=some (.cells (ZA g s4)):=(qh (by omega)).trans q1
 have o10:qr (H9.set L3 (HObj.cells [I n1,I n2,I n3,Pts ps])) L3=some (.cells [I n1,I n2,I n3,Pts ps]):=qi p9
 have l10:(H9.set L3 (HObj.cells [I n1,I n2,I n3,Pts ps])).length=H9.length:=by rw [List.length_set]
 generalize H9.set L3 (HObj.cells [I n1,I n2,I n3,Pts ps])=H10 at *
 have z10:=(k10 0 l0 (by decide)).trans d1
 have y10:=(k10 2 l2 (by decide)).trans d3
 have AX:=d4.mono (H:=H10) fun j hj=>k10 j (d4.lt hj) (by have:=rx j hj;omega)
 have AY:=d5.mono (H:=H10) fun j hj=>k10 j (d5.lt hj) (by have:=(d7 j hj).1;omega)
 simp -implicitDefEqProofs (disch:=omega)[qb,o10,y10,qf]
 refine zq (ys:=[.agg (shC ⟨n1,n2,n3,ps⟩)]) (ids:=[]) rfl rfl ?_
 simp -implicitDefEqProofs (disch:=omega)[qb,zP,shC]
 refine Q5 (ys:=shC ⟨n1,n2,n3,ps⟩) AY (by omega) (by decide) rfl rfl fun vs w1 w2 w3=>?_
 have y11:=(w1 2 (by omega) (fun h=>by have:=(d7 2 h).1;omega)).trans y10
 have z11:=(w1 0 (by omega) (fun h=>by have:=(d7 0 h).1;omega)).trans z10
 have f11:=(w1 1 (by omega) (fun h=>by have:=(d7 1 h).1;omega)).trans f10
 have AX11:=AX.mono (H:=qH H10 vs) fun j hj=>w1 j (AX.lt hj) (fun h=>(d7 j h).2 hj)
 have p11:2<(qH H10 vs).length:=by omega
 simp -implicitDefEqProofs (disch:=omega)[qb]
 simp -implicitDefEqProofs (disch:=omega)[qb,y11,qt,p11]
 generalize qH H10 vs=H11 at *
 rw [hK0]
 refine qz (i+1,ss++[⟨n1,n2,n3,ps⟩],.ms H10.length 0 (i+1) 4,s4,H11.set 2 (.cells [x,I B',I L,Pts P,.ms H10.length 0 (i+1) 4])) ⟨by simp only;omega,(qh (by decide)).trans z11,(qh (by decide)).trans f11,qi p11,AX11.mono fun j hj=>qh (by have:=rx j hj;omega),?_,by simp only [List.length_append,List.length_cons,List.length_nil];omega,fun j hj=>?_,by simp only;omega,d9⟩ (by simp only;omega) (by simp only [ix])
 · rw [jr]
   exact AccG.mono w3 fun j hj=>qh (by simp only [rid] at hj;injection hj;omega)
 · simp only [rid] at hj
   injection hj with hj
   subst hj
   exact ⟨by omega,fun h=>by have:=AX.lt h;omega⟩
def JC:AC:=match zU with
 | .seq _ (.seq _ (.seq _ (.seq _ (.seq _ t))))=>t
 | x=>x
set_option maxHeartbeats 8000000 in
theorem qoy {b : List UInt8} {f g : Bool} (hb : b.length ≤ 65536) {rs : List Bk} {x : AV} {n : Nat} {s0 : Rd} {H : List HObj}
 (z:qr H 0=some (.cells z0)) (c1:qr H 1=some (.cells (ZA g s0))) (c2:qr H 2=some (.cells [x,I 0,I 0,.sl true 0 [],.sl true 0 []])) (cx:AccG H x 2 n (fl bkC rs)) (hn:rs.length=n)
 (rx:∀ j,rid x=some j→3≤j) (hs0:s0.1.length≤65536) (hrs:(∀ x∈rs,BkI x)∧rs.length≤100000)
 (D : Dy × Bool) (hD : D = (
  let B:=qR s0
  let L:=qR B.2
  let P:=Zq L.2
  let M:=QC P.2
  let S:=itC qa9 M.1.toNat M.2
  (⟨rs,B.1,L.1,P.1,S.1⟩,S.2.2))) :
 AWP Tryz.prog (E1 Tryz.prog) JC ⟨[(0,zQ f b),(2,.ref 0 0),(4,.ref 1 0),(5,.ref 2 0)],H⟩ (qh5 [(2,some (true,5)),(3,none)] (qi7 (.tup [DyV (qig b D.1 D.2),I (qfw b D.1 D.2)]))):=by
 have l0:=qj z
 have l1:=qj c1
 have l2:=qj c2
 simp -implicitDefEqProofs (disch:=omega)[JC,zU,qb]
 refine QF c1 (by omega) fun H3 e1 e2 e3=>?_
 have R1:=zw s0
 have i1:=qen s0
 generalize qR s0=N1 at *
 obtain ⟨n1,s1⟩:=N1
 simp only at e1 R1 i1 hD
 have o3:=(e2 2 (by decide)).trans c2
 simp -implicitDefEqProofs (disch:=omega)[qb]
 refine QF e1 (by omega) fun H5 g1 g2 g3=>?_
 have R2:=zw s1
 have i2:=qen s1
 generalize qR s1=N2 at *
 obtain ⟨n2,s2⟩:=N2
 simp only at g1 R2 i2 hD
 have o5:=(g2 2 (by decide)).trans o3
 have p5:2<H5.length:=by omega
 have o5b:qr (H5.set 2 (HObj.cells [x,I n1,I 0,.sl true 0 [],.sl true 0 []])) 2=some (.cells [x,I n1,I 0,.sl true 0 [],.sl true 0 []]):=qi p5
 have p5b:2<(H5.set 2 (HObj.cells [x,I n1,I 0,.sl true 0 [],.sl true 0 []])).length:=by rw [List.length_set];exact p5
 simp -implicitDefEqProofs (disch:=omega)[qb,o5,qt,p5,o5b,p5b]
 have k6:∀ j,j<H.length→j≠1→j≠2→qr (H5.set 2 (HObj.cells [x,I n1,I n2,.sl true 0 [],.sl true 0 []])) j=qr H j:=fun j h1 h2 h3=>(qh (Ne.symm h3)).trans ((g2 j h2).trans (e2 j h2))
 have f6:qr (H5.set 2 (HObj.cells [x,I n1,I n2,.sl true 0 [],.sl true 0 []])) 1=some (.cells (ZA g s2)):=(qh (by decide)).trans g1
 have o6:qr (H5.set 2 (HObj.cells [x,I n1,I n2,.sl true 0 [],.sl true 0 []])) 2=some (.cells [x,I n1,I n2,.sl true 0 [],.sl true 0 []]):=qi p5
 have l6:(H5.set 2 (HObj.cells [x,I n1,I n2,.sl true 0 [],.sl true 0 []])).length=H.length:=by rw [List.length_set];omega
 generalize H5.set 2 (HObj.cells [x,I n1,I n2,.sl true 0 [],.sl true 0 []])=H6 at *
 refine V3 f6 (by omega) fun H7 q1 q2 q3=>?_
 have R3:=J5 s2
 have iP:=qcq s2 (by omega)
 generalize Zq s2=N3 at *
 obtain ⟨ps,s3⟩:=N3
 simp only at q1 R3 iP hD
 have o7:=(q2 2 (by omega) (by decide)).trans o6
 have p7:2<H7.length:=by omega
 simp -implicitDefEqProofs (disch:=omega)[qb,o7,qt,p7]
 have k8:∀ j,j<H.length→j≠1→j≠2→qr (H7.set 2 (HObj.cells [x,I n1,I n2,Pts ps,.sl true 0 []])) j=qr H j:=fun j h1 h2 h3=>(qh (Ne.symm h3)).trans ((q2 j (by omega) h2).trans (k6 j h1 h2 h3))
 have f8:qr (H7.set 2 (HObj.cells [x,I n1,I n2,Pts ps,.sl true 0 []])) 1=some (.cells (ZA g s3)):=(qh (by decide)).trans q1
 have o8:qr (H7.set 2 (HObj.cells [x,I n1,I n2,Pts ps,.sl true 0 []])) 2=some (.cells [x,I n1,I n2,Pts ps,.sl true 0 []]):=qi p7
 have l8:(H7.set 2 (HObj.cells [x,I n1,I n2,Pts ps,.sl true 0 []])).length=H7.length:=by rw [List.length_set]
 generalize H7.set 2 (HObj.cells [x,I n1,I n2,Pts ps,.sl true 0 []])=H8 at *
 refine Vy f8 (by omega) fun H9 m1 m2 m3=>?_
 have R4:=Z6 s3
 generalize QC s3=N4 at *
 obtain ⟨n4,s4⟩:=N4
 simp only at m1 R4 hD
 obtain ⟨k,rfl⟩:∃ k:Nat,n4=k:=⟨n4.toNat,by omega⟩
 rw [Int.toNat_natCast] at hD
 have o9:=(m2 2 (by decide)).trans o8
 have z9:=(m2 0 (by decide)).trans ((k8 0 l0 (by decide) (by decide)).trans z)
 have AX:=cx.mono (H:=H9) fun j hj=>(m2 j (by have:=rx j hj;omega)).trans (k8 j (cx.lt hj) (by have:=rx j hj;omega) (by have:=rx j hj;omega))
 have t:=qoz (f:=f) hb (k:=k) z9 m1 o9 AX hn rx (by omega) hrs i1 i2 iP (by omega)
 simp -implicitDefEqProofs (disch:=omega)[qb,JD,zU] at t
 subst hD
 simp -implicitDefEqProofs (disch:=omega)[qb]
 exact t
def JB:AC:=match zU with
 | .seq _ (.seq _ (.seq _ (.seq _ t)))=>t
 | x=>x
set_option maxHeartbeats 8000000 in
theorem qox {b : List UInt8} {f : Bool} (hb : b.length ≤ 65536) :
 AWP Tryz.prog (E1 Tryz.prog) JB ⟨[(0,zQ f b),(2,.ref 0 0),(4,.ref 1 0),(5,.ref 2 0)],[.cells z0,.cells (ZA f (b,false)),.cells z0]⟩ (qh5 [(2,some (true,5)),(3,none)] (qi7 (.tup [DyV (qig b (qhb b).1 (qhb b).2),I (qfw b (qhb b).1 (qhb b).2)]))):=by
 have hD:qhb b=qhb b:=rfl
 conv at hD=>rhs;unfold qhb
 dsimp only at hD
 simp -implicitDefEqProofs (disch:=omega)[JB,zU,qb]
 refine Vy (g:=f) (s:=(b,false)) rfl (by simp only;omega) fun H1 k1 k2 k3=>?_
 have R:=Z6 (b,false)
 generalize QC (b,false)=N at *
 obtain ⟨n,s0⟩:=N
 simp only at k1 R hD
 obtain ⟨m,rfl⟩:∃ m:Nat,n=m:=⟨n.toNat,by omega⟩
 rw [Int.toNat_natCast] at hD
 have z1:qr H1 0=some (.cells z0):=(k2 0 (by decide)).trans rfl
 have y1:qr H1 2=some (.cells z0):=(k2 2 (by decide)).trans rfl
 generalize hDD:qhb b=D at *
 simp -implicitDefEqProofs (disch:=omega)[qb]
 have hBI:=qc1 qqR qtT m s0 (by omega)
 have hBL:=qc0 cBk m s0
 refine qO (fun q : Nat × List Bk × AV × Rd × List HObj => ⟨[(0,zQ f b),(2,.ref 0 0),(4,.ref 1 0),(5,.ref 2 0),(39,I (m : Int)),(40,I (q.1 : Int))],q.2.2.2.2⟩)
  (fun q=>q.1≤m∧qr q.2.2.2.2 0=some (.cells z0)∧qr q.2.2.2.2 1=some (.cells (ZA f q.2.2.2.1))∧qr q.2.2.2.2 2=some (.cells [q.2.2.1,I 0,I 0,.sl true 0 [],.sl true 0 []])∧AccG q.2.2.2.2 q.2.2.1 2 q.1 (fl bkC q.2.1)∧q.2.1.length=q.1∧(∀ j,rid q.2.2.1=some j→3≤j)∧q.2.2.2.1.1.length≤65536∧itC cBk m s0=(q.2.1++(itC cBk (m - q.1) q.2.2.2.1).1,(itC cBk (m - q.1) q.2.2.2.1).2))
  (fun q=>m - q.1) (0,[],.sl true 0 [],s0,H1) ⟨Nat.zero_le _,z1,k1,y1,.nil,rfl,by simp [rid],by simp only;omega,rfl⟩ rfl ?_
 rintro ⟨i,rs,x,st,H2⟩ ⟨d0,d1,d2,d3,d5,d6,d7,d8,d9⟩
 simp only at d0 d1 d2 d3 d5 d6 d7 d8 d9 ⊢
 have l0:=qj d1
 have l1:=qj d2
 have l2:=qj d3
 refine qW fun K0 hK0=>?_
 simp -implicitDefEqProofs (disch:=omega)[qb]
 refine qP (fun hc=>?_) (fun hc=>?_)
 case refine_2 =>
  have hi:i=m:=by simp at hc;omega
  have e0:m - i=0:=by omega
  rw [e0] at d9
  rw [d9] at hBI hD
  simp only [itC,List.append_nil] at hBI hD
  have t:=qoy (f:=f) hb (rs:=rs) d1 d2 d3 d5 d6 d7 d8 ⟨hBI,by omega⟩ D hD
  simp -implicitDefEqProofs (disch:=omega)[qb,JC,zU] at t
  subst hK0
  simp -implicitDefEqProofs (disch:=omega)[qb]
  exact t
 have hi:i<m:=by simpa using hc
 have ix:((i:Int)+1)=((i+1:Nat):Int):=by omega
 rw [show m - i=(m - (i+1))+1 by omega] at d9
 have d9:itC cBk m s0=(rs++(cBk st).1::(itC cBk (m - (i+1)) (cBk st).2).1,(itC cBk (m - (i+1)) (cBk st).2).2):=d9
 rw [List.append_cons] at d9
 simp -implicitDefEqProofs (disch:=omega)[qb]
 have hS:cBk st=(((V6 st).1,(Zq (V6 st).2).1),(Zq (V6 st).2).2):=rfl
 rw [hS] at d9
 clear hS
 refine qjm d2 (by omega) fun H3 e1 e2 e3=>?_
 have R1:=qcp st
 generalize V6 st=N1 at *
 obtain ⟨nm,s1⟩:=N1
 simp only at e1 R1 d9
 have k4:∀ j,j<H2.length→j≠1→qr (H3++[HObj.cells [S nm,.sl true 0 []]]) j=qr H2 j:=fun j h1 h2=>(qk (by omega)).trans (e2 j h2)
 have f4:qr (H3++[HObj.cells [S nm,.sl true 0 []]]) 1=some (.cells (ZA f s1)):=(qk (by omega)).trans e1
 have o4:qr (H3++[HObj.cells [S nm,.sl true 0 []]]) H3.length=some (.cells [S nm,.sl true 0 []]):=Qn
 have l4:(H3++[HObj.cells [S nm,.sl true 0 []]]).length=H3.length+1:=by simp
 simp -implicitDefEqProofs (disch:=omega)[qb]
 generalize H3++[HObj.cells [S nm,.sl true 0 []]]=H4 at *
 generalize H3.length=L3 at *
 refine V3 f4 (by omega) fun H9 q1 q2 q3=>?_
 have R4:=J5 s1
 generalize Zq s1=N4 at *
 obtain ⟨ps,s4⟩:=N4
 simp only at q1 R4 d9
 have o9:=(q2 L3 (by omega) (by omega)).trans o4
 have p9:L3<H9.length:=by omega
 simp -implicitDefEqProofs (disch:=omega)[qb,o9,qt,p9]
 have k10:∀ j,j<H2.length→j≠1→qr (H9.set L3 (HObj.cells [S nm,Pts ps])) j=qr H2 j:=fun j h1 h2=>(qh (by omega)).trans ((q2 j (by omega) h2).trans (k4 j h1 h2))
 have f10:qr (H9.set L3 (HObj.cells [S nm,Pts ps])) 1=some (.cells (ZA f s4)):=(qh (by omega)).trans q1
 have o10:qr (H9.set L3 (HObj.cells [S nm,Pts ps])) L3=some (.cells [S nm,Pts ps]):=qi p9
 have l10:(H9.set L3 (HObj.cells [S nm,Pts ps])).length=H9.length:=by rw [List.length_set]
 generalize H9.set L3 (HObj.cells [S nm,Pts ps])=H10 at *
 have z10:=(k10 0 l0 (by decide)).trans d1
 have y10:=(k10 2 l2 (by decide)).trans d3
 have AY:=d5.mono (H:=H10) fun j hj=>k10 j (d5.lt hj) (by have:=d7 j hj;omega)
 simp -implicitDefEqProofs (disch:=omega)[qb,o10,y10,qf]
 refine zq (ys:=[.agg (bkC (nm,ps))]) (ids:=[]) rfl rfl ?_
 simp -implicitDefEqProofs (disch:=omega)[qb,zP,bkC]
 refine Q5 (ys:=bkC (nm,ps)) AY (by omega) (by decide) rfl rfl fun vs w1 w2 w3=>?_
 have y11:=(w1 2 (by omega) (fun h=>by have:=d7 2 h;omega)).trans y10
 have z11:=(w1 0 (by omega) (fun h=>by have:=d7 0 h;omega)).trans z10
 have f11:=(w1 1 (by omega) (fun h=>by have:=d7 1 h;omega)).trans f10
 have p11:2<(qH H10 vs).length:=by omega
 simp -implicitDefEqProofs (disch:=omega)[qb]
 simp -implicitDefEqProofs (disch:=omega)[qb,y11,qt,p11]
 generalize qH H10 vs=H11 at *
 rw [hK0]
 refine qz (i+1,rs++[(nm,ps)],.ms H10.length 0 (i+1) 2,s4,H11.set 2 (.cells [.ms H10.length 0 (i+1) 2,I 0,I 0,.sl true 0 [],.sl true 0 []])) ⟨by simp only;omega,(qh (by decide)).trans z11,(qh (by decide)).trans f11,qi p11,?_,by simp only [List.length_append,List.length_cons,List.length_nil];omega,fun j hj=>?_,by simp only;omega,d9⟩ (by simp only;omega) (by simp only [ix])
 · rw [jr]
   exact AccG.mono w3 fun j hj=>qh (by simp only [rid] at hj;injection hj;omega)
 · simp only [rid] at hj
   injection hj with hj
   subst hj
   omega
set_option maxHeartbeats 4000000 in
theorem qge (f:Bool) (b:List UInt8) (hb:b.length≤1000000):qC Tryz.prog 48 [zQ f b] (.tup [DyV (qoi b),I (qie b)]):=by
 refine zO (zj Tryz.func48 qcF qdm (by show 1≤_;decide) ?_)
 simp -implicitDefEqProofs (disch:=omega)[zU,qb]
 have z7 : ∀ e : Int,qie b = e → e ≠ 0 → qh5 [(2,some (true,5)),(3,none)] (qi7 (.tup [DyV (qoi b),I (qie b)])) .ret ⟨[(2,.ref 0 0),(3,I e)],[.cells z0]⟩ := fun e h1 h2 => by
  have hV:qoi b=dy0:=by unfold qoi;rw [if_neg (by rw [h1];exact h2)]
  rw [h1,hV]
  refine qK (id:=0) (off:=0) rfl rfl (by simp) ?_
  exact qG (r' := .tup [.agg z0,I e]) (is:=[]) rfl (.tupL (.cons (.aggL qlf) (.cons (.refl _) .nil)))
 by_cases h1:b.length≤65536
 case neg =>
  have h1':(65536<(b.length:Int))=True:=by simp only [eq_iff_iff,iff_true];omega
  have hE:qie b=7:=by unfold qie;rw [if_pos (by omega)]
  simp -implicitDefEqProofs (disch:=omega)[qb,h1']
  exact z7 7 hE (by decide)
 have h1':(65536<(b.length:Int))=False:=by simp only [eq_iff_iff,iff_false];omega
 simp -implicitDefEqProofs (disch:=omega)[qb,h1']
 by_cases h0:0<b.length
 case neg =>
  have h0':((b.length:Int)==0)=true:=by rw [beq_iff_eq];omega
  have hE:qie b=14:=by unfold qie;rw [if_neg (by omega),if_pos (.inl (List.eq_nil_of_length_eq_zero (by omega)))]
  simp -implicitDefEqProofs (disch:=omega)[qb,h0',zW,zJ,zE]
  exact z7 14 hE (by decide)
 have h0':((b.length:Int)==0)=false:=by rw [beq_eq_false_iff_ne];omega
 have hlast:=qmz h0
 have hx:((b.length:Int) - 1)=((b.length - 1:Nat):Int):=by omega
 have eD:(qw b).take (b.length - 1)=qw b.dropLast:=by rw [qfG,List.dropLast_eq_take]
 have hS:=qcY f b.dropLast (by rw [List.length_dropLast];omega)
 simp -implicitDefEqProofs (disch:=omega)[qb,h0',zW,zJ,zE,hx]
 refine ⟨qZ b,?_⟩
 have eB:AV.sl (f&&decide (b.length - 1=b.length)) (b.length - 1) (List.take (b.length - 1) (qw b))=zQ (f&&decide (b.length - 1=b.length)) b.dropLast:=by
  show _=AV.sl _ b.dropLast.length _
  rw [eD,List.length_dropLast]
 rw [eB]
 have hS:=qcY (f&&decide (b.length - 1=b.length)) b.dropLast (by rw [List.length_dropLast];omega)
 refine qQ (ys:=[zQ (f&&decide (b.length - 1=b.length)) b.dropLast]) (ids:=[]) rfl hS ?_
 have hl1:b.length - 1<b.length:=by omega
 have hx2:¬ (b.length:Int)≤(b.length:Int) - 1:=by omega
 have nb:=qvw hl1
 simp -implicitDefEqProofs (disch:=omega)[qb,AV.scalar,zW,zJ,zE,hx,nb,qZ]
 refine ⟨hl1,?_⟩
 have hne:b≠[]:=fun e=>by rw [e] at h0;exact absurd h0 (by decide)
 by_cases hs:(qgF b.dropLast:Int)=(b[b.length - 1].toNat:Int)
 case neg =>
  have hs':((qgF b.dropLast:Int) != (b[b.length - 1].toNat:Int))=true:=by rw [bne_iff_ne];exact hs
  have hE:qie b=14:=by unfold qie;rw [if_neg (by omega),if_pos (.inr (by rw [hlast];exact hs))]
  simp -implicitDefEqProofs (disch:=omega)[qb,hs']
  exact z7 14 hE (by decide)
 have hs':((qgF b.dropLast:Int) != (b[b.length - 1].toNat:Int))=false:=by rw [hs];simp
 have hE:qie b=qfw b (qfP b).1 (qfP b).2:=by
  unfold qie
  rw [if_neg (by omega),if_neg]
  rintro (h | h)
  · exact hne h
  · rw [hlast] at h;exact h hs
 have hV:qoi b=qig b (qfP b).1 (qfP b).2:=by unfold qoi qig;rw [hE]
 have t:=qox (f:=f) (b:=b) h1
 have hsame:qig b (qhb b).1 (qhb b).2=qig b (qfP b).1 (qfP b).2∧qfw b (qhb b).1 (qhb b).2=qfw b (qfP b).1 (qfP b).2:=by
  have h:=qlT b
  rw [h.1]
  cases hb2:(qfP b).2 with
  | true=>exact ⟨rfl,rfl⟩
  | false=>rw [h.2 hb2];exact ⟨rfl,rfl⟩
 rw [hsame.1,hsame.2,←hE,←hV] at t
 clear z7
 simp -implicitDefEqProofs (disch:=omega)[qb,JB,zU] at t
 simp -implicitDefEqProofs (disch:=omega)[qb,hs']
 exact t
end Go.AM

namespace Go.AM
open Go.RowKit
structure Wa where
 to:Nat→Nat
 fd:Nat→Int
def idW:Wa:=⟨fun s=>s,fun _=>0⟩
def jV (x y:Wa):Wa:=⟨fun s=>y.to (x.to s),fun s=>x.fd s+y.fd (x.to s)⟩
def qaI (x : Wa) : Nat → Wa
 | 0=>idW
 | k+1=>jV (qaI x k) x
theorem qp9 (x:Wa):jV idW x=x:=by
 cases x;simp [jV,idW]
theorem qoD (x:Wa):jV x idW=x:=by
 cases x;simp [jV,idW]
theorem qi1 (x y z:Wa):jV (jV x y) z=jV x (jV y z):=by
 simp only [jV,Wa.mk.injEq,true_and]
 funext s
 omega
theorem pow_add (x : Wa) (m : Nat) : ∀ n,qaI x (m + n) = jV (qaI x m) (qaI x n)
 | 0=>(qoD _).symm
 | n+1=>by
   show jV (qaI x (m+n)) x=_
   rw [pow_add x m n,qi1];rfl
theorem qky (x:Wa):qaI x 1=x:=qp9 x
structure WaOK (x:Wa) (n:Int):Prop where
 to:∀ s,s<9→x.to s<9
 fd:∀ s,s<9→0≤x.fd s∧x.fd s≤n
theorem qnC:WaOK idW 0:=⟨fun s h=>h,fun s _=>⟨Int.le_refl _,Int.le_refl _⟩⟩
theorem qgH {x y:Wa} {m n:Int} (h:WaOK x m) (k:WaOK y n):WaOK (jV x y) (m+n):=by
 refine ⟨fun s hs=>k.to _ (h.to s hs),fun s hs=>?_⟩
 have h1:=h.fd s hs
 have h2:=k.fd _ (h.to s hs)
 simp only [jV];omega
theorem qhK {x : Wa} {n : Int} (h : WaOK x n) : ∀ k : Nat,WaOK (qaI x k) (n * k)
 | 0=>by rw [show n*((0:Nat):Int)=0 by simp];exact qnC
 | k+1=>by
   have:=qgH (qhK h k) h
   rw [show n*((k+1:Nat):Int)=n*k+n by rw [show ((k+1:Nat):Int)=(k:Int)+1 by omega,Int.mul_add,Int.mul_one]]
   exact this
theorem WaOK.mono {x:Wa} {m n:Int} (h:WaOK x m) (hm:m≤n):WaOK x n:=⟨h.to,fun s hs=>by have:=h.fd s hs;omega⟩
theorem WaOK.nn {x:Wa} {n:Int} (h:WaOK x n):0≤n:=Int.le_trans (h.fd 0 (by decide)).1 (h.fd 0 (by decide)).2
def sgW (w:List UInt8) (act:Int):Wa:=⟨fun s=>if s≤w.length then qbb w s act else 0,fun s=>if s≤w.length∧qbb w s act=w.length then 1 else 0⟩
theorem qsk {w:List UInt8} (hw:w.length≤8) (act:Int):WaOK (sgW w act) 1:=by
 refine ⟨fun s hs=>?_,fun s hs=>?_⟩
 · have := qcA w s act
   unfold sgW;simp only;split <;> omega
 · unfold sgW;simp only;split <;> omega
def qjd (w:List UInt8) (all:List Wa) (p:Pt):Wa:=if 0≤p.2.1 then all.getD p.2.1.toNat idW else sgW w p.1
def jn (w:List UInt8) (all:List Wa) (l:List Pt):Wa:=l.foldl (fun x p=>jV x (qaI (qjd w all p) p.2.2.toNat)) idW
theorem qa0 {w:List UInt8} {all:List Wa} {l:List Pt} {i:Nat} (h:i<l.length):jn w all (l.take (i+1))=jV (jn w all (l.take i)) (qaI (qjd w all l[i]) l[i].2.2.toNat):=zI h
def WT (w:List UInt8) (l:List Bk):List Wa:=l.foldl (fun out b=>out++[jn w out b.2]) []
theorem XI {w:List UInt8} {l:List Bk} {i:Nat} (h:i<l.length):WT w (l.take (i+1))=WT w (l.take i)++[jn w (WT w (l.take i)) l[i].2]:=zI h
theorem Xl {w:List UInt8}:∀ (l:List Bk),(WT w l).length=l.length:=by
 have key : ∀ (l : List Bk) (out : List Wa),(l.foldl (fun out b => out ++ [jn w out b.2]) out).length = out.length + l.length := by
  intro l
  induction l with
  | nil=>intro out;rfl
  | cons b l ih=>intro out;rw [List.foldl_cons,ih];simp;omega
 intro l
 unfold WT;rw [key];simp
def qll (all:List Wa) (long:List Int):Prop:=all.length=long.length∧∀ i,i<long.length→WaOK (all.getD i idW) (long.getD i 0)
theorem qkp {w:List UInt8} (hw:w.length≤8) {all:List Wa} {long:List Int} (h:qll all long) {p:Pt} (hp:qI long.length p=true):WaOK (qjd w all p) (ja long p):=by
 unfold qjd ja
 by_cases e:0≤p.2.1
 · rw [if_pos e,if_pos e]
   refine h.2 _ ?_
   rcases zk hp with ⟨h,_⟩ | ⟨_,_,h⟩ <;> omega
 · rw [if_neg e,if_neg e];exact qsk hw _
theorem qh0 {w:List UInt8} (hw:w.length≤8) {all:List Wa} {long:List Int} (h:qll all long) (hm:∀ x∈long,x≤QM) {l:List Pt} (hl:∀ p∈l,qI long.length p=true):∀ i,i≤l.length→∃ n,WaOK (jn w all (l.take i)) n∧min JS n≤QZ long (l.take i)∧n≤(i:Int)*1099511627776000:=by
 have hfar:JS=1125899906842624:=rfl
 have hmx:QM=1099511627776:=rfl
 intro i
 induction i with
 | zero=>intro _;exact ⟨0,qnC,by show min JS 0≤0;omega,by omega⟩
 | succ i ih =>
   intro hi
   obtain ⟨n,a,b,c⟩:=ih (by omega)
   have hlt:i<l.length:=by omega
   have hpi:=hl _ (List.getElem_mem hlt)
   have o:=qkp hw h hpi
   have tm:=Qd hpi
   have e:((l[i].2.2.toNat:Nat):Int)=l[i].2.2:=by omega
   have pw:=qhK o l[i].2.2.toNat
   rw [e] at pw
   have om:ja long l[i]≤QM:=by
    unfold ja
    split
    · rename_i e
      have hi:l[i].2.1.toNat<long.length:=by
       rcases zk hpi with ⟨h,_⟩ | ⟨_,_,h⟩ <;> omega
      rw [List.getD_eq_getElem?_getD,List.getElem?_eq_getElem hi]
      exact hm _ (List.getElem_mem hi)
    · decide
   have o0:0≤ja long l[i]*l[i].2.2:=pw.nn
   have o1:ja long l[i]*l[i].2.2≤1099511627776000:=Int.le_trans (Int.mul_le_mul om tm.2 (by omega) (by decide)) (by decide)
   rw [qa0 hlt,show QZ long (l.take (i+1))=jU long (QZ long (l.take i)) l[i] from zI hlt]
   refine ⟨n+ja long l[i]*l[i].2.2,qgH a pw,?_,?_⟩
   · unfold jU;omega
   · omega
theorem qn4 {w:List UInt8} (hw:w.length≤8) {l:List Bk} (hR:RecV l) (hm:∀ x∈qu l,x≤QM):∀ i,i≤l.length→qll (WT w (l.take i)) (qu (l.take i)):=by
 have hfar:JS=1125899906842624:=rfl
 have hmx:QM=1099511627776:=rfl
 intro i
 induction i with
 | zero=>intro _;exact ⟨rfl,fun i h=>by simp [qu] at h⟩
 | succ i ih =>
   intro hi
   have ih:=ih (by omega)
   have hlt:i<l.length:=by omega
   have hll:(qu (l.take i)).length=i:=by rw [zy,List.length_take];omega
   have hwl:(WT w (l.take i)).length=i:=by rw [Xl,List.length_take];omega
   have hpv:∀ p∈l[i].2,qI (qu (l.take i)).length p=true:=by rw [hll];exact hR.1 i hlt
   have hpre : ∀ x ∈ qu (l.take i),x ≤ QM := fun x hx => by
    obtain ⟨r,hr⟩:=jz (l:=l) i
    exact hm _ (by rw [hr];simp [hx])
   have htm:QZ (qu (l.take i)) l[i].2≤QM:=by
    obtain ⟨r,hr⟩:=jz (l:=l) (i+1)
    rw [QL hlt] at hr
    exact hm _ (by rw [hr];simp)
   obtain ⟨n,k1,k2,_⟩:=qh0 hw ih hpre hpv l[i].2.length (Nat.le_refl _)
   rw [List.take_length] at k1 k2
   rw [XI hlt,QL hlt]
   refine ⟨by simp [hll,hwl],fun j hj=>?_⟩
   rw [VF,hll,List.getD_eq_getElem?_getD]
   by_cases h:j<i
   · rw [if_pos h,List.getElem?_append_left (by omega),← List.getD_eq_getElem?_getD]
     exact ih.2 j (by omega)
   · have e : j = i := by simp [hll] at hj; omega
     subst e
     rw [if_neg h,List.getElem?_append_right (by omega),hwl,Nat.sub_self]
     exact k1.mono (by simp only [List.getD_cons_zero];omega)
theorem qhC {w : List UInt8} {to found : List (List Int)} {p : Pt} {x : Wa} (hx : ∀ s,s ≤ w.length → x.to s ≤ w.length ∧ ∀ n,qqA w to found p (s,n) = (x.to s,n + x.fd s)) : ∀ (k s : Nat) (n : Int),s ≤ w.length → (qaI x k).to s ≤ w.length ∧ qiD w to found p k (s,n) = ((qaI x k).to s,n + (qaI x k).fd s)
 | 0,s,n,hs=>⟨hs,by simp [qiD,qaI,idW]⟩
 | k+1,s,n,hs=>by
   obtain ⟨h1,h2⟩:=qhC hx k s n hs
   obtain ⟨h3,h4⟩:=hx _ h1
   refine ⟨h3,?_⟩
   show qqA w to found p (qiD w to found p k (s,n))=_
   rw [h2,h4]
   simp only [qaI,jV,Prod.mk.injEq,true_and];omega
structure AllLike (w:List UInt8) (all:List Wa) (to found:List (List Int)):Prop where
 tl:to.length=all.length
 fl:found.length=all.length
 tv:∀ i s,i<all.length→s≤w.length→atT to (i:Int) s=((all.getD i idW).to s:Int)∧(all.getD i idW).to s≤w.length
 fv:∀ i s,i<all.length→s≤w.length→atT found (i:Int) s=(all.getD i idW).fd s
theorem qph {w:List UInt8} {all:List Wa} {to found:List (List Int)} (h:AllLike w all to found) {p:Pt} (hp:qI all.length p=true):∀ s,s≤w.length→(qjd w all p).to s≤w.length∧∀ n,qqA w to found p (s,n)=((qjd w all p).to s,n+(qjd w all p).fd s):=by
 intro s hs
 unfold qjd
 by_cases e:0≤p.2.1
 · rw [if_pos e]
   have hi:p.2.1.toNat<all.length:=by
    rcases zk hp with ⟨h,_⟩ | ⟨_,_,h⟩ <;> omega
   have e2:((p.2.1.toNat:Nat):Int)=p.2.1:=by omega
   have a:=h.tv _ s hi hs
   have b:=h.fv _ s hi hs
   rw [e2] at a b
   refine ⟨a.2,fun n=>?_⟩
   unfold qqA
   rw [if_pos e]
   simp only [a.1,b,Int.toNat_natCast]
 · rw [if_neg e]
   have:=qcA w s p.1
   refine ⟨by unfold sgW;simp only;rw [if_pos hs];exact this,fun n=>?_⟩
   unfold qqA sgW
   rw [if_neg e]
   simp only [if_pos hs,hs,true_and,if_true]
   by_cases e3:qbb w s p.1=w.length
   · rw [if_pos e3,if_pos e3]
   · rw [if_neg e3,if_neg e3];simp
theorem qhX {w:List UInt8} {all:List Wa} {to found:List (List Int)} (h:AllLike w all to found) {l:List Pt} (hl:∀ p∈l,qI all.length p=true) {s:Nat} (hs:s≤w.length):∀ i,i≤l.length→(jn w all (l.take i)).to s≤w.length∧qqC w to found (l.take i) s=((jn w all (l.take i)).to s,(jn w all (l.take i)).fd s):=by
 intro i
 induction i with
 | zero=>intro _;exact ⟨hs,rfl⟩
 | succ i ih =>
   intro hi
   obtain ⟨h1,h2⟩:=ih (by omega)
   have hlt:i<l.length:=by omega
   obtain ⟨h3,h4⟩:=qhC (qph h (hl _ (List.getElem_mem hlt))) l[i].2.2.toNat ((jn w all (l.take i)).to s) ((jn w all (l.take i)).fd s) h1
   rw [qne hlt,qa0 hlt,h2]
   exact ⟨h3,h4⟩
theorem qlx {w:List UInt8} (hw:w.length≤8) {l:List Bk} (hR:RecV l):∀ i,i≤l.length→AllLike w (WT w (l.take i)) (qik w (l.take i)).1 (qik w (l.take i)).2:=by
 intro i
 induction i with
 | zero=>intro _;exact ⟨rfl,rfl,fun i s h=>by simp [WT] at h,fun i s h=>by simp [WT] at h⟩
 | succ i ih =>
   intro hi
   have ih:=ih (by omega)
   have hlt:i<l.length:=by omega
   have hwl:(WT w (l.take i)).length=i:=by rw [Xl,List.length_take];omega
   have hpv:∀ p∈l[i].2,qI (WT w (l.take i)).length p=true:=by rw [hwl];exact hR.1 i hlt
   have k:=fun s (hs:s≤w.length)=>qhX ih hpv hs l[i].2.length (Nat.le_refl _)
   rw [List.take_length] at k
   rw [XI hlt,qil hlt]
   unfold qp1
   have tl:=ih.tl
   have fl:=ih.fl
   refine ⟨by simp [tl],by simp [fl],fun j s hj hs=>?_,fun j s hj hs=>?_⟩
   · rw [qnt,tl,List.getD_eq_getElem?_getD (l := WT w (l.take i) ++ [jn w (WT w (l.take i)) l[i].2])]
     by_cases h:j<(WT w (l.take i)).length
     · rw [if_pos h,List.getElem?_append_left h,← List.getD_eq_getElem?_getD]
       exact ih.tv j s h hs
     · have e : j = (WT w (l.take i)).length := by simp at hj; omega
       rw [if_neg h,if_pos e,List.getElem?_append_right (by omega),e,Nat.sub_self]
       refine ⟨?_,(k s hs).1⟩
       unfold qvx
       rw [qkD (by omega),if_pos hs,(k s hs).2]
       rfl
   · rw [qnt,fl,List.getD_eq_getElem?_getD (l := WT w (l.take i) ++ [jn w (WT w (l.take i)) l[i].2])]
     by_cases h:j<(WT w (l.take i)).length
     · rw [if_pos h,List.getElem?_append_left h,← List.getD_eq_getElem?_getD]
       exact ih.fv j s h hs
     · have e : j = (WT w (l.take i)).length := by simp at hj; omega
       rw [if_neg h,if_pos e,List.getElem?_append_right (by omega),e,Nat.sub_self]
       unfold qvy
       rw [qkD (by omega),if_pos hs,(k s hs).2]
       rfl
abbrev Ta:=Nat→Int
def jC:Ta:=fun _=>0
def Vi (a b:Ta):Ta:=fun k=>a k+b k
def qdh (a:Ta) (t:Nat):Ta:=fun k=>a k*t
theorem qhJ (a:Ta):qdh a 1=a:=by funext k;simp [qdh]
theorem qdi (a:Ta) (m n:Nat):qdh a (m+n)=Vi (qdh a m) (qdh a n):=by
 funext k;simp only [qdh,Vi];rw [Int.natCast_add,Int.mul_add]
def TaOK (x:Ta) (n:Int):Prop:=∀ k,k<26→0≤x k∧x k≤n
theorem TaOK.mono {x:Ta} {m n:Int} (h:TaOK x m) (hm:m≤n):TaOK x n:=fun k hk=>by have:=h k hk;omega
theorem qhI {x y:Ta} {m n:Int} (h:TaOK x m) (k:TaOK y n):TaOK (Vi x y) (m+n):=fun i hi=>by
 have:=h i hi;have:=k i hi;simp only [Vi];omega
theorem qgs {x:Ta} {n:Int} (h:TaOK x n) (t:Nat):TaOK (qdh x t) (n*t):=fun k hk=>by
 have:=h k hk
 exact ⟨Int.mul_nonneg this.1 (by omega),Int.mul_le_mul_of_nonneg_right this.2 (by omega)⟩
def qb1 (all:List Ta) (p:Pt):Ta:=if 0≤p.2.1 then all.getD p.2.1.toNat jC else fun k=>if 97+(k:Int)=p.1 then 1 else 0
def qba (all:List Ta) (l:List Pt):Ta:=l.foldl (fun x p=>Vi x (qdh (qb1 all p) p.2.2.toNat)) jC
theorem XU {all:List Ta} {l:List Pt} {i:Nat} (h:i<l.length):qba all (l.take (i+1))=Vi (qba all (l.take i)) (qdh (qb1 all l[i]) l[i].2.2.toNat):=zI h
def qfE (l:List Bk):List Ta:=l.foldl (fun out b=>out++[qba out b.2]) []
theorem qec {l:List Bk} {i:Nat} (h:i<l.length):qfE (l.take (i+1))=qfE (l.take i)++[qba (qfE (l.take i)) l[i].2]:=zI h
theorem Xk:∀ (l:List Bk),(qfE l).length=l.length:=by
 have key : ∀ (l : List Bk) (out : List Ta),(l.foldl (fun out b => out ++ [qba out b.2]) out).length = out.length + l.length := by
  intro l
  induction l with
  | nil=>intro out;rfl
  | cons b l ih=>intro out;rw [List.foldl_cons,ih];simp;omega
 intro l
 unfold qfE;rw [key];simp
def qns (all:List Ta) (l:List Bk):Prop:=all.length=l.length∧∀ k,k<26→∀ i,i<l.length→(all.getD i jC) k=(qiw (97+(k:Int)) l).getD i 0
theorem qjw {all:List Ta} {rc:List Bk} (h:qns all rc) {l:List Pt} (hl:∀ p∈l,qI rc.length p=true) {k:Nat} (hk:k<26):∀ i,i≤l.length→(qba all (l.take i)) k=qa8 (qiw (97+(k:Int)) rc) (97+(k:Int)) (l.take i):=by
 intro i
 induction i with
 | zero=>intro _;rfl
 | succ i ih =>
   intro hi
   have hlt:i<l.length:=by omega
   have hpi:=hl _ (List.getElem_mem hlt)
   have tm:=Qd hpi
   rw [XU hlt,show qa8 (qiw (97+(k:Int)) rc) (97+(k:Int)) (l.take (i+1))=qfD _ _ _ l[i] from zI hlt]
   unfold qfD Vi qdh
   have e:((l[i].2.2.toNat:Nat):Int)=l[i].2.2:=by omega
   have o:qb1 all l[i] k=qnI (qiw (97+(k:Int)) rc) (97+(k:Int)) l[i]:=by
    unfold qb1 qnI
    by_cases h0:0≤l[i].2.1
    · have hz:l[i].1=0∧l[i].2.1.toNat<rc.length:=by
       rcases zk hpi with ⟨h,_⟩ | ⟨h,_,h2⟩
       · omega
       · exact ⟨h,by omega⟩
      rw [if_pos h0,if_neg (by omega),if_pos h0]
      exact h.2 k hk _ hz.2
    · rw [if_neg h0,if_neg h0]
      by_cases e:97+(k:Int)=l[i].1
      · rw [if_pos e,if_pos e.symm]
      · rw [if_neg e,if_neg (Ne.symm e)]
   show qba all (l.take i) k+qb1 all l[i] k*_=_
   rw [ih (by omega),o,e];rfl
theorem qeb {l:List Bk} (hR:RecV l):∀ i,i≤l.length→qns (qfE (l.take i)) (l.take i):=by
 intro i
 induction i with
 | zero=>intro _;exact ⟨rfl,fun k _ i h=>by simp at h⟩
 | succ i ih =>
   intro hi
   have ih:=ih (by omega)
   have hlt:i<l.length:=by omega
   have hal:(qfE (l.take i)).length=i:=by rw [Xk,List.length_take];omega
   have hlen:(l.take i).length=i:=by rw [List.length_take];omega
   have hpv:∀ p∈l[i].2,qI (l.take i).length p=true:=by rw [hlen];exact hR.1 i hlt
   refine ⟨by rw [Xk],fun k hk j hj=>?_⟩
   rw [qec hlt,qhu hlt,VF,List.getD_eq_getElem?_getD,qj2,hlen]
   by_cases h:j<i
   · rw [if_pos h,List.getElem?_append_left (by omega),← List.getD_eq_getElem?_getD]
     exact ih.2 k hk j (by omega)
   · have e : j = i := by rw [List.length_take] at hj; omega
     subst e
     rw [if_neg h,List.getElem?_append_right (by omega),hal,Nat.sub_self]
     have:=qjw ih hpv hk l[j].2.length (Nat.le_refl _)
     rw [List.take_length] at this
     simpa using this
theorem qn3 {l:List Bk} (hR:RecV l) (hm:∀ x∈qu l,x≤QM):∀ i,i≤l.length→∀ j,j<i→TaOK ((qfE (l.take i)).getD j jC) QM:=by
 intro i hi j hj k hk
 have hl:=(qeb hR i hi).2 k hk j (by rw [List.length_take];omega)
 have ha:VZ (97+(k:Int))=true:=by
  unfold VZ;simp only [Bool.and_eq_true,decide_eq_true_eq];omega
 have ho:=(qrQ ha hR hm i hi).2 j
 rw [hl]
 refine ⟨ho.1,Int.le_trans ho.2 ?_⟩
 have hll:j<(qu (l.take i)).length:=by rw [zy,List.length_take];omega
 rw [List.getD_eq_getElem?_getD,List.getElem?_eq_getElem hll]
 obtain ⟨r,hr⟩:=jz (l:=l) i
 exact hm _ (by rw [hr];simp)
theorem qko {all:List Ta} {n:Nat} (h:∀ j,j<n→TaOK (all.getD j jC) QM) {p:Pt} (hp:qI n p=true):TaOK (qb1 all p) QM:=by
 unfold qb1
 split
 · refine h _ ?_
   rcases zk hp with ⟨h,_⟩ | ⟨_,_,h⟩ <;> omega
 · intro k hk
   have hmx:QM=1099511627776:=rfl
   simp only;split <;> omega
theorem qoc {all:List Ta} {n:Nat} (h:∀ j,j<n→TaOK (all.getD j jC) QM) {l:List Pt} (hl:∀ p∈l,qI n p=true):∀ i,i≤l.length→TaOK (qba all (l.take i)) ((i:Int)*1099511627776000):=by
 have hmx:QM=1099511627776:=rfl
 intro i
 induction i with
 | zero=>intro _ k _;exact ⟨Int.le_refl _,Int.le_refl _⟩
 | succ i ih =>
   intro hi
   have hlt:i<l.length:=by omega
   have hpi:=hl _ (List.getElem_mem hlt)
   have tm:=Qd hpi
   rw [XU hlt]
   have o:=qgs (qko h hpi) l[i].2.2.toNat
   have e:((l[i].2.2.toNat:Nat):Int)=l[i].2.2:=by omega
   rw [e] at o
   have b:QM*l[i].2.2≤1099511627776000:=Int.le_trans (Int.mul_le_mul_of_nonneg_left tm.2 (by decide)) (by decide)
   exact (qhI (ih (by omega)) o).mono (by omega)
end Go.AM

namespace Go.AM
open Go.RowKit Go.Proofs
def taN (n:Nat) (x:Nat→Int):List AV:=(List.range n).map fun k=>I (x k)
theorem qv (n:Nat) (x:Nat→Int):(taN n x).length=n:=by simp [taN]
theorem qgG {n:Nat} {x:Nat→Int} {k:Nat} (h:k<n):YO (taN n x) k=some (I (x k)):=by
 rw [Jl];simp [taN,h]
theorem Zn {n:Nat} {x y:Nat→Int} (h:∀ k,k<n→x k=y k):taN n x=taN n y:=by
 unfold taN
 refine List.map_congr_left fun k hk=>?_
 rw [h k (List.mem_range.1 hk)]
theorem qk4 {n:Nat} {x:Nat→Int} {k:Nat} (h:k<n) (v:Int):splice (taN n x) k [I v]=taN n (fun j=>if j=k then v else x j):=by
 unfold splice
 refine List.ext_getElem (by simp [qv];omega) fun j h1 h2=>?_
 rw [qv] at h2
 simp only [List.length_singleton]
 by_cases hj:j<k
 · rw [List.getElem_append_left (by simp [qv]; omega),List.getElem_append_left (by simp [qv]; omega)]
   have:j≠k:=by omega
   simp [taN,this]
 · by_cases e : j = k
   · subst e
     rw [List.getElem_append_left (by simp [qv];omega),List.getElem_append_right (by simp [qv];omega)]
     simp [taN,qv]
   · rw [List.getElem_append_right (by simp [qv]; omega)]
     simp only [List.length_append,List.length_take,qv,List.length_singleton]
     rw [List.getElem_drop]
     simp only [taN,List.getElem_map,List.getElem_range]
     have:k+1+(j - (min k n+1))=j:=by omega
     rw [this,if_neg e]
theorem JR {n:Nat} {x:Nat→Int} {k:Nat} (h:k<n) (v:Int):(taN n x).take k++AV.v (.int .i64 v)::(taN n x).drop (k+1)=taN n (fun j=>if j=k then v else x j):=by
 rw [←qk4 h v];simp [splice]
theorem Q9 (n:Nat) (x:Nat→Int):zT (taN n x) 0 n=taN n x:=by
 unfold zT
 rw [List.drop_zero]
 conv=>lhs;arg 1;rw [←qv n x]
 rw [List.take_length]
theorem zn (n:Nat) (x:Nat→Int):(taN n x).drop n=[]:=List.drop_eq_nil_of_le (by rw [qv];exact Nat.le_refl _)
theorem qY (n:Nat) (x:Nat→Int):((taN n x).all AV.isCell)=true:=by simp [taN,AV.isCell]
theorem qnQ (n:Nat) (x:Nat→Int):((taN n x).all AV.isPC)=true:=by simp [taN,AV.isPC]
theorem qV (n:Nat) (x:Nat→Int) {K:AV→List (Nat × HObj)→Prop}:Qm (taN n x) 0 n true K=K (.agg (taN n x)) []:=by
 rw [jJ,Q9,qv];simp
theorem qN {cs ys:List AV} (h:cs.length≤ys.length):splice cs 0 ys=ys:=by
 unfold splice;rw [List.take_zero,List.nil_append,List.drop_eq_nil_of_le (by omega),List.append_nil]
theorem qaZ : ∀ (l : List Int),qqe (l.map fun n => I n) = some (l.map fun n => Value.int .i64 n)
 | []=>rfl
 | a::l=>by
   have:=qaZ l
   simp only [List.map_cons,qqe,this];rfl
theorem qav : ∀ (a b : List Int),a.length = b.length → qJ (a.map fun _ => Leaf.int) (a.map fun n => Value.int .i64 n) (b.map fun n => Value.int .i64 n) = some (decide (a = b))
 | [],[],_=>rfl
 | a::l, b::m, h=>by
   have ih:=qav l m (by simpa using h)
   simp only [List.map_cons,qJ,Zs,if_true]
   have e1:(a==b)=decide (a=b):=rfl
   rw [e1]
   by_cases e:a=b
   · rw [decide_eq_true e]; simp only [ih]
     congr 1
     by_cases e2:l=m <;> simp [e,e2]
   · rw [decide_eq_false e];simp [e]
theorem ql0 {neg:Bool} {a b:List Int} (h:a.length=b.length) {K:AV→List (Nat × HObj)→Prop}:qnW neg (true,a.map fun _=>Leaf.int) (.agg (a.map fun n=>I n)) (.agg (b.map fun n=>I n)) K=K (B (neg != decide (a=b))) []:=by
 refine qjG (a := .agg (a.map fun n=>Value.int .i64 n).toArray) (b := .agg (b.map fun n=>Value.int .i64 n).toArray) ?_ ?_ ?_
 · simp [AV.val,qaZ]
 · simp [AV.val,qaZ]
 · simp only [eqK]
   exact qav a b h
def taZ (x:Ta):Bool:=decide ((List.range 26).map x=(List.range 26).map fun _=>(0:Int))
theorem qp7 {x:Ta}:taZ x=true↔∀ k,k<26→x k=0:=by
 unfold taZ
 rw [decide_eq_true_iff]
 constructor
 · intro h k hk
   have:=congrArg (fun l=>l[k]?) h
   simpa [hk] using this
 · intro h;exact List.map_congr_left fun k hk=>h k (List.mem_range.1 hk)
theorem qrB {neg:Bool} {x:Ta} {K:AV→List (Nat × HObj)→Prop}:qnW neg (true,[.int,.int,.int,.int,.int,.int,.int,.int,.int,.int,.int,.int,.int,.int,.int,.int,.int,.int,.int,.int,.int,.int,.int,.int,.int,.int]) (.agg (taN 26 x)) (.agg [I 0,I 0,I 0,I 0,I 0,I 0,I 0,I 0,I 0,I 0,I 0,I 0,I 0,I 0,I 0,I 0,I 0,I 0,I 0,I 0,I 0,I 0,I 0,I 0,I 0,I 0]) K=K (B (neg != taZ x)) [] :=
 ql0 (neg:=neg) (a:=(List.range 26).map x) (b:=(List.range 26).map fun _=>0) (K:=K) (by simp)
def qli (a b:Ta) (i:Nat):Ta:=fun k=>if k<i then a k+b k else a k
set_option maxHeartbeats 2000000 in
theorem YG (a b:Ta) (ha:TaOK a 4000000000000000000) (hb:TaOK b 4000000000000000000):qC Tryz.prog 121 [.agg (taN 26 a), .agg (taN 26 b)] (.agg (taN 26 (Vi a b))):=by
 refine zO (zj Tryz.func121 qeR qfj (by show 2≤_;decide) ?_)
 simp -implicitDefEqProofs (disch:=omega)[qd6,qb,qv,qY,qf,qV]
 rw [qrB]
 cases hz:taZ b with
 | true =>
   have e:taN 26 (Vi a b)=taN 26 a:=Zn fun k hk=>by simp only [Vi];rw [qp7.1 hz k hk];omega
   rw [e]
   simp -implicitDefEqProofs (disch:=omega)[qb,qv,qY,qf,qV,qt,qN]
   exact Q7 (id:=2) (off:=0) rfl rfl (by simp [qv]) (by rw [Q9];exact qG (is:=[]) rfl (.refl _))
 | false =>
   simp -implicitDefEqProofs (disch:=omega)[qb]
   refine qO (fun i:Nat=>⟨[(2,.ref 0 0),(3,.ref 1 0),(4,.ref 2 0),(10,I (i:Int))],[.cells (taN 26 (qli a b i)),.cells (taN 26 b),.cells [I 0,I 0,I 0,I 0,I 0,I 0,I 0,I 0,I 0,I 0,I 0,I 0,I 0,I 0,I 0,I 0,I 0,I 0,I 0,I 0,I 0,I 0,I 0,I 0,I 0,I 0]]⟩) (fun i=>i≤26) (fun i=>26 - i) 0 (Nat.zero_le _) (by rw [show taN 26 (qli a b 0)=taN 26 a from Zn fun k _=>by simp [qli]];rfl) ?_
   intro i c1
   refine qW fun K0 hK0=>?_
   simp -implicitDefEqProofs (disch:=omega)[qb]
   refine qP (fun hc=>?_) (fun hc=>?_)
   · have hi : i < 26 := by simp at hc; omega
     have ix:((i:Int)+1)=((i+1:Nat):Int):=by omega
     have ai:=ha i hi
     have bi:=hb i hi
     have em:qli a b i i=a i:=by simp [qli]
     simp -implicitDefEqProofs (disch:=omega)[qb,hi,qf,J7,qgG,Yv,qt,qv,em,zW,zJ,zE,qk4]
     refine ⟨by omega,by omega,?_⟩
     rw [JR hi,hK0]
     refine qz (i+1) (by omega) (by omega) ?_
     have e : taN 26 (fun j => if j = i then a i + b i else qli a b i j) = taN 26 (qli a b (i + 1)) := Zn fun k hk => by
      simp only [qli]
      by_cases e:k=i
      · subst e;rw [if_pos rfl,if_pos (by omega)]
      · rw [if_neg e]
        by_cases h2:k<i
        · rw [if_pos h2,if_pos (by omega)]
        · rw [if_neg h2,if_neg (by omega)]
     rw [e]
     simp only [ix]
   · have hi : i = 26 := by simp at hc; omega
     subst hi
     subst hK0
     have e:taN 26 (qli a b 26)=taN 26 (Vi a b):=Zn fun k hk=>by simp [qli,Vi,hk]
     rw [e]
     simp -implicitDefEqProofs (disch:=omega)[qb,qv,qY,qf,qV,qt,qN]
     exact Q7 (id:=2) (off:=0) rfl rfl (by simp [qv]) (by rw [Q9];exact qG (is:=[]) rfl (.refl _))
abbrev ql1:AV := .fn (.func 121) [] []
theorem qad:Wu Tryz.prog 121=true:=by kernel_rfl
set_option maxHeartbeats 2000000 in
theorem qan:∀ (n:Nat) (a:Ta) (m:Int),1≤n→0≤m→TaOK a m→m*(n:Int)≤4000000000000000000→n≤1000000→qC Tryz.prog 122 [.agg (taN 26 a),I (n:Int),ql1] (.agg (taN 26 (qdh a n))):=by
 intro n
 induction n using Nat.strongRecOn with
 | ind n ih =>
 intro a m h1 hm ha hb hn
 refine zO (zj Tryz.func122 qcK qdo (by show 3≤_;decide) ?_)
 simp -implicitDefEqProofs (disch:=omega)[qbx,qb,qv,qY,qf,qV]
 by_cases e1:n=1
 · subst e1
   simp -implicitDefEqProofs (disch:=omega)[qb,qv,qY,qf,qV,qt,qN,zn]
   rw [qhJ]
   exact Q7 (id:=1) (off:=0) rfl rfl (by simp [qv]) (by rw [Q9];exact qG (is:=[]) rfl (.refl _))
 have e1':((n:Int)==1)=false:=by rw [beq_eq_false_iff_ne];omega
 have hq:((n:Int) / 2)=((n / 2:Nat):Int):=by omega
 have hr:((n:Int).tmod 2)=((n % 2:Nat):Int):=by rw [Int.tmod_eq_emod_of_nonneg (by omega)];omega
 simp -implicitDefEqProofs (disch:=omega)[qb,e1',qv,qY,qf,qV,qt,qN,zn]
 have hmn:m*((n / 2:Nat):Int)+m*((n / 2:Nat):Int)+m*((n % 2:Nat):Int)=m*(n:Int):=by
  rw [←Int.mul_add,←Int.mul_add];congr 1;omega
 have hm0:0≤m*((n / 2:Nat):Int):=Int.mul_nonneg hm (by omega)
 have hm1:0≤m*((n % 2:Nat):Int):=Int.mul_nonneg hm (by omega)
 have hH:TaOK (qdh a (n / 2)) (m*((n / 2:Nat):Int)):=qgs ha _
 have hT:TaOK (Vi (qdh a (n / 2)) (qdh a (n / 2))) (m*((n / 2:Nat):Int)+m*((n / 2:Nat):Int)):=qhI hH hH
 refine qg (ys:=[.agg (taN 26 a),I ((n:Int) / 2),ql1]) (ids:=[]) rfl (by rw [hq];exact ih (n / 2) (by omega) a m (by omega) hm ha (by omega) (by omega)) ?_
 generalize hP:qdh a (n / 2)=P at *
 simp -implicitDefEqProofs (disch:=omega)[qb,AV.scalar,qv,qY,qf,qV,qt,qN,zn]
 refine ⟨qad,?_⟩
 refine qg (ys:=[.agg (taN 26 P),.agg (taN 26 P)]) (ids:=[]) rfl (YG P P (hH.mono (by omega)) (hH.mono (by omega))) ?_
 generalize hQ:Vi P P=Q at *
 simp -implicitDefEqProofs (disch:=omega)[qb,AV.scalar,qv,qY,qf,qV,qt,qN,zn]
 by_cases hodd:n % 2=1
 · have ho' : ((n : Int).tmod 2 == 1) = true := by rw [hr,hodd]; rfl
   simp -implicitDefEqProofs (disch:=omega)[qb,ho',qv,qY,qf,qV,qt,qN,zn]
   have h1n:((n % 2:Nat):Int)=1:=by omega
   rw [h1n] at hmn
   have hx:qdh a n=Vi Q a:=by
    rw [←hQ,←hP]
    have:n=(n / 2+n / 2)+1:=by omega
    conv=>lhs;rw [this]
    rw [qdi,qdi,qhJ]
   refine ⟨qad,?_⟩
   refine qg (ys:=[.agg (taN 26 Q),.agg (taN 26 a)]) (ids:=[]) rfl (YG Q a (hT.mono (by omega)) (ha.mono (by omega))) ?_
   rw [hx]
   simp -implicitDefEqProofs (disch:=omega)[qb,AV.scalar,qv,qY,qf,qV,qt,qN,zn]
   exact Q7 (id:=1) (off:=0) rfl rfl (by simp [qv]) (by rw [Q9];exact qG (is:=[]) rfl (.refl _))
 · have ho' : ((n : Int).tmod 2 == 1) = false := by rw [hr,beq_eq_false_iff_ne]; omega
   simp -implicitDefEqProofs (disch:=omega)[qb,ho',qv,qY,qf,qV,qt,qN,zn]
   have hx:qdh a n=Q:=by
    rw [←hQ,←hP]
    have:n=n / 2+n / 2:=by omega
    conv=>lhs;rw [this]
    rw [qdi]
   rw [hx]
   exact Q7 (id:=1) (off:=0) rfl rfl (by simp [qv]) (by rw [Q9];exact qG (is:=[]) rfl (.refl _))
abbrev qtn (f:Bool) (l:List Ta):AV := .sl f l.length (fl (taN 26) l)
theorem qk8 {l:List Ta}:(fl (taN 26) l).length=l.length*26:=J9 (fun x=>qv 26 x) l
theorem qlO {l:List Ta} {i:Nat} (h:i<l.length) {K:AV→List (Nat × HObj)→Prop}:Qm (fl (taN 26) l) (i*26) 26 true K=K (.agg (taN 26 l[i])) []:=by
 rw [jJ,qk8,zT,qfV (fun x=>qv 26 x) h]
 simp only [eq_iff_iff,and_iff_right_iff_imp]
 intro _;omega
set_option maxHeartbeats 4000000 in
theorem WX (f g:Bool) (all:List Ta) (l:List Pt) (hl:∀ p∈l,qI all.length p=true) (hA:∀ j,j<all.length→TaOK (all.getD j jC) QM) (h8:l.length≤1000):qC Tryz.prog 80 [qtn f all,JG g l] (.agg (taN 26 (qba all l))):=by
 refine zO (zj Tryz.func80 qbe qbq (by show 2≤_;decide) ?_)
 have hmx:QM=1099511627776:=rfl
 simp -implicitDefEqProofs (disch:=omega)[Xz,qb]
 refine qO (fun q : Nat × List HObj => ⟨[(0,qtn f all),(4,.ref 0 0),(5,.ref 1 0),(9,JG g l),(10,I (l.length : Int)),(11,I (q.1 : Int))],q.2⟩)
  (fun q=>q.1≤l.length∧qr q.2 0=some (.cells (taN 26 jC))∧qr q.2 1=some (.cells (taN 26 (qba all (l.take q.1))))) (fun q=>l.length - q.1) (0,[.cells (taN 26 jC),.cells (taN 26 jC)]) ⟨Nat.zero_le _,rfl,rfl⟩ rfl ?_
 rintro ⟨i,H⟩ ⟨c1,o0,o1⟩
 simp only at c1 o0 o1 ⊢
 refine qW fun K0 hK0=>?_
 simp -implicitDefEqProofs (disch:=omega)[qb]
 refine qP (fun hc=>?_) (fun hc=>?_)
 · have hi : i < l.length := by simpa using hc
   have ix:((i:Int)+1)=((i+1:Nat):Int):=by omega
   have hpi:=hl _ (List.getElem_mem hi)
   have tk:=XU (all:=all) hi
   have hS:=qoc hA hl i (by omega)
   have hO:=qko hA hpi
   have htm:=Qd hpi
   have hrc:=zk hpi
   generalize hlk:l[i]=pk at *
   obtain ⟨pa,pr,pt⟩:=pk
   simp only at tk htm hrc
   simp -implicitDefEqProofs (disch:=omega)[qb,hi,hlk,ptC]
   have l0:=qj o0
   have l1:=qj o1
   have u0:qr (H++[HObj.cells [U pa,I pr,I pt],HObj.cells [I 0,I 0,I 0,I 0,I 0,I 0,I 0,I 0,I 0,I 0,I 0,I 0,I 0,I 0,I 0,I 0,I 0,I 0,I 0,I 0,I 0,I 0,I 0,I 0,I 0,I 0]]) 0=some (.cells (taN 26 jC)):=(qk l0).trans o0
   have u1:qr (H++[HObj.cells [U pa,I pr,I pt],HObj.cells [I 0,I 0,I 0,I 0,I 0,I 0,I 0,I 0,I 0,I 0,I 0,I 0,I 0,I 0,I 0,I 0,I 0,I 0,I 0,I 0,I 0,I 0,I 0,I 0,I 0,I 0]]) 1=some (.cells (taN 26 (qba all (l.take i)))):=(qk l1).trans o1
   have u2:qr (H++[HObj.cells [U pa,I pr,I pt],HObj.cells [I 0,I 0,I 0,I 0,I 0,I 0,I 0,I 0,I 0,I 0,I 0,I 0,I 0,I 0,I 0,I 0,I 0,I 0,I 0,I 0,I 0,I 0,I 0,I 0,I 0,I 0]]) H.length=some (.cells [U pa,I pr,I pt]):=V1
   have u3:qr (H++[HObj.cells [U pa,I pr,I pt],HObj.cells [I 0,I 0,I 0,I 0,I 0,I 0,I 0,I 0,I 0,I 0,I 0,I 0,I 0,I 0,I 0,I 0,I 0,I 0,I 0,I 0,I 0,I 0,I 0,I 0,I 0,I 0]]) (H.length+1)=some (.cells (taN 26 jC)):=WL
   generalize H++[HObj.cells [U pa,I pr,I pt],HObj.cells [I 0,I 0,I 0,I 0,I 0,I 0,I 0,I 0,I 0,I 0,I 0,I 0,I 0,I 0,I 0,I 0,I 0,I 0,I 0,I 0,I 0,I 0,I 0,I 0,I 0,I 0]]=H1 at *
   have hL0:H.length≠0:=by omega
   have hL1:H.length≠1:=by omega
   generalize H.length=L at *
   refine qsp (id:=L+1) (off:=0) rfl u3 (by rw [qv];omega) ?_
   simp -implicitDefEqProofs (disch:=omega)[qb]
   refine qqW (id:=L+1) (off:=0) (n:=26) (c:=26) rfl u3 (by rw [qv];omega) ?_
   have eZ:splice (taN 26 jC) 0 (zP 26 [I 0])=taN 26 jC:=by rw [qN (by rw [qv];decide)];rfl
   rw [eZ]
   have l3:=qj u3
   have v0:qr (H1.set (L+1) (.cells (taN 26 jC))) 0=some (.cells (taN 26 jC)):=(qh (by omega)).trans u0
   have v1:qr (H1.set (L+1) (.cells (taN 26 jC))) 1=some (.cells (taN 26 (qba all (l.take i)))):=(qh (by omega)).trans u1
   have v2:qr (H1.set (L+1) (.cells (taN 26 jC))) L=some (.cells [U pa,I pr,I pt]):=(qh (by omega)).trans u2
   have v3:qr (H1.set (L+1) (.cells (taN 26 jC))) (L+1)=some (.cells (taN 26 jC)):=qi l3
   simp -implicitDefEqProofs (disch:=omega)[qb]
   rw [if_pos l3]
   generalize H1.set (L+1) (.cells (taN 26 jC))=H2 at *
   simp -implicitDefEqProofs (disch:=omega)[qb,v2,qf]
   have l4:=qj v3
   have ept:(I pt:AV)=I ((pt.toNat:Nat):Int):=by congr 2;omega
   have hPO:=qgs hO pt.toNat
   rw [show ((pt.toNat:Nat):Int)=pt by omega] at hPO
   have hb:QM*pt≤1099511627776000:=Int.le_trans (Int.mul_le_mul_of_nonneg_left htm.2 (by decide)) (by decide)
   by_cases h0:0≤pr
   · have hr : pr.toNat < all.length := by rcases hrc with ⟨h,_⟩ | ⟨_,_,h⟩ <;> omega
     have hr2:pr<(all.length:Int):=by omega
     have eo:qb1 all (pa,pr,pt)=all[pr.toNat]:=by
      unfold qb1;simp only;rw [if_pos h0,List.getD_eq_getElem?_getD,List.getElem?_eq_getElem hr];rfl
     rw [eo] at tk hO hPO
     simp -implicitDefEqProofs (disch:=omega)[qb,h0,v2,v3,qf,qk8,hr,hr2,qlO,qt,qv,qY,qN,zn]
     rw [if_pos l4]
     have x0:qr (H2.set (L+1) (.cells (taN 26 (all[pr.toNat])))) 0=some (.cells (taN 26 jC)):=(qh (by omega)).trans v0
     have x1:qr (H2.set (L+1) (.cells (taN 26 (all[pr.toNat])))) 1=some (.cells (taN 26 (qba all (l.take i)))):=(qh (by omega)).trans v1
     have x2:qr (H2.set (L+1) (.cells (taN 26 (all[pr.toNat])))) L=some (.cells [U pa,I pr,I pt]):=(qh (by omega)).trans v2
     have x3:qr (H2.set (L+1) (.cells (taN 26 (all[pr.toNat])))) (L+1)=some (.cells (taN 26 (all[pr.toNat]))):=qi l4
     generalize H2.set (L+1) (.cells (taN 26 (all[pr.toNat])))=H3 at *
     simp -implicitDefEqProofs (disch:=omega)[qb,x1,x2,x3,qf,qV]
     refine qQ (ys:=[.agg (taN 26 (all[pr.toNat])),I pt,ql1]) (ids:=[]) rfl (by rw [ept];exact qan pt.toNat (all[pr.toNat]) QM (by omega) (by omega) hO (by rw [hmx];omega) (by omega)) ?_
     generalize hPW:qdh (all[pr.toNat]) pt.toNat=PW at *
     simp -implicitDefEqProofs (disch:=omega)[qb,AV.scalar]
     refine qQ (ys:=[.agg (taN 26 (qba all (l.take i))),.agg (taN 26 PW)]) (ids:=[]) rfl (YG _ _ (hS.mono (by omega)) (hPO.mono (by omega))) ?_
     rw [←tk]
     have l5:=qj x1
     simp -implicitDefEqProofs (disch:=omega)[qb,AV.scalar,x1,qt,qv,qY,qN,zn,zW,zJ,zE]
     rw [if_pos l5,hK0]
     exact qz (i+1,H3.set 1 (.cells (taN 26 (qba all (l.take (i+1)))))) ⟨by simp only;omega,(qh (by decide)).trans x0,qi l5⟩ (by simp only;omega) (by simp only [ix])
   · have hp:97≤pa∧pa≤122:=by
      rcases hrc with ⟨_,h⟩ | ⟨_,h,_⟩
      · unfold VZ at h;simp only [Bool.and_eq_true,decide_eq_true_eq] at h;omega
      · omega
     have e8:IntKind.u8.wrap (pa - 97)=pa - 97:=qgP (by omega)
     have hk:(pa - 97).toNat<26:=by omega
     have eo : taN 26 (fun j => if j = (pa - 97).toNat then 1 else jC j) = taN 26 (qb1 all (pa,pr,pt)) := Zn fun k hk => by
      unfold qb1;simp only;rw [if_neg h0]
      by_cases e:97+(k:Int)=pa
      · rw [if_pos (by omega),if_pos e]
      · rw [if_neg (by omega),if_neg e];rfl
     simp -implicitDefEqProofs (disch:=omega)[qb,h0,e8,v2,v3,qf,qt,qv]
     rw [if_pos l4,JR hk,eo]
     have x0:qr (H2.set (L+1) (.cells (taN 26 (qb1 all (pa,pr,pt))))) 0=some (.cells (taN 26 jC)):=(qh (by omega)).trans v0
     have x1:qr (H2.set (L+1) (.cells (taN 26 (qb1 all (pa,pr,pt))))) 1=some (.cells (taN 26 (qba all (l.take i)))):=(qh (by omega)).trans v1
     have x2:qr (H2.set (L+1) (.cells (taN 26 (qb1 all (pa,pr,pt))))) L=some (.cells [U pa,I pr,I pt]):=(qh (by omega)).trans v2
     have x3:qr (H2.set (L+1) (.cells (taN 26 (qb1 all (pa,pr,pt))))) (L+1)=some (.cells (taN 26 (qb1 all (pa,pr,pt)))):=qi l4
     generalize H2.set (L+1) (.cells (taN 26 (qb1 all (pa,pr,pt))))=H3 at *
     simp -implicitDefEqProofs (disch:=omega)[qb,x1,x2,x3,qf,qV]
     refine ⟨by omega,by omega,?_⟩
     refine qQ (ys:=[.agg (taN 26 (qb1 all (pa,pr,pt))),I pt,ql1]) (ids:=[]) rfl (by rw [ept];exact qan pt.toNat (qb1 all (pa,pr,pt)) QM (by omega) (by omega) hO (by rw [hmx];omega) (by omega)) ?_
     generalize hPW:qdh (qb1 all (pa,pr,pt)) pt.toNat=PW at *
     simp -implicitDefEqProofs (disch:=omega)[qb,AV.scalar]
     refine qQ (ys:=[.agg (taN 26 (qba all (l.take i))),.agg (taN 26 PW)]) (ids:=[]) rfl (YG _ _ (hS.mono (by omega)) (hPO.mono (by omega))) ?_
     rw [←tk]
     have l5:=qj x1
     simp -implicitDefEqProofs (disch:=omega)[qb,AV.scalar,x1,qt,qv,qY,qN,zn,zW,zJ,zE]
     rw [if_pos l5,hK0]
     exact qz (i+1,H3.set 1 (.cells (taN 26 (qba all (l.take (i+1)))))) ⟨by simp only;omega,(qh (by decide)).trans x0,qi l5⟩ (by simp only;omega) (by simp only [ix])
 · have hi : i = l.length := by simp at hc; omega
   subst hi
   subst hK0
   rw [List.take_length] at o1
   simp -implicitDefEqProofs (disch:=omega)[qb,o1,o0,qf,qV,qv,qY,qt,qN,zn]
   rw [if_pos (qj o0)]
   exact Q7 (id:=0) (off:=0) rfl (qi (qj o0)) (by simp [qv]) (by rw [Q9];exact qG (is:=[]) rfl (.refl _))
theorem Q8 (n:Nat) (x:Nat→Int):(AV.agg (taN n x)).scalar=true:=by simp [AV.scalar,taN]
theorem qem {n:Nat} {x:Nat→Int} {k:Nat} (h:k<n) {K:AV→List (Nat × HObj)→Prop}:Qm (taN n x) k 1 false K=K (I (x k)) []:=by
 rw [J7,qgG h,Yv]
set_option maxHeartbeats 4000000 in
theorem qjZ (d:Dy) (hd:DyI d) (p:Pt) (act:Int) (ha:0≤act∧act≤255):qC Tryz.prog 40 [DyV d,.agg (ptC p),U act] (.tup [I (qiC d p act),I (qe3 d p act)]):=by
 refine qT (walk Tryz.func40 qf2 (by kernel_rfl) (by show 3≤_;decide) ?_)
 simp -implicitDefEqProofs (disch:=omega)[qgW,qb,dyC,ptC]
 refine qg (ys:=[DyV d,.agg (ptC p)]) (ids:=[]) rfl (Yp d hd p) ?_
 simp -implicitDefEqProofs (disch:=omega)[qb,AV.scalar]
 by_cases hE:Zb d p=0
 case neg =>
  have hE':(Zb d p != 0)=true:=by rw [bne_iff_ne];exact hE
  have h1:qe3 d p act=Zb d p:=if_neg hE
  have h2:qiC d p act=0:=if_neg (by rw [h1];exact hE)
  rw [h1,h2]
  simp -implicitDefEqProofs (disch:=omega)[qb,hE']
  try exact ⟨[],rfl⟩
 have hE':(Zb d p != 0)=false:=by rw [hE];rfl
 obtain ⟨hb,hp⟩:=VL.1 hE
 have V:=jw.1 hb
 have hmx:QM=1099511627776:=rfl
 simp -implicitDefEqProofs (disch:=omega)[qb,hE']
 refine qg (ys:=[U act]) (ids:=[]) rfl (Yq act) ?_
 cases hA:VZ act with
 | false =>
   have h1:qe3 d p act=8:=by unfold qe3;rw [if_pos hE,hA];rfl
   have h2:qiC d p act=0:=if_neg (by rw [h1];decide)
   rw [h1,h2]
   simp -implicitDefEqProofs (disch:=omega)[qb,AV.scalar]
   try exact ⟨[],rfl⟩
 | true =>
 have h1:qe3 d p act=0:=by unfold qe3;rw [if_pos hE,hA];rfl
 have hak:97≤act∧act≤122:=by unfold VZ at hA;simp only [Bool.and_eq_true,decide_eq_true_eq] at hA;omega
 obtain ⟨k,hk,ek⟩:∃ k:Nat,k<26∧act=97+(k:Int):=⟨(act - 97).toNat,by omega,by omega⟩
 have h2:qiC d p act=qba (qfE d.rc) [p] k:=by
  unfold qiC;rw [if_pos h1]
  have hlike:=qeb V.recV d.rc.length (Nat.le_refl _)
  rw [List.take_length] at hlike
  have:=qjw hlike (l:=[p]) (fun q hq=>by rw [List.mem_singleton] at hq;rw [hq];exact hp) hk 1 (by simp)
  rw [List.take_of_length_le (by simp)] at this
  rw [this,←ek]
 have hTA:=qn3 V.recV V.rm
 rw [h1,h2]
 simp -implicitDefEqProofs (disch:=omega)[qb,AV.scalar]
 have hrl:=V.rl
 refine qO (fun q : Nat × AV × List HObj => ⟨[(2,U act),(4,.ref 1 0),(9,q.2.1),(24,Bks d.rc),(25,I (d.rc.length : Int)),(26,I (q.1 : Int))],q.2.2⟩)
  (fun q=>q.1≤d.rc.length∧qr q.2.2 1=some (.cells (ptC p))∧AccG q.2.2 q.2.1 26 q.1 (fl (taN 26) (qfE (d.rc.take q.1)))∧∀ j,rid q.2.1=some j→2≤j) (fun q=>d.rc.length - q.1) (0,.sl true 0 [],[.cells (dyC d),.cells (ptC p)]) ⟨Nat.zero_le _,rfl,.nil,by simp [rid]⟩ rfl ?_
 rintro ⟨i,x,H⟩ ⟨c1,c2,c3,c4⟩
 simp only at c1 c2 c3 c4 ⊢
 refine qW fun K0 hK0=>?_
 simp -implicitDefEqProofs (disch:=omega)[qb]
 refine qP (fun hc=>?_) (fun hc=>?_)
 · have hi : i < d.rc.length := by simpa using hc
   have ix:((i:Int)+1)=((i+1:Nat):Int):=by omega
   have st:=qec hi
   have hal:(qfE (d.rc.take i)).length=i:=by rw [Xk,List.length_take];omega
   have hpv:∀ p∈d.rc[i].2,qI (qfE (d.rc.take i)).length p=true:=by rw [hal];exact V.recV.1 i hi
   have h8:=(Q6 (V.rb _ hi)).2.2.1
   have hta:=hTA i (by omega)
   generalize hT:qfE (d.rc.take i)=T at *
   simp -implicitDefEqProofs (disch:=omega)[qb,hi,bkC]
   generalize hB:d.rc[i]=b at *
   obtain ⟨nm,ps⟩:=b
   simp only at st hpv h8
   have l0:=qj c2
   have o1:qr (H++[HObj.cells [S nm,Pts ps]]) H.length=some (.cells [S nm,Pts ps]):=Qn
   have m1:qr (H++[HObj.cells [S nm,Pts ps]]) 1=some (.cells (ptC p)):=(qk l0).trans c2
   have a1:=c3.mono (H:=H++[HObj.cells [S nm,Pts ps]]) fun j hj=>qk (c3.lt hj)
   have n1:(H++[HObj.cells [S nm,Pts ps]]).length=H.length+1:=by simp
   generalize H++[HObj.cells [S nm,Pts ps]]=H1 at *
   generalize H.length=L at *
   simp -implicitDefEqProofs (disch:=omega)[qb,o1,qf]
   obtain ⟨ids,hp1,_⟩:=a1.pur
   have hpa:qE (hpf H1) [x,Pts ps]=some ([.sl (decide (i=0)) i (fl (taN 26) T),Pts ps],ids++[]):=by
    simp only [qE,hp1];rfl
   have hLs:AV.sl (decide (i=0)) i (fl (taN 26) T)=qtn (decide (i=0)) T:=by show _=AV.sl _ T.length _;rw [hal]
   rw [hLs] at hpa
   refine qg hpa (WX _ false T ps hpv (by rw [hal];exact hta) (by omega)) ?_
   generalize hC:qba T ps=C at *
   rw [Q8]
   simp -implicitDefEqProofs (disch:=omega)[qb]
   refine zq (ys:=[.agg (taN 26 C)]) (ids:=[]) rfl rfl ?_
   simp -implicitDefEqProofs (disch:=omega)[qb,zP,qv]
   refine Q5 (ys:=taN 26 C) a1 (by omega) (by decide) (qv _ _) (qnQ _ _) fun ws w1 w2 w3=>?_
   simp -implicitDefEqProofs (disch:=omega)[qb]
   rw [hK0]
   refine qz (i+1,.ms H1.length 0 (i+1) 26,qH H1 ws) ⟨by simp only;omega,(w1 1 (by omega) (fun e=>by have:=c4 1 e;omega)).trans m1,?_,fun j hj=>by simp only [rid] at hj;cases hj;omega⟩ (by simp only;omega) (by simp only [ix])
   rw [st]
   show AccG _ _ _ _ (fl (taN 26) (T++[C]))
   rw [jr,show fl (taN 26) [C]=taN 26 C from List.append_nil _]
   exact w3
 · have hi : i = d.rc.length := by simp at hc; omega
   subst hi
   subst hK0
   rw [List.take_length] at c3
   simp -implicitDefEqProofs (disch:=omega)[qb,c2,qf,ptC]
   refine zq (ys:=[.agg (ptC p)]) (ids:=[]) rfl rfl ?_
   simp -implicitDefEqProofs (disch:=omega)[qb,zP,ptC]
   obtain ⟨ids,hp1,_⟩:=c3.pur
   have hall:(qfE d.rc).length=d.rc.length:=Xk _
   generalize hT:qfE d.rc=T at *
   have hpa:qE (hpf H) [x,JG true [p]]=some ([.sl (decide (d.rc.length=0)) d.rc.length (fl (taN 26) T),JG true [p]],ids++[]):=by
    simp only [qE,hp1];rfl
   have hLs:AV.sl (decide (d.rc.length=0)) d.rc.length (fl (taN 26) T)=qtn (decide (d.rc.length=0)) T:=by show _=AV.sl _ T.length _;rw [hall]
   rw [hLs] at hpa
   have hta:=hTA d.rc.length (Nat.le_refl _)
   rw [List.take_length,hT] at hta
   refine qg hpa (WX _ true T [p] (fun q hq=>by rw [List.mem_singleton] at hq;rw [hq,hall];exact hp) (by rw [hall];exact hta) (by simp)) ?_
   generalize hC:qba T [p]=C at *
   rw [Q8]
   have e8:IntKind.u8.wrap (act - 97)=(k:Int):=by rw [qgP (by omega)];omega
   simp -implicitDefEqProofs (disch:=omega)[qb,e8,qem hk]
   exact ⟨by omega,[],rfl⟩
def wN (x:Wa):Nat→Int:=fun k=>if k<9 then (x.to k:Int) else x.fd (k - 9)
theorem qp6 {n m:Nat} {x:Nat→Int} (h:m≤n) {K:AV→List (Nat × HObj)→Prop}:Qm (taN n x) 0 m true K=K (.agg (taN m x)) []:=by
 have e:zT (taN n x) 0 m=taN m x:=by
  unfold zT
  refine List.ext_getElem (by simp [qv];omega) fun j h1 h2=>?_
  simp [taN]
 rw [jJ,e,qv];simp;intro _;exact h
def qlj (x y:Wa) (i:Nat):Nat→Int:=fun k =>
 if k<9 then (if k<i then (y.to (x.to k):Int) else (x.to k:Int)) else (if k - 9<i then x.fd (k - 9)+y.fd (x.to (k - 9)) else x.fd (k - 9))
set_option maxHeartbeats 2000000 in
theorem YH (x y:Wa) {m n:Int} (hx:WaOK x m) (hy:WaOK y n) (hm:m≤4000000000000000000) (hn:n≤4000000000000000000):qC Tryz.prog 127 [.agg (taN 18 (wN x)), .agg (taN 18 (wN y))] (.agg (taN 18 (wN (jV x y)))):=by
 refine zO (zj Tryz.func127 qeS qfk (by show 2≤_;decide) ?_)
 simp -implicitDefEqProofs (disch:=omega)[qd7,qb,qv,qY,qf,qp6]
 refine qO (fun i:Nat=>⟨[(2,.ref 0 0),(3,.ref 1 0),(4,.ref 2 0),(8,.agg (taN 9 (wN x))),(9,I (i:Int))],[.cells (taN 18 (qlj x y i)),.cells (taN 18 (wN y)),.cells (taN 18 fun _=>0)]⟩) (fun i=>i≤9) (fun i=>9 - i) 0 (Nat.zero_le _) (by rw [show taN 18 (qlj x y 0)=taN 18 (wN x) from Zn fun k _=>by simp [qlj,wN]];rfl) ?_
 intro i c1
 refine qW fun K0 hK0=>?_
 simp -implicitDefEqProofs (disch:=omega)[qb]
 refine qP (fun hc=>?_) (fun hc=>?_)
 · have hi : i < 9 := by simp at hc; omega
   have ix:((i:Int)+1)=((i+1:Nat):Int):=by omega
   have t9:=hx.to i hi
   have a1:=hx.fd i hi
   have b1:=hy.fd _ t9
   have e0:wN x i=((x.to i:Nat):Int):=by unfold wN;rw [if_pos hi]
   have e1:qlj x y i (9+i)=x.fd i:=by unfold qlj;rw [if_neg (by omega),if_neg (by omega)];congr 1;omega
   have e2:wN y (9+x.to i)=y.fd (x.to i):=by unfold wN;rw [if_neg (by omega)];congr 1;omega
   have e3:wN y (x.to i)=(y.to (x.to i):Int):=by unfold wN;rw [if_pos t9]
   simp -implicitDefEqProofs (disch:=omega)[qb,hi,qf,J7,qgG,Yv,qt,qv,e0,e1,e2,e3,zW,zJ,zE]
   refine ⟨by omega,by omega,by omega,by omega,by omega,by omega,by omega,?_⟩
   rw [JR (show 9+i<18 by omega),JR (show i<18 by omega),hK0]
   refine qz (i+1) (by omega) (by omega) ?_
   have e : taN 18 (fun j => if j = i then ((y.to (x.to i) : Nat) : Int) else if j = 9 + i then x.fd i + y.fd (x.to i) else qlj x y i j) = taN 18 (qlj x y (i + 1)) := Zn fun k hk => by
    unfold qlj
    by_cases h:k<9
    · by_cases e1 : k = i
      · subst e1;rw [if_pos rfl,if_pos h,if_pos (by omega)]
      · rw [if_neg e1,if_neg (by omega),if_pos h,if_pos h]
        by_cases h2:k<i
        · rw [if_pos h2,if_pos (by omega)]
        · rw [if_neg h2,if_neg (by omega)]
    · rw [if_neg (by omega),if_neg h,if_neg h]
      by_cases e1:k=9+i
      · subst e1
        rw [if_pos rfl,show 9+i - 9=i by omega,if_pos (by omega)]
      · rw [if_neg e1]
        by_cases h2:k - 9<i
        · rw [if_pos h2,if_pos (by omega)]
        · rw [if_neg h2,if_neg (by omega)]
   rw [e]
   simp only [ix]
 · have hi : i = 9 := by simp at hc; omega
   subst hi
   subst hK0
   have e : taN 18 (qlj x y 9) = taN 18 (wN (jV x y)) := Zn fun k hk => by
    unfold qlj wN jV
    by_cases h:k<9
    · simp [h]
    · have h2 : k - 9 < 9 := by omega
      simp [h,h2]
   rw [e]
   simp -implicitDefEqProofs (disch:=omega)[qb,qv,qY,qf,qV,qt,qN,zn]
   exact Q7 (id:=2) (off:=0) rfl rfl (by simp [qv]) (by rw [Q9];exact qG (is:=[]) rfl (.refl _))
abbrev ql2:AV := .fn (.func 127) [] []
theorem qae:Wu Tryz.prog 127=true:=by kernel_rfl
set_option maxHeartbeats 2000000 in
theorem qam:∀ (n:Nat) (a:Wa) (m:Int),1≤n→WaOK a m→m*(n:Int)≤4000000000000000000→n≤1000000→qC Tryz.prog 128 [.agg (taN 18 (wN a)),I (n:Int),ql2] (.agg (taN 18 (wN (qaI a n)))):=by
 intro n
 induction n using Nat.strongRecOn with
 | ind n ih =>
 intro a m h1 ha hb hn
 have hm:=ha.nn
 refine zO (zj Tryz.func128 qcJ qdn (by show 3≤_;decide) ?_)
 simp -implicitDefEqProofs (disch:=omega)[qbw,qb,qv,qY,qf,qV]
 by_cases e1:n=1
 · subst e1
   simp -implicitDefEqProofs (disch:=omega)[qb,qv,qY,qf,qV,qt,qN,zn]
   rw [qky]
   exact Q7 (id:=1) (off:=0) rfl rfl (by simp [qv]) (by rw [Q9];exact qG (is:=[]) rfl (.refl _))
 have e1':((n:Int)==1)=false:=by rw [beq_eq_false_iff_ne];omega
 have hq:((n:Int) / 2)=((n / 2:Nat):Int):=by omega
 have hr:((n:Int).tmod 2)=((n % 2:Nat):Int):=by rw [Int.tmod_eq_emod_of_nonneg (by omega)];omega
 simp -implicitDefEqProofs (disch:=omega)[qb,e1',qv,qY,qf,qV,qt,qN,zn]
 have hmn:m*((n / 2:Nat):Int)+m*((n / 2:Nat):Int)+m*((n % 2:Nat):Int)=m*(n:Int):=by
  rw [←Int.mul_add,←Int.mul_add];congr 1;omega
 have hm0:0≤m*((n / 2:Nat):Int):=Int.mul_nonneg hm (by omega)
 have hm1:0≤m*((n % 2:Nat):Int):=Int.mul_nonneg hm (by omega)
 have hH:WaOK (qaI a (n / 2)) (m*((n / 2:Nat):Int)):=qhK ha _
 have hT:WaOK (jV (qaI a (n / 2)) (qaI a (n / 2))) (m*((n / 2:Nat):Int)+m*((n / 2:Nat):Int)):=qgH hH hH
 refine qg (ys:=[.agg (taN 18 (wN a)),I ((n:Int) / 2),ql2]) (ids:=[]) rfl (by rw [hq];exact ih (n / 2) (by omega) a m (by omega) ha (by omega) (by omega)) ?_
 generalize hP:qaI a (n / 2)=P at *
 simp -implicitDefEqProofs (disch:=omega)[qb,AV.scalar,qv,qY,qf,qV,qt,qN,zn]
 refine ⟨qae,?_⟩
 refine qg (ys:=[.agg (taN 18 (wN P)),.agg (taN 18 (wN P))]) (ids:=[]) rfl (YH P P hH hH (by omega) (by omega)) ?_
 generalize hQ:jV P P=Q at *
 simp -implicitDefEqProofs (disch:=omega)[qb,AV.scalar,qv,qY,qf,qV,qt,qN,zn]
 by_cases hodd:n % 2=1
 · have ho' : ((n : Int).tmod 2 == 1) = true := by rw [hr,hodd]; rfl
   simp -implicitDefEqProofs (disch:=omega)[qb,ho',qv,qY,qf,qV,qt,qN,zn]
   have h1n:((n % 2:Nat):Int)=1:=by omega
   rw [h1n] at hmn
   have hx:qaI a n=jV Q a:=by
    rw [←hQ,←hP]
    have:n=(n / 2+n / 2)+1:=by omega
    conv=>lhs;rw [this]
    rw [pow_add,pow_add,qky]
   refine ⟨qae,?_⟩
   refine qg (ys:=[.agg (taN 18 (wN Q)),.agg (taN 18 (wN a))]) (ids:=[]) rfl (YH Q a hT ha (by omega) (by omega)) ?_
   rw [hx]
   simp -implicitDefEqProofs (disch:=omega)[qb,AV.scalar,qv,qY,qf,qV,qt,qN,zn]
   exact Q7 (id:=1) (off:=0) rfl rfl (by simp [qv]) (by rw [Q9];exact qG (is:=[]) rfl (.refl _))
 · have ho' : ((n : Int).tmod 2 == 1) = false := by rw [hr,beq_eq_false_iff_ne]; omega
   simp -implicitDefEqProofs (disch:=omega)[qb,ho',qv,qY,qf,qV,qt,qN,zn]
   have hx:qaI a n=Q:=by
    rw [←hQ,←hP]
    have:n=n / 2+n / 2:=by omega
    conv=>lhs;rw [this]
    rw [pow_add]
   rw [hx]
   exact Q7 (id:=1) (off:=0) rfl rfl (by simp [qv]) (by rw [Q9];exact qG (is:=[]) rfl (.refl _))
def qjc (w:List UInt8) (act:Int) (i:Nat):Nat→Int:=fun k =>
 if k<9 then (if k<i then (qbb w k act:Int) else 0) else (if k - 9<i∧qbb w (k - 9) act=w.length then 1 else 0)
theorem qmE {w:List UInt8} (hw:w.length≤8) (act:Int):taN 18 (qjc w act (w.length+1))=taN 18 (wN (sgW w act)):=Zn fun k hk=>by
 unfold qjc wN sgW
 by_cases h:k<9
 · simp only [if_pos h]
   by_cases h2:k≤w.length
   · rw [if_pos (by omega),if_pos h2]
   · rw [if_neg (by omega),if_neg h2];rfl
 · simp only [if_neg h]
   by_cases h2:k - 9≤w.length
   · have : k - 9 < w.length + 1 := by omega
     simp [h2,this]
   · have : ¬ k - 9 < w.length + 1 := by omega
     simp [h2,this]
set_option maxHeartbeats 4000000 in
theorem qgf (w:List UInt8) (act:Int) (hw:w.length≤8) (ha:0≤act∧act≤255):qC Tryz.prog 126 [S w, U act] (.agg (taN 18 (wN (sgW w act)))):=by
 refine zO (zj Tryz.func126 qcL qdp (by show 2≤_;decide) ?_)
 have hb:∀ (hp:List HObj) (K:AV→List (Nat × HObj)→Prop),qtl hp (.sl true 1 [U act]) K=K (S [UInt8.ofNat act.toNat]) []:=fun hp K=>qjp ha.1 ha.2
 simp -implicitDefEqProofs (disch:=omega)[qby,qb]
 refine qO (fun i:Nat=>⟨[(0,S w),(1,U act),(4,.ref 0 0),(5,.ref 1 0),(11,I ((w.length:Int)+1)),(12,I (i:Int))],[.cells (taN 18 fun _=>0),.cells (taN 18 (qjc w act i))]⟩) (fun i=>i≤w.length+1) (fun i=>w.length+1 - i) 0 (Nat.zero_le _) (by rw [show taN 18 (qjc w act 0)=taN 18 (fun _=>0) from Zn fun k _=>by simp [qjc]];rfl) ?_
 intro st c1
 refine qW fun K0 hK0=>?_
 simp -implicitDefEqProofs (disch:=omega)[qb]
 refine qP (fun hc=>?_) (fun hc=>?_)
 · have hst : st ≤ w.length := by simp at hc; omega
   have ix:((st:Int)+1)=((st+1:Nat):Int):=by omega
   simp -implicitDefEqProofs (disch:=omega)[qb]
   refine zq (ys:=[U act]) (ids:=[]) rfl rfl ?_
   have htl:(w.take st).length=st:=by rw [List.length_take];omega
   simp -implicitDefEqProofs (disch:=first | omega | (simp only [List.length_append,List.length_cons,List.length_nil];omega)) [qb,zP,hb,zW,zJ,zE]
   have hsl:(w.take st++[UInt8.ofNat act.toNat]).length=st+1:=by rw [List.length_append,htl];rfl
   have hE:qbb w st act=qet (w.take st++[UInt8.ofNat act.toNat]) w (min (st+1) w.length):=rfl
   generalize w.take st++[UInt8.ofNat act.toNat]=s at *
   have em:min ((st:Int)+1) (w.length:Int)=((min (st+1) w.length:Nat):Int):=by omega
   rw [em]
   have hEle:=qcA w st act
   generalize hEg:qbb w st act=E at *
   refine qO (fun n:Nat=>⟨[(0,S w),(1,U act),(4,.ref 0 0),(5,.ref 1 0),(6,I (st:Int)),(7,S s),(8,I (n:Int)),(11,I ((w.length:Int)+1)),(12,I (st:Int))],[.cells (taN 18 fun _=>0),.cells (taN 18 (qjc w act st))]⟩) (fun n=>n≤st+1∧n≤w.length∧E=qet s w n) (fun n=>n) (min (st+1) w.length) ⟨by omega,by omega,hE⟩ rfl ?_
   rintro n ⟨c1,c2,c3⟩
   refine qW fun K1 hK1=>?_
   have e1:((s.length:Int) - ((n:Nat):Int))=((s.length - n:Nat):Int):=by omega
   simp -implicitDefEqProofs (disch:=omega)[qb,zW,zJ,zE]
   have et:((s.length:Int) - (n:Int)).toNat=s.length - n:=by omega
   by_cases h:s.drop (s.length - n)=w.take n
   · have h' : (s.drop (s.length - n) == w.take n) = true := by rw [h]; simp
     have hEn:E=n:=by
      rw [c3]
      cases n with
      | zero=>rfl
      | succ m=>show (if _ then _ else _)=_;rw [if_pos h]
     subst hEn
     subst hK1
     simp -implicitDefEqProofs (disch:=omega)[qb,h']
     have e9:st<18:=by omega
     refine ⟨by omega,by rw [qv];omega,?_⟩
     rw [JR e9]
     by_cases hEl:E=w.length
     · have he' : ((E : Int) == (w.length : Int)) = true := by rw [hEl]; simp
       simp -implicitDefEqProofs (disch:=omega)[qb,he',qt,qv,qf]
       refine ⟨by omega,by omega,?_⟩
       rw [JR (show 9+st<18 by omega),hK0]
       refine qz (st+1) (by omega) (by omega) ?_
       have e : taN 18 (fun j => if j = 9 + st then 1 else if j = st then (E : Int) else qjc w act st j) = taN 18 (qjc w act (st + 1)) := Zn fun k hk => by
        unfold qjc
        by_cases h9:k<9
        · rw [if_neg (by omega),if_pos h9,if_pos h9]
          by_cases e1:k=st
          · subst e1;rw [if_pos rfl,if_pos (by omega),hEg]
          · rw [if_neg e1]
            by_cases h2:k<st
            · rw [if_pos h2,if_pos (by omega)]
            · rw [if_neg h2,if_neg (by omega)]
        · by_cases e1 : k = 9 + st
          · subst e1
            rw [if_pos rfl,if_neg h9,show 9+st - 9=st by omega,if_pos ⟨by omega,by rw [hEg];exact hEl⟩]
          · rw [if_neg e1,if_neg (by omega),if_neg h9,if_neg h9]
            have:(k - 9<st)=(k - 9<st+1):=by simp only [eq_iff_iff];omega
            simp only [this]
       rw [e]
       simp only [ix]
     · have he' : ((E : Int) == (w.length : Int)) = false := by rw [beq_eq_false_iff_ne]; omega
       simp -implicitDefEqProofs (disch:=omega)[qb,he',qt,qv,qf]
       rw [hK0]
       refine qz (st+1) (by omega) (by omega) ?_
       have e : taN 18 (fun j => if j = st then (E : Int) else qjc w act st j) = taN 18 (qjc w act (st + 1)) := Zn fun k hk => by
        unfold qjc
        by_cases h9:k<9
        · rw [if_pos h9,if_pos h9]
          by_cases e1:k=st
          · subst e1;rw [if_pos rfl,if_pos (by omega),hEg]
          · rw [if_neg e1]
            by_cases h2:k<st
            · rw [if_pos h2,if_pos (by omega)]
            · rw [if_neg h2,if_neg (by omega)]
        · rw [if_neg (by omega),if_neg h9,if_neg h9]
          by_cases e1:k=9+st
          · subst e1
            rw [show 9+st - 9=st by omega,if_neg (by omega),if_neg (fun h=>hEl (by rw [←hEg];exact h.2))]
          · have : (k - 9 < st) = (k - 9 < st + 1) := by simp only [eq_iff_iff]; omega
            simp only [this]
       rw [e]
       simp only [ix]
   · have hn:n≠0:=by
      intro e;subst e;apply h;simp
     obtain ⟨m,rfl⟩:∃ m,n=m+1:=⟨n - 1,by omega⟩
     have h':(s.drop (s.length - (m+1))==w.take (m+1))=false:=by rw [beq_eq_false_iff_ne];exact h
     have uf:qet s w (m+1)=if s.drop (s.length - (m+1))=w.take (m+1) then m+1 else qet s w m:=rfl
     simp -implicitDefEqProofs (disch:=omega)[qb,h']
     rw [hK1]
     refine qz m ⟨by omega,by omega,by rw [c3,uf,if_neg h]⟩ (Nat.lt_succ_self m) ?_
     have e3:(m:Int)+1 - 1=m:=by omega
     simp only [e3]
 · have hi : st = w.length + 1 := by simp at hc; omega
   subst hi
   subst hK0
   rw [qmE hw]
   simp -implicitDefEqProofs (disch:=omega)[qb,qv,qY,qf,qV,qt,qN,zn]
   exact Q7 (id:=0) (off:=0) rfl rfl (by simp [qv]) (by rw [Q9];exact qG (is:=[]) rfl (.refl _))
abbrev qqL (f:Bool) (l:List Wa):AV := .sl f l.length (fl (fun x=>taN 18 (wN x)) l)
theorem qlc {l:List Wa}:(fl (fun x=>taN 18 (wN x)) l).length=l.length*18:=J9 (fun x=>qv 18 (wN x)) l
theorem qlP {l:List Wa} {i:Nat} (h:i<l.length) {K:AV→List (Nat × HObj)→Prop}:Qm (fl (fun x=>taN 18 (wN x)) l) (i*18) 18 true K=K (.agg (taN 18 (wN l[i]))) []:=by
 rw [jJ,qlc,zT,qfV (fun x=>qv 18 (wN x)) h]
 simp only [eq_iff_iff,and_iff_right_iff_imp]
 intro _;omega
theorem qmO {long:List Int} (h0:∀ x∈long,0≤x) (hm:∀ x∈long,x≤QM) {p:Pt} (hp:qI long.length p=true):0≤ja long p∧ja long p≤QM:=by
 have hmx:QM=1099511627776:=rfl
 unfold ja
 split
 · rename_i e
   have hi:p.2.1.toNat<long.length:=by
    rcases zk hp with ⟨h,_⟩ | ⟨_,_,h⟩ <;> omega
   rw [List.getD_eq_getElem?_getD,List.getElem?_eq_getElem hi]
   exact ⟨h0 _ (List.getElem_mem hi),hm _ (List.getElem_mem hi)⟩
 · rw [hmx];decide
set_option maxHeartbeats 8000000 in
theorem qap (f g:Bool) (w:List UInt8) (hw:w.length≤8) (all:List Wa) (long:List Int) (hA:qll all long) (h0:∀ x∈long,0≤x) (hm:∀ x∈long,x≤QM) (l:List Pt) (hl:∀ p∈l,qI long.length p=true) (hpb:∀ p∈l,0≤p.1∧p.1≤255) (h8:l.length≤1000):qC Tryz.prog 85 [qqL f all,JG g l,S w] (.agg (taN 18 (wN (jn w all l)))):=by
 refine zO (zj Tryz.func85 qcM qdq (by show 3≤_;decide) ?_)
 have hmx:QM=1099511627776:=rfl
 simp -implicitDefEqProofs (disch:=omega)[qbz,qb]
 refine qO (fun i:Nat=>⟨[(0,qqL f all),(1,JG g l),(2,S w),(6,.ref 0 0),(7,.ref 1 0),(12,I (i:Int))],[.cells (taN 18 fun _=>0),.cells (taN 18 fun k=>if k<i then (k:Int) else 0)]⟩) (fun i=>i≤9) (fun i=>9 - i) 0 (Nat.zero_le _) (by rw [show (taN 18 fun k=>if k<0 then (k:Int) else 0)=taN 18 (fun _=>0) from Zn fun k _=>by simp];rfl) ?_
 intro i c1
 refine qW fun K0 hK0=>?_
 simp -implicitDefEqProofs (disch:=omega)[qb]
 refine qP (fun hc=>?_) (fun hc=>?_)
 · have hi : i < 9 := by simp at hc; omega
   have ix:((i:Int)+1)=((i+1:Nat):Int):=by omega
   simp -implicitDefEqProofs (disch:=omega)[qb,qf,qt,qv]
   refine ⟨by omega,by omega,?_⟩
   rw [JR (show i<18 by omega),hK0]
   refine qz (i+1) (by omega) (by omega) ?_
   have e : taN 18 (fun j => if j = i then (i : Int) else if j < i then (j : Int) else 0) = taN 18 (fun j => if j < i + 1 then (j : Int) else 0) := Zn fun k hk => by
    by_cases e1:k=i
    · subst e1;rw [if_pos rfl,if_pos (by omega)]
    · rw [if_neg e1]
      by_cases h2:k<i
      · rw [if_pos h2,if_pos (by omega)]
      · rw [if_neg h2,if_neg (by omega)]
   rw [e]
   simp only [ix]
 have hi:i=9:=by simp at hc;omega
 subst hi
 subst hK0
 have e : (taN 18 fun k => if k < 9 then (k : Int) else 0) = taN 18 (wN idW) := Zn fun k hk => by
  unfold wN idW;simp
 rw [e]
 simp -implicitDefEqProofs (disch:=omega)[qb]
 refine qO (fun q : Nat × List HObj => ⟨[(0,qqL f all),(2,S w),(6,.ref 0 0),(7,.ref 1 0),(20,JG g l),(21,I (l.length : Int)),(22,I (q.1 : Int))],q.2⟩)
  (fun q=>q.1≤l.length∧qr q.2 0=some (.cells (taN 18 fun _=>0))∧qr q.2 1=some (.cells (taN 18 (wN (jn w all (l.take q.1)))))) (fun q=>l.length - q.1) (0,[.cells (taN 18 fun _=>0),.cells (taN 18 (wN idW))]) ⟨Nat.zero_le _,rfl,rfl⟩ rfl ?_
 clear e c1
 rintro ⟨i,H⟩ ⟨c1,o0,o1⟩
 simp only at c1 o0 o1 ⊢
 refine qW fun K0 hK0=>?_
 simp -implicitDefEqProofs (disch:=omega)[qb]
 refine qP (fun hc=>?_) (fun hc=>?_)
 · have hi : i < l.length := by simpa using hc
   have ix:((i:Int)+1)=((i+1:Nat):Int):=by omega
   have hpi:=hl _ (List.getElem_mem hi)
   have hpb1:=hpb _ (List.getElem_mem hi)
   have tk:=qa0 (w:=w) (all:=all) hi
   obtain ⟨m,hS,_,hmS⟩:=qh0 hw hA hm hl i (by omega)
   have hO:=qkp hw hA hpi
   have hOr:=qmO h0 hm hpi
   have htm:=Qd hpi
   have hrc:=zk hpi
   have hi1000:(i:Int)*1099511627776000≤1099511627776000000:=by omega
   generalize hlk:l[i]=pk at *
   generalize ja long pk=oL at *
   obtain ⟨pa,pr,pt⟩:=pk
   simp only at tk htm hrc hpb1
   have ept:(I pt:AV)=I ((pt.toNat:Nat):Int):=by congr 2;omega
   have ept2:((pt.toNat:Nat):Int)=pt:=by omega
   have hPO:=qhK hO pt.toNat
   rw [ept2] at hPO
   have hb:oL*pt≤1099511627776000:=Int.le_trans (Int.mul_le_mul (hmx ▸ hOr.2) htm.2 (by omega) (by decide)) (by decide)
   simp -implicitDefEqProofs (disch:=omega)[qb,hi,hlk,ptC]
   have l0:=qj o0
   have l1:=qj o1
   have u0:qr (H++[HObj.cells [U pa,I pr,I pt]]) 0=some (.cells (taN 18 fun _=>0)):=(qk l0).trans o0
   have u1:qr (H++[HObj.cells [U pa,I pr,I pt]]) 1=some (.cells (taN 18 (wN (jn w all (l.take i))))):=(qk l1).trans o1
   have u2:qr (H++[HObj.cells [U pa,I pr,I pt]]) H.length=some (.cells [U pa,I pr,I pt]):=Qn
   generalize H++[HObj.cells [U pa,I pr,I pt]]=H1 at *
   have hL0:H.length≠0:=by omega
   have hL1:H.length≠1:=by omega
   generalize H.length=L at *
   refine qg (ys:=[S w,U pa]) (ids:=[]) rfl (qgf w pa hw hpb1) ?_
   rw [Q8]
   simp -implicitDefEqProofs (disch:=omega)[qb,qv,qN,zn]
   refine ⟨by have:=qY 18 (wN (sgW w pa));simpa [List.all_eq_true] using this,?_⟩
   have m0:=qj u0
   have m2:=qj u2
   have v0:qr (H1++[HObj.cells (taN 18 (wN (sgW w pa)))]) 0=some (.cells (taN 18 fun _=>0)):=(qk m0).trans u0
   have v1:qr (H1++[HObj.cells (taN 18 (wN (sgW w pa)))]) 1=some (.cells (taN 18 (wN (jn w all (l.take i))))):=(qk (qj u1)).trans u1
   have v2:qr (H1++[HObj.cells (taN 18 (wN (sgW w pa)))]) L=some (.cells [U pa,I pr,I pt]):=(qk m2).trans u2
   have v3:qr (H1++[HObj.cells (taN 18 (wN (sgW w pa)))]) H1.length=some (.cells (taN 18 (wN (sgW w pa)))):=Qn
   generalize H1++[HObj.cells (taN 18 (wN (sgW w pa)))]=H3 at *
   have hM0:H1.length≠0:=by omega
   have hM1:H1.length≠1:=by omega
   have hML:H1.length≠L:=by omega
   generalize H1.length=L2 at *
   have l4:=qj v3
   simp -implicitDefEqProofs (disch:=omega)[qb,v2,qf]
   by_cases h0:0≤pr
   · have hal := hA.1
     have hr:pr.toNat<all.length:=by rcases hrc with ⟨h,_⟩ | ⟨_,_,h⟩ <;> omega
     have hr2:pr<(all.length:Int):=by omega
     have eo:qjd w all (pa,pr,pt)=all[pr.toNat]:=by
      unfold qjd;simp only;rw [if_pos h0,List.getD_eq_getElem?_getD,List.getElem?_eq_getElem hr];rfl
     rw [eo] at tk hO hPO
     simp -implicitDefEqProofs (disch:=omega)[qb,h0,v2,v3,qf,qlc,hr,hr2,qlP,qt,qv,qY,qN,zn]
     rw [if_pos l4]
     have x0:qr (H3.set L2 (.cells (taN 18 (wN (all[pr.toNat]))))) 0=some (.cells (taN 18 fun _=>0)):=(qh (by omega)).trans v0
     have x1:qr (H3.set L2 (.cells (taN 18 (wN (all[pr.toNat]))))) 1=some (.cells (taN 18 (wN (jn w all (l.take i))))):=(qh (by omega)).trans v1
     have x2:qr (H3.set L2 (.cells (taN 18 (wN (all[pr.toNat]))))) L=some (.cells [U pa,I pr,I pt]):=(qh (by omega)).trans v2
     have x3:qr (H3.set L2 (.cells (taN 18 (wN (all[pr.toNat]))))) L2=some (.cells (taN 18 (wN (all[pr.toNat])))):=qi l4
     generalize H3.set L2 (.cells (taN 18 (wN (all[pr.toNat]))))=H3 at *
     simp -implicitDefEqProofs (disch:=omega)[qb,x1,x2,x3,qf,qV]
     refine qQ (ys:=[.agg (taN 18 (wN (all[pr.toNat]))),I pt,ql2]) (ids:=[]) rfl (by rw [ept];exact qam pt.toNat (all[pr.toNat]) _ (by omega) hO (by rw [ept2];omega) (by omega)) ?_
     generalize hPW:qaI (all[pr.toNat]) pt.toNat=PW at *
     rw [Q8]
     simp -implicitDefEqProofs (disch:=omega)[qb]
     refine qQ (ys:=[.agg (taN 18 (wN (jn w all (l.take i)))),.agg (taN 18 (wN PW))]) (ids:=[]) rfl (YH _ _ hS hPO (by omega) (by omega)) ?_
     rw [←tk]
     have l5:=qj x1
     rw [Q8]
     simp -implicitDefEqProofs (disch:=omega)[qb,x1,qt,qv,qY,qN,zn,zW,zJ,zE]
     rw [if_pos l5,hK0]
     exact qz (i+1,H3.set 1 (.cells (taN 18 (wN (jn w all (l.take (i+1))))))) ⟨by simp only;omega,(qh (by decide)).trans x0,qi l5⟩ (by simp only;omega) (by simp only [ix])
   · have eo:qjd w all (pa,pr,pt)=sgW w pa:=by
      unfold qjd;simp only;rw [if_neg h0]
     rw [eo] at tk hO hPO
     simp -implicitDefEqProofs (disch:=omega)[qb,h0,v2,v3,qf]
     simp -implicitDefEqProofs (disch:=omega)[qb,v1,v2,v3,qf,qV]
     refine qQ (ys:=[.agg (taN 18 (wN (sgW w pa))),I pt,ql2]) (ids:=[]) rfl (by rw [ept];exact qam pt.toNat (sgW w pa) _ (by omega) hO (by rw [ept2];omega) (by omega)) ?_
     generalize hPW:qaI (sgW w pa) pt.toNat=PW at *
     rw [Q8]
     simp -implicitDefEqProofs (disch:=omega)[qb]
     refine qQ (ys:=[.agg (taN 18 (wN (jn w all (l.take i)))),.agg (taN 18 (wN PW))]) (ids:=[]) rfl (YH _ _ hS hPO (by omega) (by omega)) ?_
     rw [←tk]
     have l5:=qj v1
     rw [Q8]
     simp -implicitDefEqProofs (disch:=omega)[qb,v1,qt,qv,qY,qN,zn,zW,zJ,zE]
     rw [if_pos l5,hK0]
     exact qz (i+1,H3.set 1 (.cells (taN 18 (wN (jn w all (l.take (i+1))))))) ⟨by simp only;omega,(qh (by decide)).trans v0,qi l5⟩ (by simp only;omega) (by simp only [ix])
 · have hi : i = l.length := by simp at hc; omega
   subst hi
   subst hK0
   rw [List.take_length] at o1
   simp -implicitDefEqProofs (disch:=omega)[qb,o1,o0,qf,qV,qv,qY,qt,qN,zn]
   rw [if_pos (qj o0)]
   exact Q7 (id:=0) (off:=0) rfl (qi (qj o0)) (by simp [qv]) (by rw [Q9];exact qG (is:=[]) rfl (.refl _))
theorem quH {x:Wa} {K:AV→List (Nat × HObj)→Prop}:Qm (taN 18 (wN x)) 9 9 true K=K (.agg (taN 9 x.fd)) []:=by
 have e:zT (taN 18 (wN x)) 9 9=taN 9 x.fd:=by
  unfold zT
  refine List.ext_getElem (by simp [qv]) fun j h1 h2=>?_
  rw [qv] at h2
  simp [taN,wN]
  intro h;omega
 rw [jJ,e,qv];simp
set_option maxHeartbeats 4000000 in
theorem qjX (d:Dy) (hd:DyI d) (p:Pt) (hpb:0≤p.1∧p.1≤255) (w:List UInt8) (hw:w.length≤1000000):qC Tryz.prog 42 [DyV d,.agg (ptC p),S w] (.tup [I (qfT d p w),I (qbc d p w)]):=by
 refine qT (walk Tryz.func42 qf0 (by kernel_rfl) (by show 3≤_;decide) ?_)
 simp -implicitDefEqProofs (disch:=omega)[qgU,qb,dyC,ptC]
 refine qg (ys:=[DyV d,.agg (ptC p)]) (ids:=[]) rfl (Yp d hd p) ?_
 simp -implicitDefEqProofs (disch:=omega)[qb,AV.scalar]
 by_cases hE:Zb d p=0
 case neg =>
  have hE':(Zb d p != 0)=true:=by rw [bne_iff_ne];exact hE
  have h1:qbc d p w=Zb d p:=if_neg hE
  have h2:qfT d p w=0:=if_neg (by rw [h1];exact hE)
  rw [h1,h2]
  simp -implicitDefEqProofs (disch:=omega)[qb,hE']
  try exact ⟨[],rfl⟩
 have hE':(Zb d p != 0)=false:=by rw [hE];rfl
 obtain ⟨hb,hp⟩:=VL.1 hE
 have V:=jw.1 hb
 have hmx:QM=1099511627776:=rfl
 simp -implicitDefEqProofs (disch:=omega)[qb,hE']
 refine zq (ys:=[I (w.length:Int)]) (ids:=[]) rfl rfl ?_
 simp -implicitDefEqProofs (disch:=omega)[qb,zP]
 refine qg rfl (Qj 1 8 true (w.length:Int)) ?_
 have hwb:Ze 1 8 (w.length:Int)=(decide (1≤w.length)&&decide (w.length≤8)):=by
  unfold Ze
  have e1:((1:Int)≤w.length)=(1≤w.length):=by simp only [eq_iff_iff];omega
  have e2:((w.length:Int)≤8)=(w.length≤8):=by simp only [eq_iff_iff];omega
  simp only [e1,e2]
 have hwd:qgg w=(Ze 1 8 (w.length:Int)&&w.all YN):=by rw [hwb];unfold qgg;rw [Bool.and_comm]
 cases hwl:Ze 1 8 (w.length:Int) with
 | false =>
   have h1:qbc d p w=8:=by unfold qbc;rw [if_pos hE,hwd,hwl];rfl
   have h2:qfT d p w=0:=if_neg (by rw [h1];decide)
   rw [h1,h2]
   simp -implicitDefEqProofs (disch:=omega)[qb,AV.scalar]
   try exact ⟨[],rfl⟩
 | true =>
 simp -implicitDefEqProofs (disch:=omega)[qb,AV.scalar]
 refine qg (ys:=[S w,.fn (.func 84) [] []]) (ids:=[]) rfl (ql4 w) ?_
 cases hlw:w.all YN with
 | false =>
   have h1:qbc d p w=8:=by unfold qbc;rw [if_pos hE,hwd,hwl,hlw];rfl
   have h2:qfT d p w=0:=if_neg (by rw [h1];decide)
   rw [h1,h2]
   simp -implicitDefEqProofs (disch:=omega)[qb,AV.scalar]
   try exact ⟨[],rfl⟩
 | true =>
 have h1:qbc d p w=0:=by unfold qbc;rw [if_pos hE,hwd,hwl,hlw];rfl
 have hw8:1≤w.length∧w.length≤8:=by rw [hwb] at hwl;simpa using hwl
 have hlike:=qlx hw8.2 V.recV d.rc.length (Nat.le_refl _)
 rw [List.take_length] at hlike
 have hall:(WT w d.rc).length=d.rc.length:=Xl _
 have h2:qfT d p w=(jn w (WT w d.rc) [p]).fd 0:=by
  unfold qfT;rw [if_pos h1]
  have:=(qhX hlike (l:=[p]) (fun q hq=>by rw [List.mem_singleton] at hq;rw [hq,hall];exact hp) (s:=0) (Nat.zero_le _) 1 (by simp)).2
  rw [List.take_of_length_le (by simp)] at this
  rw [this]
 have hTA:=qn4 hw8.2 V.recV V.rm
 have hlpos:=jO V.recV
 rw [h1,h2]
 simp -implicitDefEqProofs (disch:=omega)[qb,AV.scalar]
 have hrl:=V.rl
 refine qO (fun q : Nat × AV × List HObj => ⟨[(2,S w),(4,.ref 1 0),(9,q.2.1),(30,Bks d.rc),(31,I (d.rc.length : Int)),(32,I (q.1 : Int))],q.2.2⟩)
  (fun q=>q.1≤d.rc.length∧qr q.2.2 1=some (.cells (ptC p))∧AccG q.2.2 q.2.1 18 q.1 (fl (fun x=>taN 18 (wN x)) (WT w (d.rc.take q.1)))∧∀ j,rid q.2.1=some j→2≤j) (fun q=>d.rc.length - q.1) (0,.sl true 0 [],[.cells (dyC d),.cells (ptC p)]) ⟨Nat.zero_le _,rfl,.nil,by simp [rid]⟩ rfl ?_
 rintro ⟨i,x,H⟩ ⟨c1,c2,c3,c4⟩
 simp only at c1 c2 c3 c4 ⊢
 refine qW fun K0 hK0=>?_
 simp -implicitDefEqProofs (disch:=omega)[qb]
 refine qP (fun hc=>?_) (fun hc=>?_)
 · have hi : i < d.rc.length := by simpa using hc
   have ix:((i:Int)+1)=((i+1:Nat):Int):=by omega
   have st:=XI (w:=w) hi
   have hal:(WT w (d.rc.take i)).length=i:=by rw [Xl,List.length_take];omega
   have hll:(qu (d.rc.take i)).length=i:=by rw [zy,List.length_take];omega
   have hpv:∀ p∈d.rc[i].2,qI (qu (d.rc.take i)).length p=true:=by rw [hll];exact V.recV.1 i hi
   have hpbv:∀ p∈d.rc[i].2,0≤p.1∧p.1≤255:=fun p hp'=>((hd.rc _ (List.getElem_mem hi)).1.1 p hp').1
   have hnn:∀ x∈qu (d.rc.take i),0≤x:=fun x hx=>((jO (V.recV.take i)).1 x hx).1
   have hmm : ∀ x ∈ qu (d.rc.take i),x ≤ QM := fun x hx => by
    obtain ⟨r,hr⟩:=jz (l:=d.rc) i
    exact V.rm _ (by rw [hr];simp [hx])
   have h8:=(Q6 (V.rb _ hi)).2.2.1
   have hta:=hTA i (by omega)
   generalize hLg:qu (d.rc.take i)=long at *
   generalize hT:WT w (d.rc.take i)=T at *
   simp -implicitDefEqProofs (disch:=omega)[qb,hi,bkC]
   generalize hB:d.rc[i]=b at *
   obtain ⟨nm,ps⟩:=b
   simp only at st hpv h8 hpbv
   have l0:=qj c2
   have o1:qr (H++[HObj.cells [S nm,Pts ps]]) H.length=some (.cells [S nm,Pts ps]):=Qn
   have m1:qr (H++[HObj.cells [S nm,Pts ps]]) 1=some (.cells (ptC p)):=(qk l0).trans c2
   have a1:=c3.mono (H:=H++[HObj.cells [S nm,Pts ps]]) fun j hj=>qk (c3.lt hj)
   have n1:(H++[HObj.cells [S nm,Pts ps]]).length=H.length+1:=by simp
   generalize H++[HObj.cells [S nm,Pts ps]]=H1 at *
   generalize H.length=L at *
   simp -implicitDefEqProofs (disch:=omega)[qb,o1,qf]
   obtain ⟨ids,hp1,_⟩:=a1.pur
   have hpa : qE (hpf H1) [x,Pts ps,S w] = some ([.sl (decide (i = 0)) i (fl (fun x => taN 18 (wN x)) T),Pts ps,S w],ids ++ []) := by
    simp only [qE,hp1];rfl
   have hLs:AV.sl (decide (i=0)) i (fl (fun x=>taN 18 (wN x)) T)=qqL (decide (i=0)) T:=by show _=AV.sl _ T.length _;rw [hal]
   rw [hLs] at hpa
   refine qg hpa (qap _ false w hw8.2 T long hta hnn hmm ps hpv hpbv (by omega)) ?_
   generalize hC:jn w T ps=C at *
   rw [Q8]
   simp -implicitDefEqProofs (disch:=omega)[qb]
   refine zq (ys:=[.agg (taN 18 (wN C))]) (ids:=[]) rfl rfl ?_
   simp -implicitDefEqProofs (disch:=omega)[qb,zP,qv]
   refine Q5 (ys:=taN 18 (wN C)) a1 (by omega) (by decide) (qv _ _) (qnQ _ _) fun ws w1 w2 w3=>?_
   simp -implicitDefEqProofs (disch:=omega)[qb]
   rw [hK0]
   refine qz (i+1,.ms H1.length 0 (i+1) 18,qH H1 ws) ⟨by simp only;omega,(w1 1 (by omega) (fun e=>by have:=c4 1 e;omega)).trans m1,?_,fun j hj=>by simp only [rid] at hj;cases hj;omega⟩ (by simp only;omega) (by simp only [ix])
   rw [st]
   show AccG _ _ _ _ (fl (fun x=>taN 18 (wN x)) (T++[C]))
   rw [jr,show fl (fun x=>taN 18 (wN x)) [C]=taN 18 (wN C) from List.append_nil _]
   exact w3
 · have hi : i = d.rc.length := by simp at hc; omega
   subst hi
   subst hK0
   rw [List.take_length] at c3
   simp -implicitDefEqProofs (disch:=omega)[qb,c2,qf,ptC]
   refine zq (ys:=[.agg (ptC p)]) (ids:=[]) rfl rfl ?_
   simp -implicitDefEqProofs (disch:=omega)[qb,zP,ptC]
   obtain ⟨ids,hp1,_⟩:=c3.pur
   generalize hT:WT w d.rc=T at *
   have hpa : qE (hpf H) [x,JG true [p],S w] = some ([.sl (decide (d.rc.length = 0)) d.rc.length (fl (fun x => taN 18 (wN x)) T),JG true [p],S w],ids ++ []) := by
    simp only [qE,hp1];rfl
   have hLs:AV.sl (decide (d.rc.length=0)) d.rc.length (fl (fun x=>taN 18 (wN x)) T)=qqL (decide (d.rc.length=0)) T:=by show _=AV.sl _ T.length _;rw [hall]
   rw [hLs] at hpa
   have hta:=hTA d.rc.length (Nat.le_refl _)
   rw [List.take_length,hT] at hta
   refine qg hpa (qap _ true w hw8.2 T (qu d.rc) hta (fun x hx=>(hlpos.1 x hx).1) V.rm [p] (fun q hq=>by rw [List.mem_singleton] at hq;rw [hq,zy];exact hp) (fun q hq=>by rw [List.mem_singleton] at hq;rw [hq];exact hpb) (by simp)) ?_
   generalize hC:jn w T [p]=C at *
   rw [Q8]
   simp -implicitDefEqProofs (disch:=omega)[qb,quH,qem]
   exact ⟨[],rfl⟩
set_option maxHeartbeats 2000000 in
theorem qgB (f g:Bool) (a b:List Wd) (ha:a.length≤1000000) (hb:b.length≤1000000):qC Tryz.prog 65 [qlu f a,qlu g b] (B (decide (a=b))):=by
 refine qT (walk Tryz.func65 qcS (by kernel_rfl) (by show 2≤_;decide) ?_)
 simp -implicitDefEqProofs (disch:=omega)[qbF,qb]
 by_cases hl:a.length=b.length
 case neg =>
  have hl':((a.length:Int) != (b.length:Int))=true:=by rw [bne_iff_ne];omega
  have:decide (a=b)=false:=decide_eq_false fun e=>hl (by rw [e])
  rw [this]
  simp -implicitDefEqProofs (disch:=omega)[qb,hl']
 have hl':((a.length:Int) != (b.length:Int))=false:=by rw [hl];simp
 simp -implicitDefEqProofs (disch:=omega)[qb,hl']
 refine qO (fun i:Nat=>⟨[(0,qlu f a),(1,qlu g b),(12,I (a.length:Int)),(13,I (i:Int))],[]⟩) (fun i=>i≤a.length∧a.take i=b.take i) (fun i=>a.length - i) 0 ⟨Nat.zero_le _,rfl⟩ rfl ?_
 rintro i ⟨c1,c2⟩
 refine qW fun K0 hK0=>?_
 simp -implicitDefEqProofs (disch:=omega)[qb]
 refine qP (fun hc=>?_) (fun hc=>?_)
 · have hi : i < a.length := by simpa using hc
   have hi2:i<b.length:=by omega
   have ix:((i:Int)+1)=((i+1:Nat):Int):=by omega
   simp -implicitDefEqProofs (disch:=omega)[qb,hi,hi2]
   rw [qnz]
   by_cases he:a[i]=b[i]
   case neg =>
    have:decide (a=b)=false:=decide_eq_false fun e=>he (by subst e;rfl)
    have hd:(true != decide (a[i]=b[i]))=true:=by rw [decide_eq_false he];rfl
    rw [hK0,this,hd]
    simp -implicitDefEqProofs (disch:=omega)[qb,zW,zJ,zE]
   case pos =>
    have hd:(true != decide (a[i]=b[i]))=false:=by rw [decide_eq_true he];rfl
    rw [hd]
    simp -implicitDefEqProofs (disch:=omega)[qb,zW,zJ,zE]
    rw [hK0]
    refine qz (i+1) ⟨by omega,?_⟩ (by omega) (by simp only [ix])
    rw [List.take_succ_eq_append_getElem hi,List.take_succ_eq_append_getElem hi2,c2,he]
 · have hi : i = a.length := by simp at hc; omega
   subst hi
   subst hK0
   have:a=b:=by rw [List.take_length,hl,List.take_length] at c2;exact c2
   simp -implicitDefEqProofs (disch:=omega)[qb,this]
theorem qlG {l:Ln} (h1:l.words.length≤20) (h2:∀ w∈l.words,WdI w∧w.2.1.length≤1000) (h3:l.name.length≤1000) (h4:i64 l.num):(qhe l).length≤1000000∧(XO l.words).1.length≤900000:=by
 have ho : ∀ w ∈ l.words,(32 :: V7 w).length ≤ 1040 := fun w hw => by
  have hI:=(h2 w hw).1
  have h1:(if w.2.1=[] then [UInt8.ofNat w.1.toNat] else w.2.1).length≤1001:=by
   split
   · simp
   · have:=(h2 w hw).2;omega
  have h2:(if w.2.2=1 then ([]:List UInt8) else 42::Lib.itoa w.2.2).length≤22:=by
   split
   · simp
   · have e : (10 : Nat) ^ (18 + 1) = 10000000000000000000 := by decide
     have hr:=hI.2.1
     unfold i64 at hr
     unfold Lib.itoa
     split
     · have : (Lib.decDigits w.2.2.natAbs).length ≤ 18 + 1 := j8 18 w.2.2.natAbs (by omega)
       simp only [List.length_cons];omega
     · have : (Lib.decDigits w.2.2.toNat).length ≤ 18 + 1 := j8 18 w.2.2.toNat (by omega)
       simp only [List.length_cons];omega
  unfold V7
  rw [List.length_cons,List.length_append];omega
 have hw:(XO l.words).1.length≤900000:=by
  unfold XO
  split
  · have := qcB (f := fun w => 32 :: V7 w) ho
    simp only;omega
  · simp
 have hn:(Lib.itoa l.num).length≤20:=by
  have e:(10:Nat) ^ (18+1)=10000000000000000000:=by decide
  unfold i64 at h4
  unfold Lib.itoa
  split
  · have : (Lib.decDigits l.num.natAbs).length ≤ 18 + 1 := j8 18 l.num.natAbs (by omega)
    simp only [List.length_cons];omega
  · have : (Lib.decDigits l.num.toNat).length ≤ 18 + 1 := j8 18 l.num.toNat (by omega)
    omega
 refine ⟨?_,hw⟩
 unfold qhe
 repeat' split
 all_goals simp only [List.length_append,List.length_cons,List.length_nil]
 all_goals omega
theorem qup {x l:Ln}:x=l↔x.kind=l.kind∧x.name=l.name∧x.num=l.num∧x.words=l.words:=by
 constructor
 · rintro rfl;exact ⟨rfl,rfl,rfl,rfl⟩
 · rintro ⟨h1,h2,h3,h4⟩
   cases x;cases l
   simp only at h1 h2 h3 h4
   subst h1;subst h2;subst h3;subst h4;rfl
def QE:AC:=match QV with
 | .seq _ (.seq _ (.seq _ (.seq _ t)))=>t
 | x=>x
set_option maxHeartbeats 4000000 in
theorem qqj (l : Ln) (hl : l.words.length ≤ 1000000) (ok : Bool) (s : List UInt8) (hs : s.length ≤ 1000000) (R : Bool) (hR : R = (ok && decide (jc s = 0) && decide (zd s = l))) (fr : List (Nat × AV)) :
 AWP Tryz.prog (E1 Tryz.prog) QE ⟨(1,.ref 0 0)::(5,B ok)::(6,S s)::fr,[.cells [I l.kind,S l.name,Wds l.words,I l.num]]⟩ (qfB [2,3] (Out (.tup [S (if R=true then s else []),I (if R=true then 0 else 8)]))):=by
 simp -implicitDefEqProofs (disch:=omega)[QE,QV,qb]
 refine qg (ys:=[S s]) (ids:=[]) rfl (Yo s hs) ?_
 have hpl:jc s=0→(zd s).words.length≤1000000:=fun h=>by have:=(WB h).len;omega
 generalize zd s=x at *
 generalize jc s=e at *
 simp -implicitDefEqProofs (disch:=omega)[qb,lnC]
 cases ok with
 | false =>
   have h0:R=false:=by rw [hR];simp
   rw [h0]
   simp -implicitDefEqProofs (disch:=omega)[qb]
   exact ⟨[],rfl⟩
 | true =>
 by_cases he:e=0
 case neg =>
  have h0:R=false:=by rw [hR];simp [he]
  have he':(e != 0)=true:=by rw [bne_iff_ne];exact he
  rw [h0]
  simp -implicitDefEqProofs (disch:=omega)[qb,he']
  exact ⟨[],rfl⟩
 have he':(e != 0)=false:=by rw [he];rfl
 have hxl:=hpl he
 by_cases hk:x.kind=l.kind
 case neg =>
  have hx:¬ x=l:=fun h=>hk (by rw [h])
  have h0:R=false:=by rw [hR];simp [he,hx]
  have hk':(x.kind != l.kind)=true:=by rw [bne_iff_ne];exact hk
  rw [h0]
  simp -implicitDefEqProofs (disch:=omega)[qb,he',hk']
  exact ⟨[],rfl⟩
 have hk':(x.kind != l.kind)=false:=by rw [hk];simp
 by_cases hn:x.name=l.name
 case neg =>
  have hx:¬ x=l:=fun h=>hn (by rw [h])
  have h0:R=false:=by rw [hR];simp [he,hx]
  have hn':(x.name==l.name)=false:=by rw [beq_eq_false_iff_ne];exact hn
  rw [h0]
  simp -implicitDefEqProofs (disch:=omega)[qb,he',hk',hn']
  exact ⟨[],rfl⟩
 have hn':(x.name==l.name)=true:=by rw [beq_iff_eq];exact hn
 by_cases hm:x.num=l.num
 case neg =>
  have hx:¬ x=l:=fun h=>hm (by rw [h])
  have h0:R=false:=by rw [hR];simp [he,hx]
  have hm':(x.num != l.num)=true:=by rw [bne_iff_ne];exact hm
  rw [h0]
  simp -implicitDefEqProofs (disch:=omega)[qb,he',hk',hn',hm']
  exact ⟨[],rfl⟩
 have hm':(x.num != l.num)=false:=by rw [hm];simp
 simp -implicitDefEqProofs (disch:=omega)[qb,he',hk',hn',hm']
 refine qg (ys:=[Wds x.words,Wds l.words]) (ids:=[]) rfl (qgB false false x.words l.words hxl hl) ?_
 by_cases hw:x.words=l.words
 case neg =>
  have hx:¬ x=l:=fun h=>hw (by rw [h])
  have h0:R=false:=by rw [hR];simp [he,hx]
  rw [h0,decide_eq_false hw]
  simp -implicitDefEqProofs (disch:=omega)[qb,AV.scalar]
  exact ⟨[],rfl⟩
 have h0:R=true:=by rw [hR];simp [he,qup.2 ⟨hk,hn,hm,hw⟩]
 rw [h0,decide_eq_true hw]
 simp -implicitDefEqProofs (disch:=omega)[qb,AV.scalar]
 exact ⟨[],rfl⟩
set_option maxHeartbeats 4000000 in
theorem qit (l:Ln) (hI:LnI l) (h1:l.words.length≤20) (h2:∀ w∈l.words,w.2.1.length≤1000) (h3:l.name.length≤1000):qC Tryz.prog 21 [LnV l] (.tup [S (qni l),I (qnh l)]):=by
 have hL:=qlG h1 (fun w hw=>⟨hI.words w hw,h2 w hw⟩) h3 hI.num
 obtain ⟨hO,hS⟩:=qlH l
 refine qT (walk Tryz.func21 qeC (by kernel_rfl) (by show 1≤_;decide) ?_)
 simp -implicitDefEqProofs (disch:=omega)[QV,qb,lnC]
 refine qg (ys:=[Wds l.words]) (ids:=[]) rfl (qeY false l.words (by omega) hI.words) ?_
 simp -implicitDefEqProofs (disch:=omega)[qb,AV.scalar]
 have hR:Xi l=((XO l.words).2&&decide (jc (qhe l)=0)&&decide (zd (qhe l)=l)):=by rw [←hO];rfl
 have hW:qni l=(if Xi l=true then qhe l else [])∧qnh l=(if Xi l=true then 0 else 8):=by
  unfold qni qnh
  refine ⟨?_,rfl⟩
  cases h:Xi l with
  | true=>rw [if_pos rfl,if_pos rfl,hS (by rw [hO];exact h)]
  | false=>rfl
 rw [hW.1,hW.2]
 have T:=fun fr=>qqj l (by omega) (XO l.words).2 (qhe l) hL.1 (Xi l) hR fr
 have hE : qhe l = if l.kind = 1 then Zd ++ 32 :: l.name ++ (XO l.words).1 else if l.kind = 2 then tBath else if l.kind = 3 then tDo ++ (XO l.words).1 else if l.kind = 4 then qje ++ 32 :: Lib.itoa l.num
  else if l.kind=5 then qdE else if l.kind=6 then VX else []:=rfl
 have hLn:=hL.1
 clear hS hO hR hW hL
 generalize hsS:qhe l=s at *
 generalize XO l.words=C at *
 obtain ⟨parts,ok⟩:=C
 simp only at *
 generalize Xi l=R at *
 by_cases k1:l.kind=1
 case pos =>
  have m1:(l.kind==1)=true:=by rw [beq_iff_eq];exact k1
  rw [if_pos k1] at hE
  simp -implicitDefEqProofs (disch:=omega)[qb,m1]
  have e7:AV.v (Value.string ⟨#[114,101,99,105,112,101,32]⟩)=S (Zd++[32]):=rfl
  have e8:s=(Zd++[32])++l.name++parts:=by rw [hE];simp
  have hLn2:=hLn
  rw [e8] at hLn2
  simp only [List.length_append,List.length_cons,List.length_nil] at hLn2
  rw [e7,Z5 (by simp only [List.length_append,List.length_cons,List.length_nil];omega)]
  simp -implicitDefEqProofs (disch:=omega)[qb,-List.cons_append,-List.nil_append]
  have e9:(114::101::99::105::112::101::32::l.name)++parts=s:=by rw [hE];rfl
  rw [Z5 (by simp only [List.length_append,List.length_cons,List.length_nil];omega),e9]
  have t:=T []
  simp -implicitDefEqProofs (disch:=omega)[qb,QE,QV] at t
  simp -implicitDefEqProofs (disch:=omega)[qb]
  exact t
 have m1:(l.kind==1)=false:=by rw [beq_eq_false_iff_ne];exact k1
 by_cases k2:l.kind=2
 case pos =>
  have m2:(l.kind==2)=true:=by rw [beq_iff_eq];exact k2
  rw [if_neg k1,if_pos k2] at hE
  simp -implicitDefEqProofs (disch:=omega)[qb,m1,m2]
  have e7:AV.v (Value.string ⟨#[98,97,116,104]⟩)=S s:=by rw [hE]
  rw [e7]
  have t:=T []
  simp -implicitDefEqProofs (disch:=omega)[qb,QE,QV] at t
  exact t
 have m2:(l.kind==2)=false:=by rw [beq_eq_false_iff_ne];exact k2
 by_cases k3:l.kind=3
 case pos =>
  have m3:(l.kind==3)=true:=by rw [beq_iff_eq];exact k3
  rw [if_neg k1,if_neg k2,if_pos k3] at hE
  simp -implicitDefEqProofs (disch:=omega)[qb,m1,m2,m3]
  have e7:AV.v (Value.string ⟨#[100,111]⟩)=S tDo:=rfl
  have hLn2:=hLn
  rw [hE] at hLn2
  simp only [List.length_append,List.length_cons,List.length_nil] at hLn2
  rw [e7,Z5 (by simp only [List.length_append,List.length_cons,List.length_nil];omega),←hE]
  have t:=T []
  simp -implicitDefEqProofs (disch:=omega)[qb,QE,QV] at t
  simp -implicitDefEqProofs (disch:=omega)[qb]
  exact t
 have m3:(l.kind==3)=false:=by rw [beq_eq_false_iff_ne];exact k3
 by_cases k4:l.kind=4
 case pos =>
  have m4:(l.kind==4)=true:=by rw [beq_iff_eq];exact k4
  rw [if_neg k1,if_neg k2,if_neg k3,if_pos k4] at hE
  simp -implicitDefEqProofs (disch:=omega)[qb,m1,m2,m3,m4]
  refine qg (ys:=[I l.num,I 10]) (ids:=[]) rfl (qbs l.num hI.num) ?_
  simp -implicitDefEqProofs (disch:=omega)[qb,AV.scalar]
  generalize Lib.itoa l.num=N at *
  have e7:AV.v (Value.string ⟨#[108,97,121,32]⟩)=S (qje++[32]):=rfl
  have e8:s=(qje++[32])++N:=by rw [hE];simp
  have hLn2:=hLn
  rw [e8] at hLn2
  simp only [List.length_append,List.length_cons,List.length_nil] at hLn2
  rw [e7,Z5 (by simp only [List.length_append,List.length_cons,List.length_nil];omega),←e8]
  have t:=T []
  simp -implicitDefEqProofs (disch:=omega)[qb,QE,QV] at t
  simp -implicitDefEqProofs (disch:=omega)[qb]
  exact t
 have m4:(l.kind==4)=false:=by rw [beq_eq_false_iff_ne];exact k4
 by_cases k5:l.kind=5
 case pos =>
  have m5:(l.kind==5)=true:=by rw [beq_iff_eq];exact k5
  rw [if_neg k1,if_neg k2,if_neg k3,if_neg k4,if_pos k5] at hE
  simp -implicitDefEqProofs (disch:=omega)[qb,m1,m2,m3,m4,m5]
  have e7:AV.v (Value.string ⟨#[98,97,99,107]⟩)=S s:=by rw [hE]
  rw [e7]
  have t:=T []
  simp -implicitDefEqProofs (disch:=omega)[qb,QE,QV] at t
  exact t
 have m5:(l.kind==5)=false:=by rw [beq_eq_false_iff_ne];exact k5
 by_cases k6:l.kind=6
 case pos =>
  have m6:(l.kind==6)=true:=by rw [beq_iff_eq];exact k6
  rw [if_neg k1,if_neg k2,if_neg k3,if_neg k4,if_neg k5,if_pos k6] at hE
  simp -implicitDefEqProofs (disch:=omega)[qb,m1,m2,m3,m4,m5,m6]
  have e7:AV.v (Value.string ⟨#[97,103,97,105,110]⟩)=S s:=by rw [hE]
  rw [e7]
  have t:=T []
  simp -implicitDefEqProofs (disch:=omega)[qb,QE,QV] at t
  exact t
 have m6:(l.kind==6)=false:=by rw [beq_eq_false_iff_ne];exact k6
 rw [if_neg k1,if_neg k2,if_neg k3,if_neg k4,if_neg k5,if_neg k6] at hE
 subst hE
 have t:=T []
 simp -implicitDefEqProofs (disch:=omega)[qb,QE,QV] at t
 simp -implicitDefEqProofs (disch:=omega)[qb,m1,m2,m3,m4,m5,m6]
 exact t
def ndD:Dy:=⟨[([83,116,111,110,101],[(97,-1,1),(98,-1,2)]),([67,111,109,98],[(0,0,2),(99,-1,1)])],1,2,[],[⟨7,1,0,[(0,1,1),(97,-1,1)]⟩,⟨8,1,1,[(0,0,3)]⟩]⟩
def nyS:List UInt8:=[114,101,99,105,112,101,32,65,97,32,120,10]
def nyD:Dy:=⟨[([65,97],[(120,-1,1)])],0,0,[],[]⟩
def nyB:List UInt8:=[1,2,65,97,1,23,1,0,0,0,0,190]
def doA:List UInt8:=[100,111,32,97,42,49]
def doC:List UInt8:=[100,111,32,67,111,109,98,42,50]
def bba:List UInt8:=[98,98,97]
set_option maxRecDepth 100000 in
theorem qor:V0 YZ=0∧qku YZ=ndD∧qmV YZ=[0,0,0,0,0,0,0,11,0,0,0,5,5]∧Jw (qaH YZ)=qjE:=by decide +kernel
theorem qrC:Wh ndD=0:=by decide +kernel
theorem qrE:qc6 ndD (0,1,1)=7∧Zb ndD (0,1,1)=0:=by decide +kernel
theorem qvN:atR ndD (0,1,1) 4=98∧atE ndD (0,1,1) 4=0∧atE ndD (0,1,1) 7=3:=by decide +kernel
theorem qrF:qiC ndD (0,1,1) 98=4∧qe3 ndD (0,1,1) 98=0:=by decide +kernel
theorem qrD:qfT ndD (0,1,2) bba=2∧qbc ndD (0,1,2) bba=0:=by decide +kernel
theorem qos:Jh ndD 8=some ⟨8,1,1,[(0,0,3)]⟩∧Zx ndD 8=0:=by decide +kernel
theorem qrI:qgC ndD 7 8=15:=by decide +kernel
theorem qvO:V0 nyS=0∧qku nyS=nyD:=by decide +kernel
theorem quc:qev nyD=nyB∧W9 nyD=0:=by decide +kernel
theorem qub:qoi nyB=nyD∧qie nyB=0:=by decide +kernel
theorem qrG:jc doA=8:=by decide +kernel
theorem qrH:jc doC=0∧zd doC=⟨3,[],[(0,[67,111,109,98],2)],0⟩:=by decide +kernel
theorem qrJ:qni ⟨3,[],[(0,[67,111,109,98],2)],0⟩=doC∧qnh ⟨3,[],[(0,[67,111,109,98],2)],0⟩=0:=by decide +kernel
theorem qj4 {n:Int} (h : -1000000≤n∧n≤1000000):i64 n:=by unfold i64;omega
theorem qus:DyI ndD:=by
 have V:=jw.1 (show Wg ndD=true by decide +kernel)
 exact V.w.i
theorem qut:DyI nyD:=by
 have V:=jw.1 (show Wg nyD=true by decide +kernel)
 exact V.w.i
theorem qp8 {K:St→Prop} {Q:Exit→St→Prop} {st:St} (h:K st):Exit.th K Q .normal st:=h
def qgM (i:Nat):Int:=if i=7 then 11 else if 10<i then 5 else 0
theorem qqg {i:Nat} (h:i<13):YO (fl qjb [0,0,0,0,0,0,0,11,0,0,0,5,5]) i=some (I (qgM i)):=by
 have e:∀ i,i<13→([0,0,0,0,0,0,0,11,0,0,0,5,5]:List Int)[i]?=some (qgM i):=by decide
 have hl:i<([0,0,0,0,0,0,0,11,0,0,0,5,5]:List Int).length:=h
 have e2:=e i h
 rw [List.getElem?_eq_getElem hl] at e2
 rw [qo3 hl,Option.some.inj e2]
theorem qvI:LnI ⟨3,[],[(0,[67,111,109,98],2)],0⟩ :=
 ⟨qj4 (by decide),qj4 (by decide),fun w hw => by
  obtain rfl:w=(0,[67,111,109,98],2):=by simpa using hw
  exact ⟨by decide,qj4 (by decide),by decide⟩,by decide,by decide⟩
set_option maxHeartbeats 8000000 in
theorem qqz:qC Tryz.prog 18 [] (B true):=by
 refine qT (qjr Tryz.func18 qeM (by kernel_rfl) (by show 0≤_;decide) ?_)
 unfold qd1
 have dI:=qus
 have yI:=qut
 obtain ⟨n1,n2,n3,n4⟩:=qor
 refine zV ?_
 simp -implicitDefEqProofs (disch:=omega)[qb]
 refine zV ?_
 simp -implicitDefEqProofs (disch:=omega)[qb]
 refine qg (ys:=[]) (ids:=[]) rfl qbY ?_
 simp -implicitDefEqProofs (disch:=omega)[qb,AV.scalar]
 refine qg (ys:=[S YZ]) (ids:=[]) rfl (qhs YZ (by decide)) ?_
 rw [n1,n2,n3]
 simp -implicitDefEqProofs (disch:=omega)[qb,AV.scalar,dyC]
 have ed:[Bks ndD.rc,I ndD.bath,I ndD.laid,Pts ndD.pat,Shs ndD.sh]=dyC ndD:=rfl
 simp only [ed]
 refine zV ?_
 simp -implicitDefEqProofs (disch:=omega)[qb]
 refine qg (ys:=[]) (ids:=[]) rfl qbY ?_
 simp -implicitDefEqProofs (disch:=omega)[qb,AV.scalar]
 refine qg (ys:=[S YZ]) (ids:=[]) rfl (qjW YZ (by decide)) ?_
 rw [n1,n4]
 simp -implicitDefEqProofs (disch:=omega)[qb,AV.scalar]
 refine zV ?_
 simp -implicitDefEqProofs (disch:=omega)[qb]
 refine qg (ys:=[]) (ids:=[]) rfl qkb ?_
 have hb:(qjE==qjE)=true:=by rw [beq_iff_eq]
 simp -implicitDefEqProofs (disch:=omega)[qb,AV.scalar,qf,dyC]
 refine qg (ys:=[DyV ndD]) (ids:=[]) rfl (qcW ndD dI) ?_
 rw [qrC]
 simp -implicitDefEqProofs (disch:=omega)[qb,AV.scalar,qf,dyC]
 refine qg (ys:=[DyV ndD]) (ids:=[]) rfl (qdl ndD dI) ?_
 rw [qrC]
 have hrl:ndD.rc.length=2:=rfl
 simp -implicitDefEqProofs (disch:=omega)[qb,AV.scalar,qf,dyC,hrl]
 simp only [ed]
 refine zV ?_
 refine qW fun K9 hK9=>?_
 simp -implicitDefEqProofs (disch:=omega)[qb]
 refine qO (fun i:Nat=>⟨[(1,.ref 0 0),(2,qqH [0,0,0,0,0,0,0,11,0,0,0,5,5]),(6,I (i:Int))],[.cells (dyC ndD)]⟩) (fun i=>i≤13) (fun i=>13 - i) 0 (Nat.zero_le _) rfl ?_
 intro i c1
 refine qW fun K0 hK0=>?_
 simp -implicitDefEqProofs (disch:=omega)[qb]
 refine qP (fun hc=>?_) (fun hc=>?_)
 · have hi : i < 13 := by simp at hc; omega
   have ix:((i:Int)+1)=((i+1:Nat):Int):=by omega
   have hw:=qqg hi
   have hlen:(fl qjb [0,0,0,0,0,0,0,11,0,0,0,5,5]).length=13:=rfl
   have hi':(i:Int)<13:=by omega
   by_cases h7:i=7
   · subst h7
     have hwv:qgM 7=11:=rfl
     rw [hwv] at hw
     simp -implicitDefEqProofs (disch:=omega)[qb,hw,hlen]
     rw [hK0]
     exact qz 8 (by omega) (by omega) rfl
   · have h7' : ((i : Int) == 7) = false := by rw [beq_eq_false_iff_ne]; omega
     by_cases h10:10<i
     · have h10' : (10 < (i : Int)) = True := by simp only [eq_iff_iff,iff_true]; omega
       have hwv:qgM i=5:=by unfold qgM;rw [if_neg h7,if_pos h10]
       rw [hwv] at hw
       simp -implicitDefEqProofs (disch:=omega)[qb,h7',h10',hw,hlen,hi,hi']
       rw [hK0]
       exact qz (i+1) (by omega) (by omega) (by simp only [ix])
     · have h10' : (10 < (i : Int)) = False := by simp only [eq_iff_iff,iff_false]; omega
       have hwv:qgM i=0:=by unfold qgM;rw [if_neg h7,if_neg h10]
       rw [hwv] at hw
       simp -implicitDefEqProofs (disch:=omega)[qb,h7',h10',hw,hlen,hi,hi']
       rw [hK0]
       exact qz (i+1) (by omega) (by omega) (by simp only [ix])
 · have hi : i = 13 := by simp at hc; omega
   subst hi
   subst hK0
   simp -implicitDefEqProofs (disch:=omega)[qb]
   subst hK9
   refine qp8 ?_
   obtain ⟨g1,g2⟩:=qrE
   obtain ⟨g3,g4,g5⟩:=qvN
   obtain ⟨g6,g7⟩:=qrF
   obtain ⟨g8,g9⟩:=qrD
   obtain ⟨s1,s2⟩:=qos
   obtain ⟨y1,y2⟩:=qvO
   obtain ⟨e1,e2⟩:=quc
   obtain ⟨d1,d2⟩:=qub
   obtain ⟨c1',c2'⟩:=qrH
   obtain ⟨w1,w2⟩:=qrJ
   refine zV ?_
   simp -implicitDefEqProofs (disch:=omega)[qb,qf,dyC]
   simp only [ed]
   refine qQ (ys:=[I 1,I 1]) (ids:=[]) rfl (Jv 1 1) ?_
   simp -implicitDefEqProofs (disch:=omega)[qb,AV.scalar,ptC,zW,zJ,zE]
   refine qQ (ys:=[DyV ndD,.agg (ptC (0,1,1))]) (ids:=[]) rfl (qjY ndD dI (0,1,1)) ?_
   rw [g1,g2]
   simp -implicitDefEqProofs (disch:=omega)[qb,AV.scalar,zW,zJ,zE]
   refine zV ?_
   simp -implicitDefEqProofs (disch:=omega)[qb,qf,dyC]
   simp only [ed]
   refine qQ (ys:=[I 1,I 1]) (ids:=[]) rfl (Jv 1 1) ?_
   simp -implicitDefEqProofs (disch:=omega)[qb,AV.scalar,ptC,zW,zJ,zE]
   refine qQ (ys:=[DyV ndD,.agg (ptC (0,1,1)),I 4]) (ids:=[]) rfl (qjV ndD dI (0,1,1) 4 (qj4 (by omega))) ?_
   rw [g3,g4]
   simp -implicitDefEqProofs (disch:=omega)[qb,AV.scalar,zW,zJ,zE]
   refine zV ?_
   simp -implicitDefEqProofs (disch:=omega)[qb,qf,dyC]
   simp only [ed]
   refine qQ (ys:=[I 1,I 1]) (ids:=[]) rfl (Jv 1 1) ?_
   simp -implicitDefEqProofs (disch:=omega)[qb,AV.scalar,ptC,zW,zJ,zE]
   refine qQ (ys:=[DyV ndD,.agg (ptC (0,1,1)),I 7]) (ids:=[]) rfl (qjV ndD dI (0,1,1) 7 (qj4 (by omega))) ?_
   rw [g5]
   simp -implicitDefEqProofs (disch:=omega)[qb,AV.scalar,zW,zJ,zE]
   refine zV ?_
   simp -implicitDefEqProofs (disch:=omega)[qb,qf,dyC]
   simp only [ed]
   refine qQ (ys:=[I 1,I 1]) (ids:=[]) rfl (Jv 1 1) ?_
   simp -implicitDefEqProofs (disch:=omega)[qb,AV.scalar,ptC,zW,zJ,zE]
   refine qQ (ys:=[DyV ndD,.agg (ptC (0,1,1)),U 98]) (ids:=[]) rfl (qjZ ndD dI (0,1,1) 98 (by omega)) ?_
   rw [g6,g7]
   simp -implicitDefEqProofs (disch:=omega)[qb,AV.scalar,zW,zJ,zE]
   refine zV ?_
   simp -implicitDefEqProofs (disch:=omega)[qb,qf,dyC]
   simp only [ed]
   refine qQ (ys:=[I 1,I 2]) (ids:=[]) rfl (Jv 1 2) ?_
   simp -implicitDefEqProofs (disch:=omega)[qb,AV.scalar,ptC,zW,zJ,zE]
   refine qQ (ys:=[DyV ndD,.agg (ptC (0,1,2)),S bba]) (ids:=[]) rfl (qjX ndD dI (0,1,2) (by decide) bba (by decide)) ?_
   rw [g8,g9]
   simp -implicitDefEqProofs (disch:=omega)[qb,AV.scalar,zW,zJ,zE]
   refine zV ?_
   simp -implicitDefEqProofs (disch:=omega)[qb,qf,dyC]
   simp only [ed]
   refine qg (ys:=[DyV ndD,I 8]) (ids:=[]) rfl (Wy ndD dI 8) ?_
   rw [s1,s2]
   simp -implicitDefEqProofs (disch:=omega)[qb,AV.scalar,shC]
   refine zV ?_
   simp -implicitDefEqProofs (disch:=omega)[qb,qf,dyC]
   simp only [ed]
   refine qg (ys:=[DyV ndD,I 7,I 8]) (ids:=[]) rfl (qj0 ndD dI 7 8) ?_
   rw [qrI]
   simp -implicitDefEqProofs (disch:=omega)[qb,AV.scalar]
   refine zV ?_
   simp -implicitDefEqProofs (disch:=omega)[qb]
   refine qg (ys:=[S nyS]) (ids:=[]) rfl (qhs nyS (by decide)) ?_
   rw [y1,y2]
   simp -implicitDefEqProofs (disch:=omega)[qb,AV.scalar,dyC]
   have edy:[Bks nyD.rc,I nyD.bath,I nyD.laid,Pts nyD.pat,Shs nyD.sh]=dyC nyD:=rfl
   simp only [edy]
   refine zV ?_
   simp -implicitDefEqProofs (disch:=omega)[qb,qf,dyC]
   simp only [ed,edy]
   refine qg (ys:=[DyV nyD]) (ids:=[]) rfl (qaj nyD yI) ?_
   rw [e1,e2]
   simp -implicitDefEqProofs (disch:=omega)[qb,AV.scalar]
   refine zV ?_
   simp -implicitDefEqProofs (disch:=omega)[qb]
   refine qg (ys:=[zQ false nyB]) (ids:=[]) rfl (qge false nyB (by decide)) ?_
   rw [d1,d2]
   simp -implicitDefEqProofs (disch:=omega)[qb,AV.scalar,dyC]
   simp only [ed,edy]
   refine zV ?_
   simp -implicitDefEqProofs (disch:=omega)[qb]
   refine qg (ys:=[S doA]) (ids:=[]) rfl (Yo doA (by decide)) ?_
   rw [qrG]
   simp -implicitDefEqProofs (disch:=omega)[qb,AV.scalar,lnC]
   refine zV ?_
   simp -implicitDefEqProofs (disch:=omega)[qb]
   refine qg (ys:=[S doC]) (ids:=[]) rfl (Yo doC (by decide)) ?_
   rw [c1',c2']
   simp -implicitDefEqProofs (disch:=omega)[qb,AV.scalar,lnC]
   refine zV ?_
   simp -implicitDefEqProofs (disch:=omega)[qb]
   refine zV ?_
   simp -implicitDefEqProofs (disch:=omega)[qb]
   refine qg (ys:=[LnV ⟨3,[],[(0,[67,111,109,98],2)],0⟩]) (ids:=[]) rfl (qit ⟨3,[],[(0,[67,111,109,98],2)],0⟩ qvI (by decide) (by decide) (by decide)) ?_
   rw [w1,w2]
   simp -implicitDefEqProofs (disch:=omega)[qb,AV.scalar]
   refine zV ?_
   simp -implicitDefEqProofs (disch:=omega)[qb,doC]
   refine qQ (ys:=[I 0,I 3]) (ids:=[]) rfl (Jv 0 3) ?_
   simp -implicitDefEqProofs (disch:=omega)[qb,AV.scalar,ptC,zW,zJ,zE]
   refine zq (ys:=[.agg [U 0,I 0,I 3]]) (ids:=[]) rfl rfl ?_
   simp -implicitDefEqProofs (disch:=omega)[qb,AV.scalar,zW,zJ,zE]
   refine qQ (ys:=[qnq ⟨8,1,1,[(0,0,3)]⟩,.agg [I 8,I 1,I 1,JG true [(0,0,3)]]]) (ids:=[]) rfl (Yc true ⟨8,1,1,[(0,0,3)]⟩ ⟨8,1,1,[(0,0,3)]⟩ (by decide)) ?_
   have hss:decide ((⟨8,1,1,[(0,0,3)]⟩:Sht)=⟨8,1,1,[(0,0,3)]⟩)=true:=by decide
   rw [hss]
   simp -implicitDefEqProofs (disch:=omega)[qb,AV.scalar,zW,zJ,zE]
   rw [qg8]
   refine ⟨rfl,?_⟩
   simp -implicitDefEqProofs (disch:=omega)[qb,AV.scalar,qf,dyC,nyB]
   simp only [ed,edy]
   refine qQ (ys:=[DyV nyD,DyV nyD]) (ids:=[]) rfl (qeZ nyD nyD yI.s) ?_
   have hsd:decide (nyD=nyD)=true:=decide_eq_true rfl
   rw [hsd]
   simp -implicitDefEqProofs (disch:=omega)[qb,AV.scalar,zW,zJ,zE]
   refine qnu ?_
   simp -implicitDefEqProofs (disch:=omega)[qb]
section
variable {w:World}
theorem qgv {P : Program} {t : TypeId} {fs : Array Field} {Q : Nat → List AV → Prop} (ht : P.underlying t = some (.struct fs)) (hc : P.cellsOf t = fs.size)
 (ho:∀ i f,fs[i]?=some f→f.offset=i∧P.cellsOf f.type=1∧RdT P w f.type (Q i)):RdT P w t fun bs=>bs.length=fs.size∧∀ i (h:i<bs.length),Q i [bs[i]]:=by
 intro H enc fuel cs x hx
 obtain ⟨xs,n,_,rfl,hl,hn,hf⟩:=DataW.trod_struct ht hx
 have hcs:cs.length=fs.size:=by rw [hl,hc]
 have hall:∀ i,i<fs.size→∃ a,Q i [a]∧Rep w (qja w) true a (cs.getD i undef):=by
  intro i hi
  have hfi:fs[i]?=some fs[i]:=Array.getElem?_eq_getElem hi
  obtain ⟨o1,o2,o3⟩:=ho i _ hfi
  have k:=hf i _ hfi
  rw [List.getElem?_eq_getElem (by omega),o1,o2] at k
  obtain ⟨bs,p1,p2,p3,p4⟩:=o3 H enc _ _ _ k
  have hl1:bs.length=1:=by rw [p1,p2,o2]
  match bs,hl1 with
  | [a],_ =>
    refine ⟨a,p3,?_⟩
    have:=p4 0 (by simp)
    simpa [List.getD,List.getElem?_take,List.getElem?_drop] using this
 obtain ⟨bs,h1,h2⟩:=Y8 hall
 exact ⟨bs,by omega,hl,⟨h1,fun i h=>(h2 i h).1⟩,fun i h=>(h2 i h).2⟩
theorem qnB {n:Int} (h:(Lit.int .i64 n).wf=true):i64 n:=by
 unfold i64
 simp [Lit.wf,IntKind.min,IntKind.max,IntKind.signed,IntKind.bits] at h
 omega
theorem rd2:RdT Tryz.prog w 2 fun xs=>∃ n,xs=[I n]∧i64 n:=ZE (qhO Tryz.underlying2 (by kernel_rfl)) fun xs ⟨n,h1,h2⟩=>⟨n,h1,qnB h2⟩
theorem rd3:RdT Tryz.prog w 3 fun xs=>∃ n,xs=[I n]∧i64 n:=ZE (qhO Tryz.underlying3 (by kernel_rfl)) fun xs ⟨n,h1,h2⟩=>⟨n,h1,qnB h2⟩
theorem rd5 : RdT Tryz.prog w 5 fun xs => ∃ n,xs = [U n] ∧ 0 ≤ n ∧ n ≤ 255 := ZE (qhO Tryz.underlying5 (by kernel_rfl)) fun xs ⟨n,h1,h2⟩ => ⟨n,h1,by
 simp [Lit.wf,IntKind.min,IntKind.max,IntKind.signed,IntKind.bits] at h2
 omega⟩
theorem rd9:RdT Tryz.prog w 9 fun xs=>∃ s:List UInt8,xs=[S s]:=ZE (qsi Tryz.underlying9 (by kernel_rfl)) fun xs ⟨s,h1,h2⟩=>⟨s.data.toList,by rw [h1]⟩
theorem qwc : RdT Tryz.prog w 79 fun xs => ∃ n,xs = [.v (.int .u16 n)] ∧ 0 ≤ n ∧ n ≤ 65535 := ZE (qhO Tryz.underlying79 (by kernel_rfl)) fun xs ⟨n,h1,h2⟩ => ⟨n,h1,by
 simp [Lit.wf,IntKind.min,IntKind.max,IntKind.signed,IntKind.bits] at h2
 omega⟩
theorem qsB {n:Int} (h:0≤n∧n≤255):((UInt8.ofNat n.toNat).toNat:Int)=n:=by
 rw [UInt8.toNat_ofNat',Nat.mod_eq_of_lt (by omega)];omega
theorem qvW:RdT Tryz.prog w 5 fun xs=>∃ b:UInt8,xs=[U (b.toNat:Int)]∧True:=ZE rd5 fun xs ⟨n,h1,h2⟩=>⟨UInt8.ofNat n.toNat,by rw [qsB h2,h1],trivial⟩
theorem qny {α : Type} {C : α → List AV} {G : α → Prop} {sz : Nat} : ∀ {els : List (List AV)},(∀ x ∈ els,x.length = sz ∧ ∃ a,x = C a ∧ G a) → ∃ l : List α,l.length = els.length ∧ els.flatten = fl C l ∧ ∀ a ∈ l,G a
 | [],_=>⟨[],rfl,rfl,fun a h=>by cases h⟩
 | x::els,h=>by
   obtain ⟨l,h1,h2,h3⟩:=qny (els:=els) (fun y hy=>h y (by simp [hy]))
   obtain ⟨_,a,rfl,ha⟩:=h x (by simp)
   exact ⟨a :: l,by simp [h1],by rw [List.flatten_cons,h2]; rfl,fun b hb => by
    rcases List.mem_cons.1 hb with rfl | hb
    · exact ha
    · exact h3 b hb⟩
theorem qaO {P : Program} {t e : TypeId} {α : Type} {C : α → List AV} {G : α → Prop} {sz : Nat} (ht : P.underlying t = some (.slice e)) (hc : P.cellsOf t = 1) (hz : P.cellsOf e = sz) (h0 : 0 < sz) (he : RdT P w e fun xs => ∃ a,xs = C a ∧ G a) :
 RdT P w t fun xs=>∃ l:List α,xs=[.sl false l.length (fl C l)]∧∀ a∈l,G a :=
 ZE (qmZ ht hc hz h0 he) fun xs ⟨els,h1,h2,h3⟩ => by
  obtain ⟨l,k1,k2,k3⟩:=qny h1
  exact ⟨l,by rw [h2,k2,←k1],k3⟩
theorem qho : ∀ l : List UInt8,fl (fun b : UInt8 => [U (b.toNat : Int)]) l = qw l
 | []=>rfl
 | b::l=>by
   have:=qho l
   unfold fl qw at this ⊢
   rw [List.flatMap_cons,List.map_cons,this];rfl
theorem qwb:RdT Tryz.prog w 69 fun xs=>∃ l:List UInt8,xs=[zQ false l]∧True:=ZE (qaO Tryz.underlying69 (by kernel_rfl) (sz:=1) (by kernel_rfl) (by omega) qvW) fun xs ⟨l,h1,h2⟩=>⟨l,by rw [h1,qho],trivial⟩
theorem qvR:RdT Tryz.prog w 27 fun xs=>∃ a:Wd,xs=wdC a∧((0≤a.1∧a.1≤255)∧i64 a.2.2) :=
 ZE (qb8 Tryz.underlying27 (c0:=1) (c1:=1) (c2:=1) (by kernel_rfl) rfl rfl rfl (by kernel_rfl) (by kernel_rfl) (by kernel_rfl) rd5 rd9 rd3) fun xs ⟨a0,a1,a2,_,_,_,h,⟨n,h1,h2⟩,⟨s,h3⟩,⟨m,h4,h5⟩⟩=>⟨(n,s,m),by rw [h,h1,h3,h4];rfl,h2,h5⟩
theorem qvV:RdT Tryz.prog w 56 fun xs=>∃ a:Pt,xs=ptC a∧PtI a :=
 ZE (qb8 Tryz.underlying56 (c0:=1) (c1:=1) (c2:=1) (by kernel_rfl) rfl rfl rfl (by kernel_rfl) (by kernel_rfl) (by kernel_rfl) rd5 rd3 rd3) fun xs ⟨a0,a1,a2,_,_,_,h,⟨n,h1,h2⟩,⟨s,h3,h6⟩,⟨m,h4,h5⟩⟩=>⟨(n,s,m),by rw [h,h1,h3,h4];rfl,⟨h2,h6,h5⟩⟩
theorem qvQ:RdT Tryz.prog w 22 fun xs=>∃ l:List Wd,xs=[Wds l]∧∀ a∈l,((0≤a.1∧a.1≤255)∧i64 a.2.2):=qaO Tryz.underlying22 (by kernel_rfl) (sz:=3) (by kernel_rfl) (by omega) qvR
theorem quw:RdT Tryz.prog w 36 fun xs=>∃ l:List Pt,xs=[Pts l]∧∀ a∈l,PtI a:=qaO Tryz.underlying36 (by kernel_rfl) (sz:=3) (by kernel_rfl) (by omega) qvV
theorem qvX:RdT Tryz.prog w 64 fun xs=>∃ a:Bk,xs=bkC a∧∀ p∈a.2,PtI p :=
 ZE (qiO Tryz.underlying64 (c0:=1) (c1:=1) (by kernel_rfl) rfl rfl (by kernel_rfl) (by kernel_rfl) rd9 quw) fun xs ⟨a0,a1,_,_,h,⟨s,h1⟩,⟨l,h3,h4⟩⟩=>⟨(s,l),by rw [h,h1,h3];rfl,h4⟩
theorem qvS:RdT Tryz.prog w 35 fun xs=>∃ l:List Bk,xs=[Bks l]∧∀ a∈l,∀ p∈a.2,PtI p:=qaO Tryz.underlying35 (by kernel_rfl) (sz:=2) (by kernel_rfl) (by omega) qvX
theorem l4 {bs:List AV} (h:bs.length=4):∃ a b c d,bs=[a,b,c,d]:=by
 match bs,h with
 | [a,b,c,d],_=>exact ⟨a,b,c,d,rfl⟩
theorem l5 {bs:List AV} (h:bs.length=5):∃ a b c d e,bs=[a,b,c,d,e]:=by
 match bs,h with
 | [a,b,c,d,e],_=>exact ⟨a,b,c,d,e,rfl⟩
def q24 : Nat → List AV → Prop
 | 0=>fun xs=>∃ n,xs=[I n]∧i64 n
 | 1=>fun xs=>∃ s:List UInt8,xs=[S s]
 | 2=>fun xs=>∃ l:List Wd,xs=[Wds l]∧∀ a∈l,((0≤a.1∧a.1≤255)∧i64 a.2.2)
 | _=>fun xs=>∃ n,xs=[I n]∧i64 n
structure LnT (l:Ln):Prop where
 kind:i64 l.kind
 words:∀ a∈l.words,((0≤a.1∧a.1≤255)∧i64 a.2.2)
 num:i64 l.num
theorem qv9:RdT Tryz.prog w 24 fun xs=>∃ l:Ln,xs=lnC l∧LnT l :=
 ZE (qgv (Q := q24) Tryz.underlying24 (by kernel_rfl) (fun i f h => by
  match i,h with
  | 0,h=>cases h;exact ⟨rfl,by kernel_rfl,rd3⟩
  | 1,h=>cases h;exact ⟨rfl,by kernel_rfl,rd9⟩
  | 2,h=>cases h;exact ⟨rfl,by kernel_rfl,qvQ⟩
  | 3,h=>cases h;exact ⟨rfl,by kernel_rfl,rd2⟩
  | i+4,h=>simp at h)) fun xs ⟨hl,h⟩=>by
  obtain ⟨a,b,c,d,rfl⟩:=l4 hl
  obtain ⟨n,e1,h1⟩:=h 0 (by simp)
  obtain ⟨s,e2⟩:=h 1 (by simp)
  obtain ⟨l,e3,h3⟩:=h 2 (by simp)
  obtain ⟨m,e4,h4⟩:=h 3 (by simp)
  simp only [List.getElem_cons_zero,List.getElem_cons_succ,List.cons.injEq,and_true] at e1 e2 e3 e4
  subst e1 e2 e3 e4
  exact ⟨⟨n,s,l,m⟩,rfl,⟨h1,h3,h4⟩⟩
def q49 : Nat → List AV → Prop
 | 3=>fun xs=>∃ l:List Pt,xs=[Pts l]∧∀ a∈l,PtI a
 | _=>fun xs=>∃ n,xs=[I n]∧i64 n
theorem qvU:RdT Tryz.prog w 49 fun xs=>∃ s:Sht,xs=shC s∧(i64 s.num∧i64 s.bath∧i64 s.age∧∀ p∈s.pat,PtI p) :=
 ZE (qgv (Q := q49) Tryz.underlying49 (by kernel_rfl) (fun i f h => by
  match i,h with
  | 0,h=>cases h;exact ⟨rfl,by kernel_rfl,rd2⟩
  | 1,h=>cases h;exact ⟨rfl,by kernel_rfl,rd3⟩
  | 2,h=>cases h;exact ⟨rfl,by kernel_rfl,rd3⟩
  | 3,h=>cases h;exact ⟨rfl,by kernel_rfl,quw⟩
  | i+4,h=>simp at h)) fun xs ⟨hl,h⟩=>by
  obtain ⟨a,b,c,d,rfl⟩:=l4 hl
  obtain ⟨n,e1,h1⟩:=h 0 (by simp)
  obtain ⟨s,e2,h2⟩:=h 1 (by simp)
  obtain ⟨m,e3,h3⟩:=h 2 (by simp)
  obtain ⟨l,e4,h4⟩:=h 3 (by simp)
  simp only [List.getElem_cons_zero,List.getElem_cons_succ,List.cons.injEq,and_true] at e1 e2 e3 e4
  subst e1 e2 e3 e4
  exact ⟨⟨n,s,m,l⟩,rfl,⟨h1,h2,h3,h4⟩⟩
theorem qvT:RdT Tryz.prog w 37 fun xs=>∃ l:List Sht,xs=[Shs l]∧∀ s∈l,(i64 s.num∧i64 s.bath∧i64 s.age∧∀ p∈s.pat,PtI p):=qaO Tryz.underlying37 (by kernel_rfl) (sz:=4) (by kernel_rfl) (by omega) qvU
def q39 : Nat → List AV → Prop
 | 0=>fun xs=>∃ l:List Bk,xs=[Bks l]∧∀ a∈l,∀ p∈a.2,PtI p
 | 3=>fun xs=>∃ l:List Pt,xs=[Pts l]∧∀ a∈l,PtI a
 | 4=>fun xs=>∃ l:List Sht,xs=[Shs l]∧∀ s∈l,(i64 s.num∧i64 s.bath∧i64 s.age∧∀ p∈s.pat,PtI p)
 | _=>fun xs=>∃ n,xs=[I n]∧i64 n
theorem qwa:RdT Tryz.prog w 39 fun xs=>∃ d:Dy,xs=dyC d∧DyT d :=
 ZE (qgv (Q := q39) Tryz.underlying39 (by kernel_rfl) (fun i f h => by
  match i,h with
  | 0,h=>cases h;exact ⟨rfl,by kernel_rfl,qvS⟩
  | 1,h=>cases h;exact ⟨rfl,by kernel_rfl,rd3⟩
  | 2,h=>cases h;exact ⟨rfl,by kernel_rfl,rd3⟩
  | 3,h=>cases h;exact ⟨rfl,by kernel_rfl,quw⟩
  | 4,h=>cases h;exact ⟨rfl,by kernel_rfl,qvT⟩
  | i+5,h=>simp at h)) fun xs ⟨hl,h⟩=>by
  obtain ⟨a,b,c,d,e,rfl⟩:=l5 hl
  obtain ⟨l,e1,h1⟩:=h 0 (by simp)
  obtain ⟨n,e2,h2⟩:=h 1 (by simp)
  obtain ⟨m,e3,h3⟩:=h 2 (by simp)
  obtain ⟨p,e4,h4⟩:=h 3 (by simp)
  obtain ⟨q,e5,h5⟩:=h 4 (by simp)
  simp only [List.getElem_cons_zero,List.getElem_cons_succ,List.cons.injEq,and_true] at e1 e2 e3 e4 e5
  subst e1 e2 e3 e4 e5
  exact ⟨⟨l,n,m,p,q⟩,rfl,⟨h1,h2,h3,h4,h5⟩⟩
end
theorem qkZ : "*" ++ "errors.errorString" = "*errors.errorString" := by decide
theorem qnL (u : TypeId) (h : Tryz.prog.typeName? 3 u = some "*errors.errorString") : u = 253 :=
 typeName_ptr_named (nm := "errors.errorString") (by rw [qkZ]; kernel_rfl) (by kernel_rfl) (by decide) u (by rw [qkZ]; exact h)
theorem J6 {W:World} {n:String} {g:Nat} {cs:Array Value} (hg:Tryz.prog.globalNamed n=some g) (h:W.var? Tryz.prog n=some cs):∃ (arr:Array Value) (ty:TypeId) (fz:Nat × Nat),W.heap[g]?=some (.cells arr ty fz)∧arr.size=cs.size:=by
 unfold World.var? at h
 rw [hg] at h
 simp only [Option.bind_some] at h
 split at h
 · rename_i x c1 c2 c3 hh
   cases h
   exact ⟨_,_,_,hh,rfl⟩
 · cases h
theorem qvz {W : World} {laid : List (String × DataW Unit)} (hl : laid = [("math/bits.deBruijn32tab", YtopelhnmgjkneaaGreatDoor.Rows.laid_math_bits_deBruijn32tab), ("math/bits.deBruijn64tab", YtopelhnmgjkneaaGreatDoor.Rows.laid_math_bits_deBruijn64tab), ("internal/strconv.uint64pow10", YtopelhnmgjkneaaGreatDoor.Rows.laid_internal_strconv_uint64pow10), ("unicode/utf8.acceptRanges", YtopelhnmgjkneaaGreatDoor.Rows.laid_unicode_utf8_acceptRanges), ("strconv.ErrRange", YtopelhnmgjkneaaGreatDoor.Rows.laid_strconv_ErrRange), ("strconv.ErrSyntax", YtopelhnmgjkneaaGreatDoor.Rows.laid_strconv_ErrSyntax), ("unicode/utf8.first", YtopelhnmgjkneaaGreatDoor.Rows.laid_unicode_utf8_first)]) (h : laidMet Tryz.prog laid W) : TabOK (qja W) W := by
 subst hl
 have h3:=laidMet.tail (laidMet.tail h)
 have h5:=laidMet.tail (laidMet.tail h3)
 have h6:=laidMet.tail h5
 have g0 : Tryz.prog.globalNamed "internal/strconv.uint64pow10" = some 0 := by kernel_rfl
 have g2 : Tryz.prog.globalNamed "strconv.ErrSyntax" = some 2 := by kernel_rfl
 have g3 : Tryz.prog.globalNamed "strconv.ErrRange" = some 3 := by kernel_rfl
 have htab : Lib.TabIs Tryz.prog W "internal/strconv.uint64pow10" .u64 Lib.pow10Tab := Lib.tabIs_of_head (g := 0) (t := 216) (e := 81) (n := 20) g0 (by kernel_rfl) (by kernel_rfl) (by kernel_rfl) (by kernel_rfl) (by kernel_rfl) h3
 obtain ⟨a3,s3,v3,-,-,-⟩:=laid_sentinel h5 g3 (by kernel_rfl) Tryz.underlying192 qnL Tryz.underlying253 Tryz.underlying255 rfl rfl Tryz.underlying9 (by kernel_rfl) (by kernel_rfl)
 obtain ⟨a2,s2,v2,-,-,-⟩:=laid_sentinel h6 g2 (by kernel_rfl) Tryz.underlying192 qnL Tryz.underlying253 Tryz.underlying255 rfl rfl Tryz.underlying9 (by kernel_rfl) (by kernel_rfl)
 intro t ht
 simp only [qrP,List.mem_cons,List.not_mem_nil,or_false] at ht
 rcases ht with rfl | rfl | rfl
 · obtain ⟨arr,ty,fz,e1,e2⟩ := J6 g0 htab
   refine ⟨⟨arr,ty,fz,e1,by rw [e2];rfl⟩,fun i hi=>?_⟩
   have hc:=htab.cell g0 i hi
   exact ⟨⟨_,hc⟩,_,hc,rfl⟩
 · obtain ⟨arr,ty,fz,e1,e2⟩ := J6 g2 v2
   refine ⟨⟨arr,ty,fz,e1,e2⟩,fun i hi=>?_⟩
   obtain rfl:i=0:=by simp only at hi;omega
   have hc:W.cell? ⟨2,0,none⟩=some (.iface 253 (.pointer (some a2))):=by simpa using World.var?_cell g2 v2 0
   exact ⟨⟨_,hc⟩,_,hc,_,_,rfl⟩
 · obtain ⟨arr,ty,fz,e1,e2⟩ := J6 g3 v3
   refine ⟨⟨arr,ty,fz,e1,e2⟩,fun i hi=>?_⟩
   obtain rfl:i=0:=by simp only at hi;omega
   have hc:W.cell? ⟨3,0,none⟩=some (.iface 253 (.pointer (some a3))):=by simpa using World.var?_cell g3 v3 0
   exact ⟨⟨_,hc⟩,_,hc,_,_,rfl⟩
end Go.AM

namespace Go.AM
open Go Go.ChangeShapes Go.WideShapes Go.ChangeAt Go.RowKit Go.Proofs
theorem own:ownKnob Tryz.prog.godebug=none:=by kernel_rfl
theorem qun:laidOutB Tryz.prog=true:=by kernel_rfl
def qtq (k : IntKind) (zs : List Int) : Obj → Obj
 | .cells _ t frozen => .cells (zs.map fun z=>Value.int k z).toArray t frozen
 | o=>o
def qvv (a : Nat) : Obj → Obj
 | .cells _ t frozen => .cells #[.iface 253 (.pointer (some ⟨a,0,none⟩))] t frozen
 | o=>o
def qvP (zs : List (Int × Int)) : Obj → Obj
 | .cells _ t frozen => .cells (zs.flatMap fun z=>[Value.int .u8 z.1,Value.int .u8 z.2]).toArray t frozen
 | o=>o
noncomputable def low:Nat:=(World.holding Tryz.prog default ⟨#[],#[],[]⟩).heap.size
noncomputable def qkc (os:Os):World :=
 let w0:=World.holding Tryz.prog os ⟨#[.cells #[.string ⟨#[118,97,108,117,101,32,111,117,116,32,111,102,32,114,97,110,103,101]⟩] 255,.cells #[.string ⟨#[105,110,118,97,108,105,100,32,115,121,110,116,97,120]⟩] 255],#[],[]⟩
 { w0 with heap:=((((((w0.heap.modify 0 (qtq .u64 Lib.pow10Tab)).modify 2 (qvv (low+1))).modify 3 (qvv low)).modify 4 (qtq .u8 (Lib.deBruijn32tab.map fun z:Nat=>(z:Int)))).modify 5 (qtq .u8 (Lib.deBruijn64tab.map fun z:Nat=>(z:Int)))).modify 6 (qtq .u8 (Go.Pinned.utf8FirstZ.map fun z:Nat=>(z:Int)))).modify 7 (qvP [(128,191),(160,191),(128,159),(144,191),(128,143),(0,0),(0,0),(0,0),(0,0),(0,0),(0,0),(0,0),(0,0),(0,0),(0,0),(0,0)]) }
theorem qtp (os:Os) (args:Array Value):laidMet Tryz.prog YtopelhnmgjkneaaGreatDoor.Rows.noteSamesRow.laid ((qkc os).forCall (fun _ _=>0) ⟨#[],args,[]⟩).memory :=
 laidMet_of_run' 8 (by kernel_rfl) (by kernel_rfl)
end Go.AM
