/-
  Kn5: texts joined: FmNR Ns1 Ns3 Ns5 Ns7 Ns8 Ns9 Ns12 Ns13 Ns14 Ns15 Ns19 Ns20 Nt12 Ns23 Nt13 Nt14 Ns25 Ns26 Ns27 FmNL Lk1 Lk2 Lk3 Ns28 Ns29 Ns30 Nt17 Ns31 Nt18 Ns32 FmNF Hp1. Own work.
-/
import Derived.Test.YtopelhnmgjkneaaGreatDoorKn4
import Derived.Test.YtopelhnmgjkneaaGreatDoorProg
set_option linter.all false
set_option linter.unusedSimpArgs false
set_option linter.unusedVariables false
set_option linter.unusedSectionVars false

set_option maxRecDepth 100000
set_option maxHeartbeats 0
namespace Go.AM
open Go.RowKit Go.Proofs
theorem qwo {n:Nat} {h:n<UInt8.size}:UInt8.ofBitVec (BitVec.ofFin (Fin.mk n h))=UInt8.ofNat n:=by
 apply UInt8.toNat_inj.1
 rw [UInt8.toNat_ofNat']
 show n=n % 256
 have:n<256:=h
 omega
theorem qwp {l:List UInt8}:Array.mk l=List.toArray l:=rfl
def Qu:AC:=Subtype.val (p:=fun g=>qo Tryz.prog Tryz.f34 [2]=some g) (by refine ⟨?g,?h⟩;case h=>conv=>lhs;reduce)
theorem qab:qo Tryz.prog Tryz.f34 [2]=some Qu:=by kernel_rfl
def qd4:AC:=Subtype.val (p:=fun g=>qo Tryz.prog Tryz.f55 [2]=some g) (by refine ⟨?g,?h⟩;case h=>conv=>lhs;reduce)
theorem qeP:qo Tryz.prog Tryz.f55 [2]=some qd4:=by kernel_rfl
def qbC:AC:=Subtype.val (p:=fun g=>qo Tryz.prog Tryz.f60 [2]=some g) (by refine ⟨?g,?h⟩;case h=>conv=>lhs;reduce)
theorem qcP:qo Tryz.prog Tryz.f60 [2]=some qbC:=by kernel_rfl
def qbD:AC:=Subtype.val (p:=fun g=>qo Tryz.prog Tryz.f71 [4]=some g) (by refine ⟨?g,?h⟩;case h=>conv=>lhs;reduce)
theorem qcQ:qo Tryz.prog Tryz.f71 [4]=some qbD:=by kernel_rfl
def XF:AC:=Subtype.val (p:=fun g=>qo Tryz.prog Tryz.f72 [2]=some g) (by refine ⟨?g,?h⟩;case h=>conv=>lhs;reduce)
theorem qbj:qo Tryz.prog Tryz.f72 [2]=some XF:=by kernel_rfl
def YV:AC:=Subtype.val (p:=fun g=>qo Tryz.prog Tryz.f73 [4]=some g) (by refine ⟨?g,?h⟩;case h=>conv=>lhs;reduce)
theorem Wq:qo Tryz.prog Tryz.f73 [4]=some YV:=by kernel_rfl
def WR:AC:=Subtype.val (p:=fun g=>qo Tryz.prog Tryz.f78 [4]=some g) (by refine ⟨?g,?h⟩;case h=>conv=>lhs;reduce)
theorem qac:qo Tryz.prog Tryz.f78 [4]=some WR:=by kernel_rfl
theorem qgP {n:Int} (h:0≤n∧n≤255):IntKind.u8.wrap n=n:=by
 simp only [IntKind.wrap,IntKind.bits,IntKind.signed]
 simp
 omega
theorem qb7 (c:Int):qC Tryz.prog 55 [U c] (B (VZ c)):=by
 refine qT (walk Tryz.func55 qeP (by kernel_rfl) (by show 1≤_;decide) ?_)
 simp -implicitDefEqProofs (disch:=omega)[qd4,qb]
 unfold VZ
 by_cases h:97≤c
 · simp -implicitDefEqProofs (disch:=omega)[qb,h]
 · simp -implicitDefEqProofs (disch:=omega)[qb,h]
theorem qgu (s:List UInt8) (hs:s.length≤1000000):qC Tryz.prog 60 [S s] (B (QW s)):=by
 refine qT (walk Tryz.func60 qcP (by kernel_rfl) (by show 1≤_;decide) ?_)
 simp -implicitDefEqProofs (disch:=omega)[qbC,qb]
 cases s with
 | nil =>
   simp -implicitDefEqProofs (disch:=omega)[qb,QW]
 | cons c r =>
   simp only [List.length_cons] at hs
   have l1:((r.length:Int)+1<1)=False:=by simp only [eq_iff_iff,iff_false];omega
   by_cases h1:r.length≤7
   case neg =>
    have h1':(8<(r.length:Int)+1)=True:=by simp only [eq_iff_iff,iff_true];omega
    simp -implicitDefEqProofs (disch:=omega)[qb,l1,h1,h1',QW]
   case pos =>
    have h1':(8<(r.length:Int)+1)=False:=by simp only [eq_iff_iff,iff_false];omega
    have hb:=UInt8.toNat_lt c
    by_cases h2:65≤c.toNat
    case neg =>
     have h2':((c.toNat:Int)<65)=True:=by simp only [eq_iff_iff,iff_true];omega
     simp -implicitDefEqProofs (disch:=omega)[qb,l1,h1,h1',h2,h2',QW]
    case pos =>
     have h2':((c.toNat:Int)<65)=False:=by simp only [eq_iff_iff,iff_false];omega
     by_cases h3:c.toNat≤90
     case neg =>
      have h3':(90<(c.toNat:Int))=True:=by simp only [eq_iff_iff,iff_true];omega
      simp -implicitDefEqProofs (disch:=omega)[qb,l1,h1,h1',h2,h2',h3,h3',QW]
     case pos =>
      have h3':(90<(c.toNat:Int))=False:=by simp only [eq_iff_iff,iff_false];omega
      have hN:QW (c::r)=r.all YN:=by simp [QW,h1,h2,h3]
      rw [hN]
      simp -implicitDefEqProofs (disch:=omega)[qb,l1,h1,h1',h2,h2',h3,h3']
      refine qO (fun i:Nat=>⟨[(0,S (c::r)),(3,I ((i+1:Nat):Int))],[]⟩) (fun i=>i≤r.length∧(r.take i).all YN=true) (fun i=>r.length - i) 0 ⟨Nat.zero_le _,rfl⟩ rfl ?_
      rintro i ⟨c1,c2⟩
      refine qW fun K0 hK0=>?_
      simp -implicitDefEqProofs (disch:=omega)[qb]
      refine qP (fun hc=>?_) (fun hc=>?_)
      · have hi : i < r.length := by simp at hc; omega
        have hj:i+1<(c::r).length:=by simp;omega
        have ix:((i:Int)+1+1)=((i+1+1:Nat):Int):=by omega
        have iy:((i:Int)+1)=((i+1:Nat):Int):=by omega
        simp -implicitDefEqProofs (disch:=omega)[qb,hj]
        rw [qoO (i+1) (by omega) hj]
        simp -implicitDefEqProofs (disch:=omega)[qb,hj]
        refine qg rfl (qb7 _) ?_
        rw [qcl]
        cases hl:YN r[i] with
        | false =>
          have:r.all YN=false:=by
           rw [List.all_eq_false];exact ⟨_,List.getElem_mem hi,by rw [hl];decide⟩
          rw [hK0]
          simp -implicitDefEqProofs (disch:=omega)[qb,this]
        | true =>
          simp -implicitDefEqProofs (disch:=omega)[qb]
          rw [hK0]
          refine qz (i+1) ⟨by omega,?_⟩ (by omega) (by simp only [ix])
          rw [List.take_succ_eq_append_getElem hi,List.all_append,c2]
          simp [hl]
      · have hi : i = r.length := by simp at hc; omega
        subst hi
        rw [List.take_length] at c2
        subst hK0
        simp -implicitDefEqProofs (disch:=omega)[qb,c2]
structure WdJ (s:List UInt8) (i fr:Nat) (acc:List (List UInt8)):Prop where
 le:fr≤i
 li:i≤s.length
 no:∀ b∈(s.drop fr).take (i - fr),b≠32
 sp:qM 32 s=acc++qM 32 (s.drop fr)
 ln:acc.length≤fr
theorem WdJ.zero (s:List UInt8):WdJ s 0 0 []:=⟨Nat.le_refl _,Nat.zero_le _,by simp,by simp,by simp⟩
theorem qhW {s:List UInt8} {fr i:Nat} (h:fr≤i) (hi:i<s.length):(s.drop fr).take (i+1 - fr)=(s.drop fr).take (i - fr)++[s[i]]:=by
 have h2:i - fr<(s.drop fr).length:=by simp;omega
 have e:(s.drop fr)[i - fr]=s[i]:=by
  rw [List.getElem_drop];congr 1;omega
 rw [show i+1 - fr=i - fr+1 by omega,List.take_succ_eq_append_getElem h2,e]
theorem WdJ.step {s i fr acc} (h:WdJ s i fr acc) (hi:i<s.length) (hb:s[i]≠32):WdJ s (i+1) fr acc :=
 ⟨by have := h.le; omega,hi,fun b hm => by
  rw [qhW h.le hi,List.mem_append] at hm
  rcases hm with hm | hm
  · exact h.no b hm
  · simp at hm;rw [hm];exact hb,h.sp,h.ln⟩
theorem WdJ.last {s fr acc} (h:WdJ s s.length fr acc):qM 32 s=acc++[(s.drop fr).take (s.length - fr)]:=by
 have e:(s.drop fr).take (s.length - fr)=s.drop fr:=List.take_of_length_le (by simp)
 have h1:=h.no
 rw [e] at h1 ⊢
 rw [h.sp,YD h1]
theorem qgO {l:List (List UInt8)} {i:Nat} (h:i<l.length) {ws:List Wd} (hw:zg (l.take i)=some ws):zg (l.take (i+1))=if (jX l[i]).2 then some (ws++[(jX l[i]).1]) else none:=by
 rw [List.take_succ_eq_append_getElem h,WN,hw]
 simp only [zg]
 rcases jX l[i] with ⟨w,ok⟩
 cases ok <;> rfl
theorem qgN {l:List (List UInt8)} {i:Nat} (h:zg (l.take i)=none):zg l=none:=by
 rw [←List.take_append_drop i l,WN,h]
theorem qk7 {l:List (List UInt8)}:(fl WJ l).take l.length=fl WJ l:=List.take_of_length_le (by rw [qdD];exact Nat.le_refl _)
theorem qaN (n:Nat) (p:Pt):qC Tryz.prog 71 [I (n:Int),.agg (ptC p)] (B (qI n p)):=by
 obtain ⟨a,r,t⟩:=p
 have hA:=qb7 a
 refine qT (walk Tryz.func71 qcQ (by kernel_rfl) (by show 2≤_;decide) ?_)
 simp -implicitDefEqProofs (disch:=omega)[qbD,qb,ptC]
 by_cases h1:1≤t
 case neg =>
  have h1':(t<1)=True:=by simp only [eq_iff_iff,iff_true];omega
  have:qI n (a,r,t)=false:=by simp [qI,h1]
  rw [this]
  simp -implicitDefEqProofs (disch:=omega)[qb,h1']
 have h1':(t<1)=False:=by simp only [eq_iff_iff,iff_false];omega
 by_cases h2:t≤1000
 case neg =>
  have h2':(1000<t)=True:=by simp only [eq_iff_iff,iff_true];omega
  have:qI n (a,r,t)=false:=by simp [qI,h2]
  rw [this]
  simp -implicitDefEqProofs (disch:=omega)[qb,h1',h2']
 have h2':(1000<t)=False:=by simp only [eq_iff_iff,iff_false];omega
 simp -implicitDefEqProofs (disch:=omega)[qb,h1',h2']
 by_cases h3:r = -1
 case pos =>
  subst h3
  have:qI n (a,-1,t)=VZ a:=by simp [qI,h1,h2]
  rw [this]
  simp -implicitDefEqProofs (disch:=omega)[qb]
  refine qg rfl hA ?_
  simp -implicitDefEqProofs (disch:=omega)[qb]
 have h3':(r == -1)=false:=by rw [beq_eq_false_iff_ne];exact h3
 have:qI n (a,r,t)=((decide (a=0)&&decide (0≤r))&&decide (r<(n:Int))):=by simp [qI,h1,h2,h3]
 rw [this]
 simp -implicitDefEqProofs (disch:=omega)[qb,h3']
 by_cases h4:a=0
 case neg =>
  have h4':(a==0)=false:=by rw [beq_eq_false_iff_ne];exact h4
  simp -implicitDefEqProofs (disch:=omega)[qb,h4',h4]
 have h4':(a==0)=true:=by rw [beq_iff_eq];exact h4
 by_cases h5:0≤r
 · simp -implicitDefEqProofs (disch:=omega)[qb,h4',h4,h5]
 · simp -implicitDefEqProofs (disch:=omega)[qb,h4',h4,h5]
theorem VT (f g:Bool) (long:List Int) (l:List Pt) (hL:J3 long) (hp:∀ p∈l,qI long.length p=true) (hl:l.length≤1000000):qC Tryz.prog 78 [Ls f long,JG g l] (I (QZ long l)):=by
 refine qT (walk Tryz.func78 qac (by kernel_rfl) (by show 2≤_;decide) ?_)
 simp -implicitDefEqProofs (disch:=omega)[WR,qb]
 refine qO (fun i:Nat=>⟨[(0,Ls f long),(1,JG g l),(5,I (QZ long (l.take i))),(6,I (i:Int))],[]⟩) (fun i=>i≤l.length) (fun i=>l.length - i) 0 (Nat.zero_le _) rfl ?_
 intro i c1
 refine qW fun K0 hK0=>?_
 simp -implicitDefEqProofs (disch:=omega)[qb]
 refine qP (fun hc=>?_) (fun hc=>?_)
 · have hi : i < l.length := by simpa using hc
   have ix:((i:Int)+1)=((i+1:Nat):Int):=by omega
   have hfar:JS=1125899906842624:=rfl
   have hpi:=hp _ (List.getElem_mem hi)
   have st:QZ long (l.take (i+1))=jU long (QZ long (l.take i)) l[i]:=zI hi
   have r0:=Vo hL (l:=l.take i) fun p hq=>hp p (List.mem_of_mem_take hq)
   have m0:=qkq hL hpi
   have tm:=Qd hpi
   generalize hX:QZ long (l.take i)=X at *
   simp -implicitDefEqProofs (disch:=omega)[qb,hi]
   by_cases h0:0≤l[i].2.1
   case' pos =>
    have hr:l[i].2.1.toNat<long.length:=by
     rcases zk hpi with ⟨h,_⟩ | ⟨_,_,h⟩ <;> omega
    have hr2:l[i].2.1<(long.length:Int):=by omega
    have ho:ja long l[i]=long[l[i].2.1.toNat]:=by
     unfold ja;rw [if_pos h0,List.getD_eq_getElem?_getD,List.getElem?_eq_getElem hr];rfl
    simp -implicitDefEqProofs (disch:=omega)[qb,hi,h0,hr,hr2,JH]
    rw [qb (n:=long[l[i].2.1.toNat]*l[i].2.2) (by rw [ho] at m0;omega),qb (by rw [ho] at m0;omega)]
   case' neg =>
    have ho:ja long l[i]=1:=by unfold ja;rw [if_neg h0]
    simp -implicitDefEqProofs (disch:=omega)[qb,hi,h0]
   all_goals
    rw [hK0]
    refine qz (i+1) (by omega) (by omega) ?_
    have st2:QZ long (l.take (i+1))=min JS (X+ja long l[i]*l[i].2.2):=st
    rw [ho] at st2 m0
    simp only [ix,st2]
    try rw [qb (by omega)]
    congr 5
    simp only [I,AV.v.injEq,Value.int.injEq,true_and]
    omega
 · have hi : i = l.length := by simp at hc; omega
   subst hi
   subst hK0
   rw [List.take_length]
   simp -implicitDefEqProofs (disch:=omega)[qb]
theorem qfc (f:Bool) (l:List Bk) (hR:RecV l) (hl:∀ b∈l,b.2.length≤1000000):qC Tryz.prog 72 [qlm f l] (Ls false (qu l)):=by
 have hln:=hR.2
 refine zO (walk Tryz.func72 qbj (by kernel_rfl) (by show 1≤_;decide) ?_)
 simp -implicitDefEqProofs (disch:=omega)[XF,qb]
 refine qO (fun q:Nat × AV × List HObj=>⟨[(0,qlm f l),(3,q.2.1),(4,I (q.1:Int))],q.2.2⟩) (fun q=>q.1≤l.length∧AccG q.2.2 q.2.1 1 q.1 ((qu (l.take q.1)).map fun n=>I n)) (fun q=>l.length - q.1) (0,.sl true 0 [],[]) ⟨Nat.zero_le _,.nil⟩ rfl ?_
 rintro ⟨i,x,H⟩ ⟨c1,c2⟩
 simp only at c1 c2 ⊢
 refine qW fun K0 hK0=>?_
 simp -implicitDefEqProofs (disch:=omega)[qb]
 refine qP (fun hc=>?_) (fun hc=>?_)
 · have hi : i < l.length := by simpa using hc
   have ix:((i:Int)+1)=((i+1:Nat):Int):=by omega
   have st:=QL hi
   have hll:(qu (l.take i)).length=i:=by rw [zy,List.length_take];omega
   have hLO:=jO (hR.take i)
   have hpv:∀ p∈l[i].2,qI (qu (l.take i)).length p=true:=by rw [hll];exact hR.1 i hi
   have tg:=fun f=>VT f false _ l[i].2 hLO hpv (hl _ (List.getElem_mem hi))
   have bd:=Vo hLO hpv
   have hfar:JS=1125899906842624:=rfl
   generalize qu (l.take i)=L at *
   generalize QZ L l[i].2=T at *
   simp -implicitDefEqProofs (disch:=omega)[qb,hi]
   obtain ⟨ids,hp,_⟩:=c2.pur
   have hpa : qE (hpf H) [x,Pts l[i].2] = some ([.sl (decide (i = 0)) i (L.map fun n => I n),Pts l[i].2],ids ++ []) := by
    simp only [qE,hp];rfl
   have hLs:AV.sl (decide (i=0)) i (L.map fun n=>I n)=Ls (decide (i=0)) L:=by show _=AV.sl _ L.length _;rw [hll]
   rw [hLs] at hpa
   refine qg hpa (tg _) ?_
   simp -implicitDefEqProofs (disch:=omega)[qb,AV.scalar]
   refine zq (ys:=[I T]) (ids:=[]) rfl rfl ?_
   simp -implicitDefEqProofs (disch:=omega)[qb,zP]
   refine Q5 (ys:=[I T]) c2 (by omega) (by decide) rfl rfl fun ws w1 w2 w3=>?_
   simp -implicitDefEqProofs (disch:=omega)[qb,zP]
   rw [hK0]
   refine qz (i+1,.ms H.length 0 (i+1) 1,qH H ws) ⟨by simp only;omega,?_⟩ (by simp only;omega) (by simp only [ix])
   rw [st,List.map_append]
   exact w3
 · have hi : i = l.length := by simp at hc; omega
   subst hi
   subst hK0
   rw [List.take_length] at c2
   simp -implicitDefEqProofs (disch:=omega)[qb]
   obtain ⟨ids,hp,_⟩:=c2.pur
   refine qG hp ?_
   show Wk _ (.sl false (qu l).length _)
   rw [zy]
   exact .slf
theorem Ye (f g:Bool) (long:List Int) (l:List Pt) (hL:J3 long):qC Tryz.prog 73 [Ls f long,JG g l] (B (Yx long l)):=by
 refine qT (walk Tryz.func73 Wq (by kernel_rfl) (by show 2≤_;decide) ?_)
 simp -implicitDefEqProofs (disch:=omega)[YV,qb]
 by_cases h64:l.length≤64
 case neg =>
  have h64':(64<(l.length:Int))=True:=by simp only [eq_iff_iff,iff_true];omega
  have:Yx long l=false:=by simp [Yx,h64]
  rw [this]
  simp -implicitDefEqProofs (disch:=omega)[qb,h64']
 have h64':(64<(l.length:Int))=False:=by simp only [eq_iff_iff,iff_false];omega
 simp -implicitDefEqProofs (disch:=omega)[qb,h64']
 refine qO (fun i:Nat=>⟨[(0,Ls f long),(1,JG g l),(5,I (i:Int))],[]⟩) (fun i=>i≤l.length∧(l.take i).all (qI long.length)=true) (fun i=>l.length - i) 0 ⟨Nat.zero_le _,rfl⟩ rfl ?_
 rintro i ⟨c1,c2⟩
 refine qW fun K0 hK0=>?_
 simp -implicitDefEqProofs (disch:=omega)[qb]
 refine qP (fun hc=>?_) (fun hc=>?_)
 · have hi : i < l.length := by simpa using hc
   have ix:((i:Int)+1)=((i+1:Nat):Int):=by omega
   simp -implicitDefEqProofs (disch:=omega)[qb,hi]
   refine qg (ys:=[I (long.length:Int),.agg (ptC l[i])]) (ids:=[]) rfl (qaN _ _) ?_
   cases hb:qI long.length l[i] with
   | false =>
     have:Yx long l=false:=by
      unfold Yx
      have:l.all (qI long.length)=false:=by rw [List.all_eq_false];exact ⟨_,List.getElem_mem hi,by rw [hb];decide⟩
      rw [this];simp
     rw [hK0,this]
     simp -implicitDefEqProofs (disch:=omega)[qb]
   | true =>
     simp -implicitDefEqProofs (disch:=omega)[qb]
     rw [hK0]
     refine qz (i+1) ⟨by omega,?_⟩ (by omega) (by simp only [ix])
     rw [List.take_succ_eq_append_getElem hi,List.all_append,c2]
     simp [hb]
 · have hi : i = l.length := by simp at hc; omega
   subst hi
   subst hK0
   rw [List.take_length] at c2
   have ht:=VT f g long l hL (List.all_eq_true.1 c2) (by omega)
   simp -implicitDefEqProofs (disch:=omega)[qb]
   refine qg rfl ht ?_
   simp -implicitDefEqProofs (disch:=omega)[qb,Yx,h64,c2]
def qhh (d:Dy):Bool:=(decide (0≤d.bath)&&decide (d.bath≤1000))&&(decide (0≤d.laid)&&decide (d.laid≤8))&&(!decide (d.bath=0) || decide (d.pat.length=0))&&decide (d.sh.length≤400)
theorem XZ (d:Dy):Wg d=(qhh d&&jA d.rc&&Yx (qu d.rc) d.pat&&jm (qu d.rc) d.bath d.sh&&decide (d.laid=j6 d.sh d.bath)):=rfl
theorem qbN {d:Dy} (h:qhh d=false):Wh d=2:=by simp [Wh,XZ,h]
theorem qjx {d:Dy} (h:jA d.rc=false):Wh d=2:=by simp [Wh,XZ,h]
theorem qqZ {d:Dy} (h:VC d.rc=false):Wh d=2:=qjx (by simp [jA,h])
theorem qq2 {d : Dy} {i : Nat} (hi : i < d.rc.length) (h : jv (d.rc.take i) d.rc[i] = false) : Wh d = 2 := qqZ (by
 cases hb:VC d.rc with
 | false=>rfl
 | true=>rw [Zp.1 hb i hi] at h;cases h)
theorem qq0 {d:Dy} (h:Yx (qu d.rc) d.pat=false):Wh d=2:=by simp [Wh,XZ,h]
theorem qq1 {d:Dy} (h:jm (qu d.rc) d.bath d.sh=false):Wh d=2:=by simp [Wh,XZ,h]
theorem qq3 {d : Dy} {i : Nat} (hi : i < d.sh.length) (h : zf (qu d.rc) d.bath (d.sh.take i) d.sh[i] = false) : Wh d = 2 := qq1 (by
 cases hb:jm (qu d.rc) d.bath d.sh with
 | false=>rfl
 | true=>rw [ZV.1 hb i hi] at h;cases h)
def zS:AC:=match Qu with
 | .seq _ (.seq _ t)=>t
 | x=>x
def Qz:AC:=match zS with
 | .seq _ t=>t
 | x=>x
def jH:AC:=match Qz with
 | .seq _ (.seq _ (.seq _ t))=>t
 | x=>x
def qe0 (n:Nat) (l:List Sht):List Int:=(List.range n).map fun (b:Nat)=>j6 l (b:Int)
abbrev Wz (l:List Sht):List Int:=qe0 1001 l
theorem qe1 (n:Nat) (l:List Sht):(qe0 n l).length=n:=by simp [qe0]
theorem Yu (l:List Sht):(Wz l).length=1001:=qe1 _ l
theorem qhy {l:List Sht} {b:Int} (h0:0≤b) (h1:b≤1000):(Wz l).getD b.toNat 0=j6 l b:=by
 have hb:b.toNat<(Wz l).length:=by rw [Yu];omega
 rw [List.getD_eq_getElem?_getD,List.getElem?_eq_getElem hb]
 simp only [qe0,List.getElem_map,List.getElem_range,Option.getD_some]
 congr 1;omega
theorem qcu {l:List Sht} {s:Sht} {b:Int}:j6 (l++[s]) b=j6 l b+(if s.bath=b then 1 else 0):=by
 unfold j6
 rw [List.filter_append,List.length_append]
 by_cases h:s.bath=b <;> simp [h]
theorem qmx {l:List Sht} {s:Sht} (h0:0≤s.bath) (h1:s.bath≤1000):(Wz l).set s.bath.toNat (j6 l s.bath+1)=Wz (l++[s]):=by
 refine List.ext_getElem (by rw [List.length_set,Yu,Yu]) fun i hi hi'=>?_
 have hi2:i<1001:=by rw [Yu] at hi';exact hi'
 rw [List.getElem_set]
 simp only [qe0,List.getElem_map,List.getElem_range,qcu]
 by_cases h:s.bath.toNat=i
 · subst h
   rw [if_pos rfl,if_pos (by omega),show ((s.bath.toNat:Nat):Int)=s.bath by omega]
 · rw [if_neg h,if_neg (by omega)];simp
theorem qkd (n:Nat):(qe0 n []).map (fun n=>I n)=zP n [I 0]:=by
 rw [qh3]
 have:qe0 n []=List.replicate n 0:=by
  refine List.ext_getElem (by rw [qe1,List.length_replicate]) fun i hi hi'=>?_
  simp only [qe0,List.getElem_map,List.getElem_replicate]
  rfl
 rw [this,List.map_replicate]
theorem qmw:(Wz []).map (fun n=>I n)=zP 1001 [I 0]:=qkd 1001
theorem qcv (l:List Sht) (b:Int):0≤j6 l b∧j6 l b≤(l.length:Int):=by
 unfold j6
 have:=List.length_filter_le (fun s:Sht=>decide (s.bath=b)) l
 omega
theorem qmy {l:List Sht} {s:Sht}:QH (l++[s])=s.bath:=by simp [QH]
theorem qvH (d : Dy) (hd : DyI d) (hA : qhh d = true) (hR : jA d.rc = true) (hP : Yx (qu d.rc) d.pat = true) (hL : J3 (qu d.rc)) (h4 : d.sh.length ≤ 400) (H : List HObj) (h0 : qr H 0 = some (.cells (dyC d))) :
 AWP Tryz.prog (E1 Tryz.prog) jH ⟨[(1,.ref 0 0),(7,Ls false (qu d.rc))],H⟩ (qfB [2] (Out (I (Wh d)))):=by
 have hbd:0≤d.bath∧d.bath≤1000:=by
  unfold qhh at hA
  simp only [Bool.and_eq_true,decide_eq_true_eq] at hA
  exact hA.1.1.1
 have hss:∀ i (hi:i<d.sh.length),zf (qu d.rc) d.bath (d.sh.take i) d.sh[i]=false→Wh d=2:=fun i hi h=>qq3 hi h
 have hfin : jm (qu d.rc) d.bath d.sh = true → Wh d = if d.laid = j6 d.sh d.bath then 0 else 2 := fun h => by
  simp only [Wh,XZ,hA,hR,hP,h,Bool.and_true,Bool.true_and]
  by_cases e:d.laid=j6 d.sh d.bath <;> simp [e]
 have hdl:=hd.laid
 simp only [i64] at hdl
 generalize hlg:qu d.rc=long at *
 simp -implicitDefEqProofs (disch:=omega)[jH,Qz,zS,Qu,qb]
 refine ⟨1001,rfl,rfl,by decide,by decide,rfl,?_⟩
 have l0:=qj h0
 obtain ⟨A,hAA⟩:∃ A,H.length=A:=⟨_,rfl⟩
 have hA0:0<A:=by omega
 have g0:qr (H++[HObj.cells (zP 1001 [I 0])]) 0=some (.cells (dyC d)):=(qk (by omega)).trans h0
 have gA:qr (H++[HObj.cells (zP 1001 [I 0])]) A=some (.cells (zP 1001 [I 0])):=by rw [←hAA];exact Qn
 simp -implicitDefEqProofs (disch:=omega)[qb]
 rw [hAA]
 generalize H++[HObj.cells (zP 1001 [I 0])]=H1 at *
 refine qO (fun q : Nat × List HObj => ⟨[(1,.ref 0 0),(7,Ls false long),(9,.ms A 0 1001 1),(10,I (QH (d.sh.take q.1))),(11,I (q.1 : Int))],q.2⟩)
  (fun q=>q.1≤d.sh.length∧(∀ j (hj:j<d.sh.length),j<q.1→zf long d.bath (d.sh.take j) d.sh[j]=true)∧qr q.2 0=some (.cells (dyC d))∧qr q.2 A=some (.cells ((Wz (d.sh.take q.1)).map fun n=>I n))∧1≤QH (d.sh.take q.1)) (fun q=>d.sh.length - q.1) (0,H1)
  ⟨Nat.zero_le _,fun j _ h=>by omega,g0,by rw [gA,List.take_zero,qmw],by simp [QH]⟩ rfl ?_
 clear g0 gA h0 l0
 rintro ⟨i,H⟩ ⟨c1,c2,c3,c4,c5⟩
 simp only at c1 c2 c3 c4 c5 ⊢
 refine qW fun K0 hK0=>?_
 simp -implicitDefEqProofs (disch:=omega)[qb,c3,qf,dyC]
 refine qP (fun hc=>?_) (fun hc=>?_)
 · have hi : i < d.sh.length := by simpa using hc
   have ix:((i:Int)+1)=((i+1:Nat):Int):=by omega
   have hI:=hd.sh _ (List.getElem_mem hi)
   simp only [i64] at hI
   have hsk:=hss i hi
   have hst : zf long d.bath (d.sh.take i) d.sh[i] = true → ∀ j (hj : j < d.sh.length),j < i + 1 → zf long d.bath (d.sh.take j) d.sh[j] = true := fun h j hj hlt => by
    by_cases e:j=i
    · subst e;exact h
    · exact c2 j hj (by omega)
   have hpre:(d.sh.take i).length=i:=by rw [List.length_take];omega
   have htk:d.sh.take (i+1)=d.sh.take i++[d.sh[i]]:=List.take_succ_eq_append_getElem hi
   have lA:=qj c4
   have l0:=qj c3
   have hn:=Qn (H:=H) (o:=HObj.cells (shC d.sh[i]))
   have d3:qr (H++[HObj.cells (shC d.sh[i])]) 0=some (.cells (dyC d)):=(qk (by omega)).trans c3
   have d4:qr (H++[HObj.cells (shC d.sh[i])]) A=some (.cells ((Wz (d.sh.take i)).map fun n=>I n)):=(qk (by omega)).trans c4
   have pA:=Ye false false long d.sh[i].pat hL
   simp -implicitDefEqProofs (disch:=omega)[qb,hi,shC,c3,qf,dyC]
   have hbe:zf long d.bath (d.sh.take i) d.sh[i]=((decide (1≤d.sh[i].num)&&decide (d.sh[i].num≤QM))&&(decide (QH (d.sh.take i)≤d.sh[i].bath)&&decide (d.sh[i].bath≤d.bath))&&Yx long d.sh[i].pat&&(decide (d.sh[i].age=j6 (d.sh.take i) d.sh[i].bath)&&decide (d.sh[i].age<8)) && !((d.sh.take i).any fun x=>decide (x.num=d.sh[i].num))):=rfl
   have hmx:QM=1099511627776:=rfl
   have crg:=qcv (d.sh.take i) d.sh[i].bath
   rw [hpre] at crg
   have lset:=qmx (l:=d.sh.take i) (s:=d.sh[i])
   rw [←htk] at lset
   have lget:0≤d.sh[i].bath→d.sh[i].bath≤1000→(Wz (d.sh.take i)).getD d.sh[i].bath.toNat 0=j6 (d.sh.take i) d.sh[i].bath:=qhy
   have llast:QH (d.sh.take (i+1))=d.sh[i].bath:=by rw [htk,qmy]
   have llen:=Yu (d.sh.take i)
   generalize Wz (d.sh.take i)=LD at *
   simp only [shC] at hn d3 d4
   generalize hS:d.sh[i]=s at *
   generalize H++[HObj.cells [I s.num,I s.bath,I s.age,Pts s.pat]]=H1 at *
   generalize H.length=L at *
   by_cases b1:1≤s.num
   case neg =>
    have b1':(s.num<1)=True:=by simp only [eq_iff_iff,iff_true];omega
    rw [hK0,hsk (by rw [hbe];simp [b1])]
    simp -implicitDefEqProofs (disch:=omega)[qb,d3,d4,hn,qf,dyC,zW,zJ,zE,b1']
   have b1':(s.num<1)=False:=by simp only [eq_iff_iff,iff_false];omega
   simp -implicitDefEqProofs (disch:=omega)[qb,d3,d4,hn,qf,dyC,zW,zJ,zE,b1']
   by_cases b2:s.num≤QM
   case neg =>
    have b2':(1099511627776<s.num)=True:=by simp only [eq_iff_iff,iff_true];omega
    rw [hK0,hsk (by rw [hbe];simp [b2])]
    simp -implicitDefEqProofs (disch:=omega)[qb,d3,d4,hn,qf,dyC,zW,zJ,zE,b2']
   have b2':(1099511627776<s.num)=False:=by simp only [eq_iff_iff,iff_false];omega
   simp -implicitDefEqProofs (disch:=omega)[qb,d3,d4,hn,qf,dyC,zW,zJ,zE,b2']
   by_cases b3:QH (d.sh.take i)≤s.bath
   case neg =>
    have b3':(s.bath<QH (d.sh.take i))=True:=by simp only [eq_iff_iff,iff_true];omega
    rw [hK0,hsk (by rw [hbe];simp [b3])]
    simp -implicitDefEqProofs (disch:=omega)[qb,d3,d4,hn,qf,dyC,zW,zJ,zE,b3']
   have b3':(s.bath<QH (d.sh.take i))=False:=by simp only [eq_iff_iff,iff_false];omega
   simp -implicitDefEqProofs (disch:=omega)[qb,d3,d4,hn,qf,dyC,zW,zJ,zE,b3']
   by_cases b4:s.bath≤d.bath
   case neg =>
    have b4':(d.bath<s.bath)=True:=by simp only [eq_iff_iff,iff_true];omega
    rw [hK0,hsk (by rw [hbe];simp [b4])]
    simp -implicitDefEqProofs (disch:=omega)[qb,d3,d4,hn,qf,dyC,zW,zJ,zE,b4']
   have b4':(d.bath<s.bath)=False:=by simp only [eq_iff_iff,iff_false];omega
   simp -implicitDefEqProofs (disch:=omega)[qb,d3,d4,hn,qf,dyC,zW,zJ,zE,b4']
   have gt:=lget (by omega) (by omega)
   have hbl:s.bath.toNat<LD.length:=by rw [llen];omega
   refine qQ rfl pA ?_
   cases b5:Yx long s.pat with
   | false =>
     rw [hK0,hsk (by rw [hbe];simp [b5])]
     simp -implicitDefEqProofs (disch:=omega)[qb,d3,d4,hn,qf,dyC,zW,zJ,zE]
   | true =>
   simp -implicitDefEqProofs (disch:=omega)[qb,d3,d4,hn,qf,dyC,zW,zJ,zE,JH,hbl]
   refine ⟨by omega,?_⟩
   have gt':LD[s.bath.toNat]=j6 (d.sh.take i) s.bath:=by
    rw [List.getD_eq_getElem?_getD,List.getElem?_eq_getElem hbl] at gt;exact gt
   by_cases b6:s.age=j6 (d.sh.take i) s.bath
   case neg =>
    have b6':(s.age != LD[s.bath.toNat])=true:=by rw [bne_iff_ne,gt'];exact b6
    rw [hK0,hsk (by rw [hbe];simp [b6])]
    simp -implicitDefEqProofs (disch:=omega)[qb,d3,d4,hn,qf,dyC,zW,zJ,zE,b6']
   have b6':(s.age != LD[s.bath.toNat])=false:=by rw [gt',b6];exact bne_self_eq_false _
   simp -implicitDefEqProofs (disch:=omega)[qb,d3,d4,hn,qf,dyC,zW,zJ,zE,b6']
   by_cases b7:s.age<8
   case neg =>
    have b7':(8≤s.age)=True:=by simp only [eq_iff_iff,iff_true];omega
    rw [hK0,hsk (by rw [hbe];simp [b7])]
    simp -implicitDefEqProofs (disch:=omega)[qb,d3,d4,hn,qf,dyC,zW,zJ,zE,b7']
   have b7':(8≤s.age)=False:=by simp only [eq_iff_iff,iff_false];omega
   simp -implicitDefEqProofs (disch:=omega)[qb,d3,d4,hn,qf,dyC,zW,zJ,zE,b7']
   refine qO (fun k:Nat=>⟨[(1,.ref 0 0),(7,Ls false long),(9,.ms A 0 1001 1),(11,I (i:Int)),(12,.ref L 0),(13,I (k:Int))],H1⟩) (fun k=>k≤i∧((d.sh.take k).any fun x=>decide (x.num=s.num))=false) (fun k=>i - k) 0 ⟨Nat.zero_le _,rfl⟩ rfl ?_
   rintro k ⟨e1,e2⟩
   refine qW fun K1 hK1=>?_
   simp -implicitDefEqProofs (disch:=omega)[qb]
   refine qP (fun hc=>?_) (fun hc=>?_)
   · have hk : k < i := by simpa using hc
     have hk':k<d.sh.length:=by omega
     have kx:((k:Int)+1)=((k+1:Nat):Int):=by omega
     simp -implicitDefEqProofs (disch:=omega)[qb,d3,hn,qf,dyC,hk',zW,zJ,zE]
     by_cases he:d.sh[k].num=s.num
     · have he' : (d.sh[k].num == s.num) = true := by rw [beq_iff_eq]; exact he
       have:zf long d.bath (d.sh.take i) s=false:=by
        rw [hbe]
        have : ((d.sh.take i).any fun x => decide (x.num = s.num)) = true := by
         rw [List.any_eq_true]
         exact ⟨d.sh[k],List.mem_take_iff_getElem.2 ⟨k,by omega,rfl⟩,by simpa using he⟩
        rw [this];simp
       rw [hK1,hK0,hsk this]
       simp -implicitDefEqProofs (disch:=omega)[qb,he']
     · have he' : (d.sh[k].num == s.num) = false := by rw [beq_eq_false_iff_ne]; exact he
       simp -implicitDefEqProofs (disch:=omega)[qb,he']
       rw [hK1]
       refine qz (k+1) ⟨by omega,?_⟩ (by omega) (by simp only [kx])
       rw [List.take_succ_eq_append_getElem hk',List.any_append,e2]
       simp [he]
   · have hk : k = i := by simp at hc; omega
     subst hk
     subst hK1
     have hbt:zf long d.bath (d.sh.take k) s=true:=by rw [hbe,b5,e2,decide_eq_true b1,decide_eq_true b2,decide_eq_true b3,decide_eq_true b4,decide_eq_true b6,decide_eq_true b7];rfl
     have lA1:=qj d4
     have l01:=qj d3
     have lL1:=qj hn
     have hsp:=qkW (l:=LD) (k:=s.bath.toNat) (v:=j6 (d.sh.take k) s.bath+1) hbl
     rw [lset (by omega) (by omega)] at hsp
     simp only [splice,List.length_singleton,List.append_assoc,List.singleton_append] at hsp
     simp -implicitDefEqProofs (disch:=omega)[qb,hn,d4,qf,JH,hbl,gt',lA1]
     refine ⟨by omega,by omega,?_⟩
     rw [hK0,hsp]
     refine qz (k+1,H1.set A (.cells ((Wz (d.sh.take (k+1))).map fun n=>I n))) ⟨by simp only;omega,hst hbt,(qh (by omega)).trans d3,qi lA1,by rw [llast];omega⟩ (by simp only;omega) ?_
     simp only [ix,llast]
 · have hi : i = d.sh.length := by simp at hc; omega
   subst hi
   subst hK0
   rw [List.take_length] at c4 c5
   have hS:=hfin (ZV.2 fun j hj=>c2 j hj hj)
   have lg:=qhy (l:=d.sh) hbd.1 hbd.2
   have llen:=Yu d.sh
   have hbl:d.bath.toNat<(Wz d.sh).length:=by rw [llen];omega
   rw [hS]
   generalize Wz d.sh=LD at *
   have lg':LD[d.bath.toNat]=j6 d.sh d.bath:=by
    rw [List.getD_eq_getElem?_getD,List.getElem?_eq_getElem hbl] at lg;exact lg
   simp -implicitDefEqProofs (disch:=omega)[qb,c3,c4,qf,dyC,JH,hbl,lg',zW,zJ,zE]
   refine ⟨by omega,?_⟩
   by_cases e:d.laid=j6 d.sh d.bath
   · have e' : (d.laid != j6 d.sh d.bath) = false := by rw [e]; exact bne_self_eq_false _
     simp -implicitDefEqProofs (disch:=omega)[qb,e',e]
   · have e' : (d.laid != j6 d.sh d.bath) = true := by rw [bne_iff_ne]; exact e
     simp -implicitDefEqProofs (disch:=omega)[qb,e',e]
theorem qvG (d : Dy) (hd : DyI d) (hA : qhh d = true) (hB : VC d.rc = true) (h32 : d.rc.length ≤ 32) (h4 : d.sh.length ≤ 400) (H : List HObj) (h0 : qr H 0 = some (.cells (dyC d))) :
 AWP Tryz.prog (E1 Tryz.prog) Qz ⟨[(1,.ref 0 0)],H⟩ (qfB [2] (Out (I (Wh d)))):=by
 have hV:=XM hB (by omega)
 have hLO:=jO hV
 have c3:=fun hR hP=>qvH d hd hA hR hP hLO h4 H h0
 have hpd:=hd.pat.2
 have cL:=qfc false d.rc hV (fun b hb=>by have:=(hd.rc b hb).1.2;omega)
 have cP:=Ye false false (qu d.rc) d.pat hLO
 have hll:=zy d.rc
 have hRR:(qu d.rc).all (fun x=>decide (x≤QM))=false→Wh d=2:=fun h=>qjx (by simp only [jA,h,Bool.and_false])
 have hRT:(qu d.rc).all (fun x=>decide (x≤QM))=true→jA d.rc=true:=fun h=>by simp only [jA,h,hB,Bool.and_true];simp [h32]
 generalize hLg:qu d.rc=long at *
 have hlong:long.length≤1000000:=by omega
 simp -implicitDefEqProofs (disch:=omega)[Qz,zS,Qu,qb,h0,qf,dyC]
 refine qg rfl cL ?_
 simp -implicitDefEqProofs (disch:=omega)[qb]
 refine qO (fun i:Nat=>⟨[(1,.ref 0 0),(7,Ls false long),(8,I (i:Int))],H⟩) (fun i=>i≤long.length∧(long.take i).all (fun x=>decide (x≤QM))=true) (fun i=>long.length - i) 0 ⟨Nat.zero_le _,rfl⟩ rfl ?_
 rintro i ⟨c1,c2⟩
 refine qW fun K0 hK0=>?_
 simp -implicitDefEqProofs (disch:=omega)[qb]
 refine qP (fun hc=>?_) (fun hc=>?_)
 · have hi : i < long.length := by simpa using hc
   have ix:((i:Int)+1)=((i+1:Nat):Int):=by omega
   simp -implicitDefEqProofs (disch:=omega)[qb,hi,JH]
   by_cases hb:long[i]≤1099511627776
   case neg =>
    have hb':(1099511627776<long[i])=True:=by simp only [eq_iff_iff,iff_true];omega
    rw [hRR (by rw [List.all_eq_false];exact ⟨_,List.getElem_mem hi,by simpa using hb⟩)] at *
    rw [hK0]
    simp -implicitDefEqProofs (disch:=omega)[qb,hb']
   have hb':(1099511627776<long[i])=False:=by simp only [eq_iff_iff,iff_false];omega
   simp -implicitDefEqProofs (disch:=omega)[qb,hb']
   rw [hK0]
   refine qz (i+1) ⟨by omega,?_⟩ (by omega) (by simp only [ix])
   rw [List.take_succ_eq_append_getElem hi,List.all_append,c2]
   simp [hb]
 · have hi : i = long.length := by simp at hc; omega
   subst hi
   rw [List.take_length] at c2
   have hR:=hRT c2
   subst hK0
   simp -implicitDefEqProofs (disch:=omega)[qb,h0,qf,dyC]
   refine qg (ys:=[Ls false long,Pts d.pat]) (ids:=[]) rfl cP ?_
   cases hP:Yx long d.pat with
   | false =>
     rw [qq0 (by rw [hLg];exact hP)]
     simp -implicitDefEqProofs (disch:=omega)[qb]
   | true =>
     have c3':=c3 hR hP
     simp -implicitDefEqProofs (disch:=omega)[qb]
     simp -implicitDefEqProofs (disch:=omega)[qb,jH,Qz,zS,Qu] at c3'
     exact c3'
theorem qvF (d : Dy) (hd : DyI d) (hA : qhh d = true) (h32 : d.rc.length ≤ 32) (h4 : d.sh.length ≤ 400) (H : List HObj) (h0 : qr H 0 = some (.cells (dyC d))) :
 AWP Tryz.prog (E1 Tryz.prog) zS ⟨[(1,.ref 0 0)],H⟩ (qfB [2] (Out (I (Wh d)))):=by
 simp -implicitDefEqProofs (disch:=omega)[zS,Qu,qb]
 refine qO (fun q:Nat × List HObj=>⟨[(1,.ref 0 0),(3,I (q.1:Int))],q.2⟩) (fun q=>q.1≤d.rc.length∧(∀ j (hj:j<d.rc.length),j<q.1→jv (d.rc.take j) d.rc[j]=true)∧qr q.2 0=some (.cells (dyC d))) (fun q=>d.rc.length - q.1) (0,H) ⟨Nat.zero_le _,fun j _ h=>by omega,h0⟩ rfl ?_
 rintro ⟨i,H⟩ ⟨c1,c2,c3⟩
 simp only at c1 c2 c3 ⊢
 clear h0
 refine qW fun K0 hK0=>?_
 simp -implicitDefEqProofs (disch:=omega)[qb,c3,qf,dyC]
 refine qP (fun hc=>?_) (fun hc=>?_)
 · have hi : i < d.rc.length := by simpa using hc
   have ix:((i:Int)+1)=((i+1:Nat):Int):=by omega
   have hI:=hd.rc _ (List.getElem_mem hi)
   have hbk:∀ h:jv (d.rc.take i) d.rc[i]=false,Wh d=2:=qq2 hi
   have hbe : jv (d.rc.take i) d.rc[i] = (QW d.rc[i].1 && (decide (1 ≤ d.rc[i].2.length) && decide (d.rc[i].2.length ≤ 8)) && !((d.rc.take i).any fun x => decide (x.1 = d.rc[i].1)) && d.rc[i].2.all (qI i)) := by
    unfold jv;rw [List.length_take,Nat.min_eq_left (by omega)]
   have hst : jv (d.rc.take i) d.rc[i] = true → ∀ j (hj : j < d.rc.length),j < i + 1 → jv (d.rc.take j) d.rc[j] = true := fun h j hj hlt => by
    by_cases e:j=i
    · subst e;exact h
    · exact c2 j hj (by omega)
   have l0:=qj c3
   have hn:=Qn (H:=H) (o:=HObj.cells (bkC d.rc[i]))
   have d3:qr (H++[HObj.cells (bkC d.rc[i])]) 0=some (.cells (dyC d)):=(qk (by omega)).trans c3
   simp -implicitDefEqProofs (disch:=omega)[qb,hi,bkC,c3,qf,dyC]
   simp only [bkC] at hn d3
   generalize H++[HObj.cells [S d.rc[i].1,Pts d.rc[i].2]]=H1 at *
   generalize H.length=L at *
   try simp -implicitDefEqProofs (disch:=omega)[qb,hn,qf]
   refine qg rfl (qgu d.rc[i].1 (by omega)) ?_
   have hq:∀ b:Bool,jv (d.rc.take i) d.rc[i]=b→(b=false→Wh d=2):=fun b e h=>hbk (by rw [e,h])
   generalize hname:d.rc[i].1=nm at *
   generalize hparts:d.rc[i].2=ps at *
   cases hn1:QW nm with
   | false =>
     rw [hK0,hbk (by rw [hbe,hn1];simp)]
     simp -implicitDefEqProofs (disch:=omega)[qb]
   | true =>
   by_cases h1:1≤ps.length
   case neg =>
    have h1':((ps.length:Int)<1)=True:=by simp only [eq_iff_iff,iff_true];omega
    rw [hK0,hbk (by rw [hbe];simp [h1])]
    simp -implicitDefEqProofs (disch:=omega)[qb,hn,qf,h1']
   have h1':((ps.length:Int)<1)=False:=by simp only [eq_iff_iff,iff_false];omega
   by_cases h8:ps.length≤8
   case neg =>
    have h8':(8<(ps.length:Int))=True:=by simp only [eq_iff_iff,iff_true];omega
    rw [hK0,hbk (by rw [hbe];simp [h8])]
    simp -implicitDefEqProofs (disch:=omega)[qb,hn,qf,h1',h8']
   have h8':(8<(ps.length:Int))=False:=by simp only [eq_iff_iff,iff_false];omega
   simp -implicitDefEqProofs (disch:=omega)[qb,hn,qf,h1',h8']
   refine qO (fun k:Nat=>⟨[(1,.ref 0 0),(3,I (i:Int)),(4,.ref L 0),(5,I (k:Int))],H1⟩) (fun k=>k≤i∧((d.rc.take k).any fun x=>decide (x.1=nm))=false) (fun k=>i - k) 0 ⟨Nat.zero_le _,rfl⟩ rfl ?_
   rintro k ⟨e1,e2⟩
   refine qW fun K1 hK1=>?_
   simp -implicitDefEqProofs (disch:=omega)[qb]
   refine qP (fun hc=>?_) (fun hc=>?_)
   · have hk : k < i := by simpa using hc
     have hk':k<d.rc.length:=by omega
     have kx:((k:Int)+1)=((k+1:Nat):Int):=by omega
     simp -implicitDefEqProofs (disch:=omega)[qb,d3,hn,qf,dyC,hk',zW,zJ,zE]
     by_cases he:d.rc[k].1=nm
     · have he' : (d.rc[k].1 == nm) = true := by rw [beq_iff_eq]; exact he
       have:jv (d.rc.take i) d.rc[i]=false:=by
        rw [hbe]
        have : ((d.rc.take i).any fun x => decide (x.1 = nm)) = true := by
         rw [List.any_eq_true]
         exact ⟨d.rc[k],List.mem_take_iff_getElem.2 ⟨k,by omega,rfl⟩,by simpa using he⟩
        rw [this];simp
       rw [hK1,hK0,hbk this]
       simp -implicitDefEqProofs (disch:=omega)[qb,he']
     · have he' : (d.rc[k].1 == nm) = false := by rw [beq_eq_false_iff_ne]; exact he
       simp -implicitDefEqProofs (disch:=omega)[qb,he']
       rw [hK1]
       refine qz (k+1) ⟨by omega,?_⟩ (by omega) (by simp only [kx])
       rw [List.take_succ_eq_append_getElem hk',List.any_append,e2]
       simp [he]
   · have hk : k = i := by simp at hc; omega
     subst hk
     subst hK1
     simp -implicitDefEqProofs (disch:=omega)[qb,hn,qf]
     refine qO (fun q:Nat=>⟨[(1,.ref 0 0),(3,I (k:Int)),(4,.ref L 0),(6,I (q:Int))],H1⟩) (fun q=>q≤ps.length∧(ps.take q).all (qI k)=true) (fun q=>ps.length - q) 0 ⟨Nat.zero_le _,rfl⟩ rfl ?_
     rintro q ⟨f1,f2⟩
     refine qW fun K2 hK2=>?_
     simp -implicitDefEqProofs (disch:=omega)[qb,hn,qf]
     refine qP (fun hc=>?_) (fun hc=>?_)
     · have hq : q < ps.length := by simpa using hc
       have qx:((q:Int)+1)=((q+1:Nat):Int):=by omega
       simp -implicitDefEqProofs (disch:=omega)[qb,hn,qf,hq]
       refine qg (ys:=[I (k:Int),.agg (ptC ps[q])]) (ids:=[]) rfl (qaN _ _) ?_
       cases hb:qI k ps[q] with
       | false =>
         have:jv (d.rc.take k) d.rc[k]=false:=by
          rw [hbe]
          have:ps.all (qI k)=false:=by rw [List.all_eq_false];exact ⟨_,List.getElem_mem hq,by rw [hb];decide⟩
          rw [this];simp
         rw [hK2,hK0,hbk this]
         simp -implicitDefEqProofs (disch:=omega)[qb]
       | true =>
         simp -implicitDefEqProofs (disch:=omega)[qb]
         rw [hK2]
         refine qz (q+1) ⟨by omega,?_⟩ (by omega) (by simp only [qx])
         rw [List.take_succ_eq_append_getElem hq,List.all_append,f2]
         simp [hb]
     · have hq : q = ps.length := by simp at hc; omega
       subst hq
       subst hK2
       rw [List.take_length] at f2
       simp -implicitDefEqProofs (disch:=omega)[qb]
       rw [hK0]
       have hbt:jv (d.rc.take k) d.rc[k]=true:=by rw [hbe,hn1,e2,f2];simp [h1,h8]
       exact qz (k+1,H1) ⟨by simp only;omega,hst hbt,d3⟩ (by simp only;omega) (by simp only [ix])
 · have hi : i = d.rc.length := by simp at hc; omega
   subst hi
   subst hK0
   have hB:VC d.rc=true:=Zp.2 fun j hj=>c2 j hj hj
   have t:=qvG d hd hA hB h32 h4 H c3
   simp -implicitDefEqProofs (disch:=omega)[qb,c3,qf,dyC]
   simp -implicitDefEqProofs (disch:=omega)[qb,c3,qf,dyC,Qz,zS,Qu] at t
   exact t
theorem qdl (d:Dy) (hd:DyI d):qC Tryz.prog 34 [DyV d] (I (Wh d)):=by
 obtain ⟨dr,drl,db,dl,dp,ds,dsl⟩:=hd
 simp only [i64] at db dl
 refine qT (walk Tryz.func34 qab (by kernel_rfl) (by show 1≤_;decide) ?_)
 simp -implicitDefEqProofs (disch:=omega)[Qu,qb,dyC]
 by_cases a1:d.rc.length≤32
 case neg =>
  have a1':(32<(d.rc.length:Int))=True:=by simp only [eq_iff_iff,iff_true];omega
  rw [qjx (by simp [jA,a1])]
  simp -implicitDefEqProofs (disch:=omega)[qb,a1']
 have a1':(32<(d.rc.length:Int))=False:=by simp only [eq_iff_iff,iff_false];omega
 simp -implicitDefEqProofs (disch:=omega)[qb,a1']
 by_cases a2:0≤d.bath
 case neg =>
  have a2':(d.bath<0)=True:=by simp only [eq_iff_iff,iff_true];omega
  rw [qbN (by simp [qhh,a2])]
  simp -implicitDefEqProofs (disch:=omega)[qb,a2']
 have a2':(d.bath<0)=False:=by simp only [eq_iff_iff,iff_false];omega
 simp -implicitDefEqProofs (disch:=omega)[qb,a2']
 by_cases a3:d.bath≤1000
 case neg =>
  have a3':(1000<d.bath)=True:=by simp only [eq_iff_iff,iff_true];omega
  rw [qbN (by simp [qhh,a3])]
  simp -implicitDefEqProofs (disch:=omega)[qb,a3']
 have a3':(1000<d.bath)=False:=by simp only [eq_iff_iff,iff_false];omega
 simp -implicitDefEqProofs (disch:=omega)[qb,a3']
 by_cases a4:0≤d.laid
 case neg =>
  have a4':(d.laid<0)=True:=by simp only [eq_iff_iff,iff_true];omega
  rw [qbN (by simp [qhh,a4])]
  simp -implicitDefEqProofs (disch:=omega)[qb,a4']
 have a4':(d.laid<0)=False:=by simp only [eq_iff_iff,iff_false];omega
 simp -implicitDefEqProofs (disch:=omega)[qb,a4']
 by_cases a5:d.laid≤8
 case neg =>
  have a5':(8<d.laid)=True:=by simp only [eq_iff_iff,iff_true];omega
  rw [qbN (by simp [qhh,a5])]
  simp -implicitDefEqProofs (disch:=omega)[qb,a5']
 have a5':(8<d.laid)=False:=by simp only [eq_iff_iff,iff_false];omega
 simp -implicitDefEqProofs (disch:=omega)[qb,a5']
 by_cases a6:d.bath=0
 case' pos =>
  have a6':(d.bath==0)=true:=by rw [beq_iff_eq];exact a6
  simp -implicitDefEqProofs (disch:=omega)[qb,a6']
  by_cases a7:d.pat.length=0
  case neg =>
   have a7':(0<(d.pat.length:Int))=True:=by simp only [eq_iff_iff,iff_true];omega
   have a7'':(0<d.pat.length)=True:=by simp only [eq_iff_iff,iff_true];omega
   have a7s:d.pat≠[]:=fun e=>a7 (by rw [e];rfl)
   rw [qbN (by simp [qhh,a6,a7s])]
   simp -implicitDefEqProofs (disch:=omega)[qb,a7',a7'']
  have a7':(0<(d.pat.length:Int))=False:=by simp only [eq_iff_iff,iff_false];omega
  have a7'':(0<d.pat.length)=False:=by simp only [eq_iff_iff,iff_false];omega
  have a67:(!decide (d.bath=0) || decide (d.pat.length=0))=true:=by rw [decide_eq_true a7];simp
  simp -implicitDefEqProofs (disch:=omega)[qb,a7',a7'']
 case' neg =>
  have a6':(d.bath==0)=false:=by rw [beq_eq_false_iff_ne];exact a6
  have a67:(!decide (d.bath=0) || decide (d.pat.length=0))=true:=by rw [decide_eq_false a6];simp
  simp -implicitDefEqProofs (disch:=omega)[qb,a6']
 all_goals
  by_cases a8:d.sh.length≤400
  case neg =>
   have a8':(400<(d.sh.length:Int))=True:=by simp only [eq_iff_iff,iff_true];omega
   rw [qbN (by simp [qhh,a8])]
   simp -implicitDefEqProofs (disch:=omega)[qb,a8']
  have a8':(400<(d.sh.length:Int))=False:=by simp only [eq_iff_iff,iff_false];omega
  have hA:qhh d=true:=by unfold qhh;rw [a67];simp [a2,a3,a4,a5,a8]
  have t:=qvF d ⟨dr,drl,db,dl,dp,ds,dsl⟩ hA (by omega) a8 [.cells (dyC d)] rfl
  simp -implicitDefEqProofs (disch:=omega)[qb,a8']
  simp -implicitDefEqProofs (disch:=omega)[qb,zS,Qu,dyC] at t
  exact t
theorem qkA {hp:List HObj} {id n sz:Nat} {cs:List AV} (h2:qr hp id=some (.cells cs)) (h3:cs.length=n*sz) (h4:(cs.all AV.isPC)=true):ze (hpf hp) (.ms id 0 n sz)=some (.sl false n cs,[id]):=by
 simp only [ze,zh,h2]
 rw [if_pos ⟨by omega,Xv h4⟩]
 simp only [zT,List.drop_zero]
 rw [List.take_of_length_le (by omega)]
theorem qgt {hp:List HObj} {id n sz:Nat} {cs:List AV} (h2:qr hp id=some (.cells cs)) (h3:cs.length=n*sz) (h4:(cs.all AV.isPC)=true):qU (hpf hp) (.ms id 0 n sz)=some (.sl false n cs,[id]):=by
 simp only [qU,zu];exact qkA h2 h3 h4
structure PcJ (c:UInt8) (s:List UInt8) (i fr:Nat) (acc:List (List UInt8)):Prop where
 le:fr≤i
 li:i≤s.length
 no:∀ b∈(s.drop fr).take (i - fr),b≠c
 sp:qM c s=acc++qM c (s.drop fr)
 ln:acc.length≤fr
theorem PcJ.zero (c:UInt8) (s:List UInt8):PcJ c s 0 0 []:=⟨Nat.le_refl _,Nat.zero_le _,by simp,by simp,by simp⟩
theorem PcJ.step {c s i fr acc} (h:PcJ c s i fr acc) (hi:i<s.length) (hb:s[i]≠c):PcJ c s (i+1) fr acc :=
 ⟨by have := h.le; omega,hi,fun b hm => by
  rw [qhW h.le hi,List.mem_append] at hm
  rcases hm with hm | hm
  · exact h.no b hm
  · simp at hm;rw [hm];exact hb,h.sp,h.ln⟩
theorem PcJ.last {c s fr acc} (h:PcJ c s s.length fr acc):acc=(qM c s).dropLast:=by
 have e:(s.drop fr).take (s.length - fr)=s.drop fr:=List.take_of_length_le (by simp)
 have h1:=h.no
 rw [e] at h1
 rw [h.sp,YD h1]
 simp
abbrev z0:List AV:=[.sl true 0 [],I 0,I 0,.sl true 0 [],.sl true 0 []]
def DaysG (H:List HObj) (x:AV) (ds:List Dy):Prop :=
 (x = .sl true 1 z0∧ds=[])∨∃ id,x = .ms id 0 (ds.length+1) 5∧qr H id=some (.cells (z0++fl dyC ds))∧1≤id
theorem DaysG.mono {hp H x ds} (h:DaysG hp x ds) (hk:∀ i,rid x=some i→qr H i=qr hp i):DaysG H x ds:=by
 rcases h with h | ⟨id,rfl,h1,h2⟩
 · exact .inl h
 · exact .inr ⟨id,rfl,(hk id rfl).trans h1,h2⟩
theorem DaysG.lt {hp x ds i} (h:DaysG hp x ds) (hi:rid x=some i):i<hp.length∧1≤i:=by
 rcases h with ⟨rfl,_⟩ | ⟨id,rfl,h2,h3⟩
 · cases hi
 · cases hi;exact ⟨qj h2,h3⟩
theorem qlf:WkL z0 (dyC dy0) := .cons .slf (.cons (.refl _) (.cons (.refl _) (.cons .slf (.cons .slf .nil))))
theorem qso {sz id n h:Nat} {j:Int} {K:AV→List (Nat × HObj)→Prop} (hj:j=h) (h2:h≤n) (k:K (.ms id 0 h sz) []):qnr sz (.ms id 0 n sz) none (some (I j)) none K :=
 ⟨_,_,⟨0,h,rfl,by rw [hj],Nat.zero_le _,h2,rfl,trivial,rfl,rfl⟩,by simpa using k⟩
structure PlM (H:List HObj) (x8 x9 x11:AV) (ds:List Dy) (kept:List (List UInt8)) (errs:List Int):Prop where
 c0:qr H 0=some (.cells z0)
 c8:DaysG H x8 ds
 c9:AccG H x9 1 kept.length (fl WJ kept)
 c11:AccG H x11 1 errs.length (fl qjb errs)
 r9:∀ j,rid x9=some j→1≤j
 r11:∀ j,rid x11=some j→1≤j∧rid x8≠some j∧rid x9≠some j
 r8:∀ j,rid x8=some j→rid x9≠some j
theorem PlM.zero:PlM [.cells z0] (.sl true 1 z0) (.sl true 0 []) (.sl true 0 []) [] [] []:=⟨rfl,.inl ⟨rfl,rfl⟩,.nil,.nil,by simp [rid],by simp [rid],by simp [rid]⟩
theorem PlM.mono {H H' x8 x9 x11 ds kept errs} (h:PlM H x8 x9 x11 ds kept errs) (hk:∀ i,i<H.length→qr H' i=qr H i):PlM H' x8 x9 x11 ds kept errs :=
 ⟨(hk 0 (qj h.c0)).trans h.c0,h.c8.mono fun i hi=>hk i (h.c8.lt hi).1,h.c9.mono fun i hi=>hk i (h.c9.lt hi),h.c11.mono fun i hi=>hk i (h.c11.lt hi),h.r9,h.r11,h.r8⟩
theorem PlM.push {H o x8 x9 x11 ds kept errs} (h:PlM H x8 x9 x11 ds kept errs):PlM (H++[o]) x8 x9 x11 ds kept errs:=h.mono fun i hi=>qk hi
theorem PlM.err {H x8 x9 x11 ds kept errs vs} {e : Int} (h : PlM H x8 x9 x11 ds kept errs) (w1 : ∀ i,i < H.length → rid x11 ≠ some i → qr (qH H vs) i = qr H i) (w3 : AccG (qH H vs) (.ms H.length 0 (errs.length + 1) 1) 1 (errs.length + 1) (fl qjb errs ++ [I e])) :
 PlM (qH H vs) x8 x9 (.ms H.length 0 (errs.length+1) 1) ds kept (errs++[e]):=by
 have l0:=qj h.c0
 refine ⟨(w1 0 l0 fun e=>by have:=(h.r11 0 e).1;omega).trans h.c0,h.c8.mono fun i hi=>w1 i (h.c8.lt hi).1 fun e=>(h.r11 i e).2.1 hi,h.c9.mono fun i hi=>w1 i (h.c9.lt hi) fun e=>(h.r11 i e).2.2 hi,?_,h.r9,fun j hj=>?_,h.r8⟩
 · rw [List.length_append,jr];exact w3
 · simp only [rid] at hj
   injection hj with hj
   subst hj
   exact ⟨by omega,fun e=>by have:=(h.c8.lt e).1;omega,fun e=>by have:=h.c9.lt e;omega⟩
theorem PlM.day {H x8 x9 x11 ds kept errs} {ds' : List Dy} {d' : Dy} {DC : List AV} {n : Nat} (h : PlM H x8 x9 x11 ds kept errs) (hD : z0 ++ fl dyC ds' = DC) (hn : ds'.length = n) :
 PlM (H++[.gone,.cells (DC++dyC d')]) (.ms (H.length+1) 0 (n+1+1) 5) x9 x11 (ds'++[d']) kept errs:=by
 have k:∀ i,i<H.length→qr (H++[.gone,.cells (DC++dyC d')]) i=qr H i:=fun i hi=>qk hi
 refine ⟨(k 0 (qj h.c0)).trans h.c0,.inr ⟨H.length+1,by rw [List.length_append,hn];rfl,?_,by omega⟩,h.c9.mono fun i hi=>k i (h.c9.lt hi),h.c11.mono fun i hi=>k i (h.c11.lt hi),h.r9,fun j hj=>⟨(h.r11 j hj).1,fun e=>?_,(h.r11 j hj).2.2⟩,fun j hj e=>?_⟩
 · rw [zH,List.getElem?_append_right (by omega),jr,← List.append_assoc,hD]
   simp [Qi,YY]
 · have := h.c11.lt hj
   simp only [rid] at e;injection e;omega
 · have := h.c9.lt e
   simp only [rid] at hj;injection hj;omega
theorem PlM.keep {H x8 x9 x11 ds kept errs} {K : List (List UInt8)} {n : Nat} (h : PlM H x8 x9 x11 ds kept errs) (hn : K.length = n) (h0 : 0 < n) :
 PlM (H++[.gone,.cells (fl WJ K)]) x8 (.ms (H.length+1) 0 n 1) x11 ds K errs:=by
 have k:∀ i,i<H.length→qr (H++[.gone,.cells (fl WJ K)]) i=qr H i:=fun i hi=>qk hi
 refine ⟨(k 0 (qj h.c0)).trans h.c0,h.c8.mono fun i hi=>k i (h.c8.lt hi).1,.inr ⟨H.length+1,by rw [hn],by omega,?_,by rw [qdD,Nat.mul_one],Xa qp3 _⟩,h.c11.mono fun i hi=>k i (h.c11.lt hi),fun j hj=>?_,fun j hj=>⟨(h.r11 j hj).1,(h.r11 j hj).2.1,fun e=>?_⟩,fun j hj e=>?_⟩
 · rw [zH,List.getElem?_append_right (by omega)]
   simp
 · simp only [rid] at hj;injection hj;omega
 · have := h.c11.lt hj
   simp only [rid] at e;injection e;omega
 · have := (h.c8.lt hj).1
   simp only [rid] at e;injection e;omega
theorem AccG.pur1 {hp x sz n cs} (h:AccG hp x sz n cs):∃ ids,zu (hpf hp) x=some (.sl (decide (n=0)) n cs,ids):=by
 obtain ⟨ids,h1,_⟩:=h.pur
 rcases h with ⟨rfl,_,_⟩ | ⟨id,rfl,_⟩
 · exact ⟨ids,h1⟩
 · exact ⟨ids,h1⟩
abbrev qqH (l:List Int):AV := .sl false l.length (fl qjb l)
theorem qcb {a sz b c : Nat} {fr : List (Nat × AV)} {hp : List HObj} {id off : Nat} {cs : List AV} {K : AV → List HObj → Prop} (h1 : get fr a = .ref id off) (h2 : qr hp id = some (.cells cs)) (h3 : off + sz ≤ cs.length) (k : K (.tup [.agg (zT cs off sz),get fr b,get fr c]) hp) :
 qh5 [(a,some (true,sz)),(b,none),(c,none)] K .ret ⟨fr,hp⟩:=by
 refine ⟨[.agg (zT cs off sz),get fr b,get fr c],⟨?_,rfl,rfl,trivial⟩,k⟩
 simp only [WH,h1,zh,h2]
 exact ⟨trivial,h3,trivial⟩
def Jw (l:List (List UInt8)):List UInt8:=l.flatMap fun s=>s++[10]
theorem qgi {l:List (List UInt8)} {i:Nat} (h:i<l.length):Jw (l.take (i+1))=Jw (l.take i)++(l[i]++[10]):=by
 unfold Jw
 rw [List.take_succ_eq_append_getElem h,List.flatMap_append]
 simp
theorem qiB {l:List (List UInt8)} {n:Nat} (h:∀ w∈l,w.length≤n):(Jw l).length≤l.length*(n+1):=by
 induction l with
 | nil=>simp [Jw]
 | cons a l ih =>
   have h1:=h a (by simp)
   have h2:=ih fun w hw=>h w (by simp [hw])
   have e:(Jw (a::l)).length=a.length+1+(Jw l).length:=by unfold Jw;rw [List.flatMap_cons,List.length_append];simp
   rw [e,List.length_cons,Nat.add_mul];omega
theorem qkw {l:List (List UInt8)}:∀ i,i≤l.length→∀ w∈(jQ (l.take i)).kept,w∈l:=by
 intro i
 induction i with
 | zero=>intro _ w hw;simp [jQ,pl0] at hw
 | succ i ih =>
   intro h w hw
   have ih:=ih (by omega)
   rw [Yy (by omega)] at hw
   generalize jQ (l.take i)=q at *
   unfold Ql at hw
   split at hw
   · exact ih w hw
   · split at hw
     · exact ih w hw
     · split at hw
       · exact ih w hw
       · split at hw
         · exact ih w hw
         · split at hw
           · rcases List.mem_append.1 hw with hw | hw
             · exact ih w (List.mem_of_mem_take hw)
             · rw [List.mem_singleton] at hw;rw [hw];exact List.getElem_mem _
           · exact ih w hw
theorem qkv (s:List UInt8):(qaH s).length≤400∧∀ w∈qaH s,w.length≤s.length:=by
 unfold qaH
 split
 · obtain ⟨h1,h2⟩ := qgh (s := s)
   have V:=qdg h1 _ (Nat.le_refl _)
   have m:=qkw (l:=qaw s) _ (Nat.le_refl _)
   rw [List.take_length] at V m
   have:=V.kept
   have:=V.len
   exact ⟨by rw [List.length_take];omega,fun w hw=>h2 w (m w (List.mem_of_mem_take hw))⟩
 · exact ⟨by simp,by simp⟩
def qgg (s:List UInt8):Bool:=s.all YN&&(decide (1≤s.length)&&decide (s.length≤8))
abbrev zQ (f:Bool) (l:List UInt8):AV := .sl f l.length (qw l)
def ZJ (n:Nat):List UInt8:=if n<128 then [UInt8.ofNat n] else UInt8.ofNat (128+n % 128)::ZJ (n / 128)
termination_by n
theorem qdj {n:Nat} (h:n<128):ZJ n=[UInt8.ofNat n]:=by unfold ZJ;rw [if_pos h]
theorem qfa {n:Nat} (h:¬ n<128):ZJ n=UInt8.ofNat (128+n % 128)::ZJ (n / 128):=by conv=>lhs;unfold ZJ;rw [if_neg h]
theorem qmY:∀ (k n:Nat),n<128 ^ (k+1)→1≤(ZJ n).length∧(ZJ n).length≤k+1:=by
 intro k
 induction k with
 | zero=>intro n h;rw [qdj (by simpa using h)];simp
 | succ k ih =>
   intro n h
   by_cases h1:n<128
   · rw [qdj h1];simp
   · rw [qfa h1]
     have:=ih (n / 128) (by rw [Nat.div_lt_iff_lt_mul (by decide)];rw [Nat.pow_succ] at h;exact h)
     simp only [List.length_cons];omega
theorem zD {n:Nat} (h:n≤9223372036854775807):1≤(ZJ n).length∧(ZJ n).length≤9:=by
 have e:128 ^ (8+1)=9223372036854775808:=by decide
 exact qmY 8 n (by omega)
theorem qnR {n:Nat} (h:n≤255):((UInt8.ofNat n).toNat:Int)=n:=by
 have:=qnf (c:=n) (by omega) (by omega)
 simpa using this
def W8 (p:Pt):Nat:=if 0≤p.2.1 then 26+p.2.1.toNat else (p.1 - 97).toNat
def JV (l:List Pt):List UInt8:=l.flatMap fun p=>ZJ (W8 p)++ZJ p.2.2.toNat
def qbp (l:List Pt):List UInt8:=ZJ l.length++JV l
theorem qiN {l:List Pt} {i:Nat} (h:i<l.length):JV (l.take (i+1))=JV (l.take i)++(ZJ (W8 l[i])++ZJ l[i].2.2.toNat):=by
 unfold JV
 rw [List.take_succ_eq_append_getElem h,List.flatMap_append];simp
def qgF (l:List UInt8):Nat:=(l.foldl (fun n b=>n+b.toNat) 0) % 256
def qtr (l:List UInt8):Nat:=l.foldl (fun n b=>n+b.toNat) 0
theorem qk2 {l:List UInt8} {i:Nat} (h:i<l.length):qtr (l.take (i+1))=qtr (l.take i)+l[i].toNat:=zI h
theorem qvw {l:List UInt8} {i:Nat} (h:i<l.length):YO (qw l) i=some (U (l[i].toNat:Int)):=by rw [Jl,qbJ h]
theorem qdL (n:Int):IntKind.u8.wrap n=n % 256:=by
 simp only [IntKind.wrap,IntKind.bits,IntKind.signed]
 simp
def AccB (H:List HObj) (x:AV) (l:List UInt8):Prop:=x=zQ true l∨∃ id,x = .ms id 0 l.length 1∧qr H id=some (.cells (qw l))
theorem AccB.mono {hp H x l} (h:AccB hp x l) (hk:∀ i,rid x=some i→qr H i=qr hp i):AccB H x l:=by
 rcases h with h | ⟨id,rfl,h1⟩
 · exact .inl h
 · exact .inr ⟨id,rfl,(hk id rfl).trans h1⟩
theorem AccB.lt {hp x l i} (h:AccB hp x l) (hi:rid x=some i):i<hp.length:=by
 rcases h with rfl | ⟨id,rfl,h2⟩
 · cases hi
 · cases hi;exact qj h2
theorem AccB.lenW {hp x l} {K:AV→List (Nat × HObj)→Prop} (h:AccB hp x l):qnn x K=K (I l.length) []:=by
 rcases h with rfl | ⟨id,rfl,_⟩ <;> rfl
theorem AccB.pur {hp x l} (h:AccB hp x l):∃ f ids,zu (hpf hp) x=some (zQ f l,ids):=by
 rcases h with rfl | ⟨id,rfl,h2⟩
 · exact ⟨true,[],rfl⟩
 · exact ⟨false,[id],qkA (n:=l.length) (sz:=1) h2 (by rw [qZ,Nat.mul_one]) (Jp _)⟩
theorem Xn {hp : List HObj} {x : AV} {l m : List UInt8} {g : Bool} {n : Nat} {K : AV → List (Nat × HObj) → Prop} (h : AccB hp x l) (hl : l.length ≤ 100000000) (hm : m.length ≤ 100000000) (h0 : 0 < m.length) (hn : n = m.length)
 (hK:∀ y ws,(∀ i,i<hp.length→rid x≠some i→qr (qH hp ws) i=qr hp i)→hp.length<(qH hp ws).length→AccB (qH hp ws) y (l++m)→rid y=some hp.length→K y ws) :
 qnk hp 1 1 x (.sl g n (qw m)) K:=by
 subst hn
 have hK:=fun ws h1 h2 h3=>hK (.ms hp.length 0 (l.length+m.length) 1) ws h1 h2 h3 rfl
 have e:l.length+m.length=(l++m).length:=by simp
 rcases h with rfl | ⟨id,rfl,h2⟩
 · rw [qee]
   have hn:qr (qH hp [(hp.length,HObj.cells (qw l++qw m))]) hp.length=some (.cells (qw l++qw m)):=by
    rw [zt (by simp)];simp [Hp.write,Hp.set_same]
   refine ⟨⟨rfl,by rw [qZ];omega,Jp _,by rw [qZ];omega,by omega,by omega,.inr h0⟩,hK _ (fun i hi _=>?_) (qj hn) (.inr ⟨hp.length,by rw [e],by rw [hn,V5]⟩)⟩
   rw [zt (by simp),zH];simp only [Hp.write];rw [Hp.set_other _ _ (by omega)];rfl
 · have hlt := qj h2
   rw [qed,h2,J4]
   have hv:zT (qw l) 0 (l.length*1)=qw l:=by simp only [zT,List.drop_zero];rw [List.take_of_length_le (by rw [qZ];omega)]
   rw [hv]
   have hn:qr (qH hp [(id,HObj.gone),(hp.length,HObj.cells (qw l++qw m))]) hp.length=some (.cells (qw l++qw m)):=by
    rw [zt (by simp;omega)]
    simp only [Hp.write,Hp.set_same]
   refine ⟨⟨by rw [qZ];omega,Jp _,rfl,by rw [qZ];omega,by omega,by omega⟩,hK _ (fun i hi hr=>?_) (qj hn) (.inr ⟨hp.length,by rw [e],by rw [hn,V5]⟩)⟩
   rw [zt (by simp;omega),zH];simp only [Hp.write]
   rw [Hp.set_other _ _ (by omega),Hp.set_other _ _ (fun e=>hr (by rw [e];rfl))];rfl
def qi8 (p:Pt):Prop:=(97≤p.1∧p.1≤255∧p.2.1<0∨0≤p.2.1∧0≤p.1∧p.1≤255∧p.2.1≤1000000)∧0≤p.2.2∧p.2.2≤1000000
theorem qfb {l:List Pt} (h:∀ p∈l,qi8 p):(JV l).length≤l.length*18:=by
 induction l with
 | nil=>simp [JV]
 | cons p l ih =>
   have h1:=h p (by simp)
   have h2:=ih fun q hq=>h q (by simp [hq])
   have e:(JV (p::l)).length=(ZJ (W8 p)).length+(ZJ p.2.2.toNat).length+(JV l).length:=by unfold JV;rw [List.flatMap_cons,List.length_append,List.length_append]
   have c1:=zD (n:=W8 p) (by unfold qi8 at h1;unfold W8;split <;> omega)
   have c2:=zD (n:=p.2.2.toNat) (by unfold qi8 at h1;omega)
   rw [e,List.length_cons,Nat.add_mul];omega
end Go.AM

namespace Go.AM
open Go.RowKit
def qhk (b:Bk):List UInt8:=ZJ b.1.length++b.1++qbp b.2
def qij (s:Sht):List UInt8:=ZJ s.num.toNat++ZJ s.bath.toNat++ZJ s.age.toNat++qbp s.pat
def qrz (l:List Bk):List UInt8:=ZJ l.length++l.flatMap qhk
def qbQ (d:Dy):List UInt8:=qrz d.rc++ZJ d.bath.toNat++ZJ d.laid.toNat++qbp d.pat++ZJ d.sh.length++d.sh.flatMap qij
def W9 (d:Dy):Int:=if Wg d then (if 65536≤(qbQ d).length then 7 else 0) else 2
def qev (d:Dy):List UInt8:=if W9 d=0 then qbQ d++[UInt8.ofNat (qgF (qbQ d))] else []
theorem qde {n:Nat} (hn:n≤1000000) {p:Pt} (h:qI n p=true):qi8 p:=by
 have h1:=Qd h
 refine ⟨?_,by omega,by omega⟩
 rcases zk h with ⟨e,ha⟩ | ⟨e,h2,h3⟩
 · left
   unfold VZ at ha
   simp only [Bool.and_eq_true,decide_eq_true_eq] at ha
   omega
 · right;omega
theorem qdk {l:List Pt} (h:∀ p∈l,qi8 p) (hl:l.length<128):1≤(qbp l).length∧(qbp l).length≤9+l.length*18:=by
 have h1:=qfb h
 have h2:=zD (n:=l.length) (by omega)
 unfold qbp
 rw [List.length_append];omega
theorem qlY {b:Bk} (h:∀ p∈b.2,qi8 p) (hl:b.2.length≤8) (hn:b.1.length≤8):(qhk b).length≤200:=by
 have h1:=qdk h (by omega)
 have h2:=zD (n:=b.1.length) (by omega)
 unfold qhk
 rw [List.length_append,List.length_append];omega
theorem qlZ {s:Sht} (h:∀ p∈s.pat,qi8 p) (hl:s.pat.length≤64) (h1:s.num≤QM) (h2:s.bath≤QM) (h3:s.age≤QM):(qij s).length≤1300:=by
 have hm:QM=1099511627776:=rfl
 have q1:=qdk h (by omega)
 have q2:=zD (n:=s.num.toNat) (by omega)
 have q3:=zD (n:=s.bath.toNat) (by omega)
 have q4:=zD (n:=s.age.toNat) (by omega)
 unfold qij
 rw [List.length_append,List.length_append,List.length_append];omega
theorem qcB {α:Type} {f:α→List UInt8} {n:Nat} {l:List α} (h:∀ a∈l,(f a).length≤n):(l.flatMap f).length≤l.length*n:=by
 induction l with
 | nil=>simp
 | cons a l ih =>
   have h1:=h a (by simp)
   have h2:=ih fun b hb=>h b (by simp [hb])
   rw [List.flatMap_cons,List.length_append,List.length_cons,Nat.add_mul];omega
theorem qcC {α:Type} {f:α→List UInt8} {l:List α} {i:Nat} (h:i<l.length):(l.take (i+1)).flatMap f=(l.take i).flatMap f++f l[i]:=by
 rw [List.take_succ_eq_append_getElem h,List.flatMap_append];simp
end Go.AM

namespace Go.AM
open Go.RowKit Go.Proofs
def qet (s w : List UInt8) : Nat → Nat
 | 0=>0
 | n+1=>if s.drop (s.length - (n+1))=w.take (n+1) then n+1 else qet s w n
def qbb (w:List UInt8) (st:Nat) (act:Int):Nat:=qet (w.take st++[UInt8.ofNat act.toNat]) w (min (st+1) w.length)
theorem qhl (s w : List UInt8) : ∀ n,qet s w n ≤ n
 | 0=>Nat.le_refl _
 | n+1=>by
   unfold qet
   split
   · exact Nat.le_refl _
   · exact Nat.le_trans (qhl s w n) (Nat.le_succ _)
theorem qcA (w:List UInt8) (st:Nat) (act:Int):qbb w st act≤w.length:=Nat.le_trans (qhl _ _ _) (Nat.min_le_right _ _)
end Go.AM

namespace Go.AM
open Go.RowKit
def atT (T:List (List Int)) (r:Int) (s:Nat):Int:=(T.getD r.toNat []).getD s 0
def qqA (w:List UInt8) (to found:List (List Int)) (p:Pt) (x:Nat × Int):Nat × Int :=
 if 0≤p.2.1 then ((atT to p.2.1 x.1).toNat,x.2+atT found p.2.1 x.1)
 else (qbb w x.1 p.1,if qbb w x.1 p.1=w.length then x.2+1 else x.2)
def qiD (w : List UInt8) (to found : List (List Int)) (p : Pt) : Nat → Nat × Int → Nat × Int
 | 0,x=>x
 | k+1,x=>qqA w to found p (qiD w to found p k x)
def qqC (w:List UInt8) (to found:List (List Int)) (l:List Pt) (st:Nat):Nat × Int:=l.foldl (fun x p=>qiD w to found p p.2.2.toNat x) (st,0)
theorem qne {w:List UInt8} {to found:List (List Int)} {l:List Pt} {st i:Nat} (h:i<l.length):qqC w to found (l.take (i+1)) st=qiD w to found l[i] l[i].2.2.toNat (qqC w to found (l.take i) st):=zI h
def qvx (w:List UInt8) (to found:List (List Int)) (l:List Pt):List Int:=(List.range 9).map fun s=>if s≤w.length then ((qqC w to found l s).1:Int) else 0
def qvy (w:List UInt8) (to found:List (List Int)) (l:List Pt):List Int:=(List.range 9).map fun s=>if s≤w.length then (qqC w to found l s).2 else 0
def qp1 (w:List UInt8) (T:List (List Int) × List (List Int)) (b:Bk):List (List Int) × List (List Int):=(T.1++[qvx w T.1 T.2 b.2],T.2++[qvy w T.1 T.2 b.2])
def qik (w:List UInt8) (l:List Bk):List (List Int) × List (List Int):=l.foldl (qp1 w) ([],[])
theorem qil {w:List UInt8} {l:List Bk} {i:Nat} (h:i<l.length):qik w (l.take (i+1))=qp1 w (qik w (l.take i)) l[i]:=zI h
theorem qnt {T:List (List Int)} {r:List Int} {i s:Nat}:atT (T++[r]) (i:Int) s=if i<T.length then atT T (i:Int) s else if i=T.length then r.getD s 0 else 0:=by
 unfold atT
 simp only [Int.toNat_natCast]
 by_cases h:i<T.length
 · rw [if_pos h,List.getD_eq_getElem?_getD (l:=T++[r]),List.getElem?_append_left h,List.getD_eq_getElem?_getD (l:=T)]
 · rw [if_neg h,List.getD_eq_getElem?_getD (l := T ++ [r]),List.getElem?_append_right (by omega)]
   by_cases e:i=T.length
   · rw [if_pos e,e];simp
   · rw [if_neg e]
     have:i - T.length=(i - T.length - 1)+1:=by omega
     rw [this];simp
theorem qkD {f:Nat→Int} {s:Nat} (h:s<9):((List.range 9).map f).getD s 0=f s:=by
 rw [List.getD_eq_getElem?_getD,List.getElem?_map,List.getElem?_range h];rfl
def qbc (d:Dy) (p:Pt) (w:List UInt8):Int:=if Zb d p=0 then (if qgg w then 0 else 8) else Zb d p
def qfT (d:Dy) (p:Pt) (w:List UInt8):Int:=if qbc d p w=0 then (qqC w (qik w d.rc).1 (qik w d.rc).2 [p] 0).2 else 0
end Go.AM

namespace Go.AM
open Go.RowKit Go.Proofs
theorem V1 {H:List HObj} {a b:HObj}:qr (H++[a,b]) H.length=some a:=by rw [zH,List.getElem?_append_right (Nat.le_refl _)];simp
theorem WL {H:List HObj} {a b:HObj}:qr (H++[a,b]) (H.length+1)=some b:=by rw [zH,List.getElem?_append_right (by omega)];simp
theorem jY {H:List HObj} {a b c:HObj}:(H++[a,b]).set H.length c=H++[c,b]:=by rw [List.set_append_right _ _ (Nat.le_refl _)];simp
theorem jZ {H:List HObj} {a b c:HObj}:(H++[a,b]).set (H.length+1) c=H++[a,c]:=by rw [List.set_append_right _ _ (by omega)];simp
def AccZ (H:List HObj) (x:AV) (l:List UInt8):Prop:=(x = .sl true 0 []∧l=[])∨∃ id,x = .ms id 0 l.length 1∧qr H id=some (.cells (qw l))
theorem AccZ.b {H x l} (h:AccZ H x l):AccB H x l:=by
 rcases h with ⟨rfl,rfl⟩ | h
 · exact .inl rfl
 · exact .inr h
theorem AccZ.mono {hp H x l} (h:AccZ hp x l) (hk:∀ i,rid x=some i→qr H i=qr hp i):AccZ H x l:=by
 rcases h with h | ⟨id,rfl,h1⟩
 · exact .inl h
 · exact .inr ⟨id,rfl,(hk id rfl).trans h1⟩
theorem qlz {hp : List HObj} {x : AV} {l m : List UInt8} {g : Bool} {n : Nat} {K : AV → List (Nat × HObj) → Prop} (h : AccZ hp x l) (hl : l.length ≤ 100000000) (hm : m.length ≤ 100000000) (hn : n = m.length)
 (hK:∀ y ws,(∀ i,i<hp.length→rid x≠some i→qr (qH hp ws) i=qr hp i)→hp.length<(qH hp ws).length→AccZ (qH hp ws) y (l++m)→rid y=some hp.length→K y ws) :
 qnk hp 1 1 x (.sl g n (qw m)) K:=by
 subst hn
 have hK:=fun ws h1 h2 h3=>hK (.ms hp.length 0 (l.length+m.length) 1) ws h1 h2 h3 rfl
 have e:l.length+m.length=(l++m).length:=by simp
 rcases h with ⟨rfl,rfl⟩ | ⟨id,rfl,h2⟩
 · rw [qee]
   have hn:qr (qH hp [(hp.length,HObj.cells ([]++qw m))]) hp.length=some (.cells ([]++qw m)):=by
    rw [zt (by simp)];simp [Hp.write,Hp.set_same]
   have h3:=hK [(hp.length,HObj.cells ([]++qw m))] (fun i hi _=>by rw [zt (by simp),zH];simp only [Hp.write];rw [Hp.set_other _ _ (by omega)];rfl) (qj hn) (.inr ⟨hp.length,by rw [e],by rw [hn];rfl⟩)
   exact ⟨⟨rfl,by rw [qZ];omega,Jp _,rfl,by omega,by omega,.inl rfl⟩,h3⟩
 · have hlt := qj h2
   rw [qed,h2,J4]
   have hv:zT (qw l) 0 (l.length*1)=qw l:=by simp only [zT,List.drop_zero];rw [List.take_of_length_le (by rw [qZ];omega)]
   rw [hv]
   have hn:qr (qH hp [(id,HObj.gone),(hp.length,HObj.cells (qw l++qw m))]) hp.length=some (.cells (qw l++qw m)):=by
    rw [zt (by simp;omega)]
    simp only [Hp.write,Hp.set_same]
   refine ⟨⟨by rw [qZ];omega,Jp _,rfl,by rw [qZ];omega,by omega,by omega⟩,hK _ (fun i hi hr=>?_) (qj hn) (.inr ⟨hp.length,by rw [e],by rw [hn,V5]⟩)⟩
   rw [zt (by simp;omega),zH];simp only [Hp.write]
   rw [Hp.set_other _ _ (by omega),Hp.set_other _ _ (fun e=>hr (by rw [e];rfl))];rfl
def qgC (d:Dy) (a b:Int):Int :=
 if Zx d a≠0 then Zx d a else if Zx d b≠0 then Zx d b
 else if 4096<QZ (qu d.rc) ((Jh d a).getD sh0).pat then 7 else if 4096<QZ (qu d.rc) ((Jh d b).getD sh0).pat then 7
 else if spell (spR d.rc) ((Jh d a).getD sh0).pat=spell (spR d.rc) ((Jh d b).getD sh0).pat then 0 else 15
theorem qhR {d:Dy} {n:Int} (h:Zx d n=0):Wg d=true∧∃ s∈d.sh,Jh d n=some s:=by
 unfold Zx at h
 cases hb:Wg d with
 | false=>rw [hb] at h;cases h
 | true =>
   rw [hb] at h
   refine ⟨rfl,?_⟩
   cases hs:Jh d n with
   | none=>rw [hs] at h;cases h
   | some s =>
     refine ⟨s,?_,rfl⟩
     unfold Jh at hs
     rw [hb] at hs
     exact List.mem_of_find?_eq_some hs
end Go.AM

set_option maxRecDepth 100000
namespace Go.AM
open Go.RowKit Go.Proofs
def qd1:AC:=(.seq (.rgn [⟨none,[.mv 0 (.k (B false))]⟩] []) (.seq (.rgn [⟨none,[.call 33 56 [],.call 34 24 [.t 33],.mv 32 (.t 34),.ext 35 (.t 32) 0,.ext 36 (.t 32) 1,.ext 37 (.t 32) 2,.al 1 [.sl true 0 [],(I 0),(I 0),.sl true 0 [],.sl true 0 []],.st 5 (.t 1) (.t 35),.mv 2 (.t 36),.mv 3 (.t 37)]⟩] [1,2,3]) (.seq (.rgn [⟨none,[.call 39 56 [],.call 40 26 [.t 39],.mv 38 (.t 40),.ext 41 (.t 38) 0,.ext 42 (.t 38) 1,.mv 4 (.t 41),.mv 5 (.t 42)]⟩] [1,2,3,4,5]) (.seq (.seq (.rgn [⟨none,[.mv 43 (.t 3),.bin 44 .neq (.t 43) (.k (I 0)),.mv 45 (.t 44)]⟩,⟨some (45,false),[.mv 46 (.t 5),.bin 47 .neq (.t 46) (.k (I 0))]⟩,⟨none,[.pick 48 (.t 45) (.k (B true)) (.t 47),.mv 49 (.t 48)]⟩,⟨some (49,false),[.mv 50 (.t 4),.call 51 57 [],.bin 52 .neq (.t 50) (.t 51)]⟩,⟨none,[.pick 53 (.t 49) (.k (B true)) (.t 52),.mv 54 (.t 53)]⟩,⟨some (54,false),[.ld 55 true 5 (.t 1),.call 56 33 [.t 55],.bin 57 .neq (.t 56) (.k (I 0))]⟩,⟨none,[.pick 58 (.t 54) (.k (B true)) (.t 57),.mv 59 (.t 58)]⟩,⟨some (59,false),[.ld 60 true 5 (.t 1),.call 61 34 [.t 60],.bin 62 .neq (.t 61) (.k (I 0))]⟩,⟨none,[.pick 63 (.t 59) (.k (B true)) (.t 62),.mv 64 (.t 63)]⟩,⟨some (64,false),[.mv 65 (.t 2),.len 66 (.t 65),.bin 67 .neq (.t 66) (.k (I 13))]⟩,⟨none,[.pick 68 (.t 64) (.k (B true)) (.t 67),.mv 69 (.t 68)]⟩,⟨some (69,false),[.fa 70 (.t 1) 0,.ld 71 false 1 (.t 70),.len 72 (.t 71),.bin 73 .neq (.t 72) (.k (I 2))]⟩,⟨none,[.pick 74 (.t 69) (.k (B true)) (.t 73)]⟩] [1,2,74]) (.cond (.t 74) (.seq (.rgn [⟨none,[.mv 0 (.k (B false))]⟩] [0]) .ret) .skip)) (.seq (.seq (.rgn [⟨none,[.mv 6 (.k (I 0))]⟩] [1,2,6]) (.block 0 (.loop (.seq (.seq (.rgn [⟨none,[.mv 75 (.t 6),.bin 76 .lss (.t 75) (.k (I 13))]⟩] [1,2,6,76]) (.cond (.t 76) .skip (.exit 0))) (.seq (.block 1 (.seq (.rgn [⟨none,[.mv 7 (.k (I 0))]⟩] [1,2,6,7]) (.seq (.seq (.rgn [⟨none,[.mv 79 (.t 6),.bin 80 .eql (.t 79) (.k (I 7))]⟩] [1,2,6,7,80]) (.cond (.t 80) (.rgn [⟨none,[.mv 7 (.k (I 11))]⟩] [1,2,6,7]) .skip)) (.seq (.seq (.rgn [⟨none,[.mv 81 (.t 6),.bin 82 .gtr (.t 81) (.k (I 10))]⟩] [1,2,6,7,82]) (.cond (.t 82) (.rgn [⟨none,[.mv 7 (.k (I 5))]⟩] [1,2,6,7]) .skip)) (.seq (.rgn [⟨none,[.mv 83 (.t 2),.mv 84 (.t 6),.ia 85 1 (.t 83) (.t 84),.ld 86 false 1 (.t 85),.mv 87 (.t 7),.bin 88 .neq (.t 86) (.t 87)]⟩] [1,2,6,88]) (.cond (.t 88) (.seq (.rgn [⟨none,[.mv 0 (.k (B false))]⟩] [0]) .ret) .skip)))))) (.rgn [⟨none,[.mv 77 (.t 6),.bin 78 .add (.t 77) (.k (I 1)),.mv 6 (.t 78)]⟩] [1,2,6])))))) (.seq (.drw [⟨none,[.ld 90 true 5 (.t 1),.call 91 54 [.k (I 1),.k (I 1)],.call 92 36 [.t 90,.t 91],.mv 89 (.t 92),.ext 93 (.t 89) 0,.ext 94 (.t 89) 1,.mv 8 (.t 93),.mv 3 (.t 94)]⟩] [(0,1)] [1,3,8]) (.seq (.drw [⟨none,[.ld 96 true 5 (.t 1),.call 97 54 [.k (I 1),.k (I 1)],.call 98 38 [.t 96,.t 97,.k (I 4)],.mv 95 (.t 98),.ext 99 (.t 95) 0,.ext 100 (.t 95) 1,.mv 9 (.t 99),.mv 5 (.t 100)]⟩] [(0,1)] [1,3,5,8,9]) (.seq (.drw [⟨none,[.ld 102 true 5 (.t 1),.call 103 54 [.k (I 1),.k (I 1)],.call 104 38 [.t 102,.t 103,.k (I 7)],.mv 101 (.t 104),.ext 105 (.t 101) 0,.ext 106 (.t 101) 1,.mv 10 (.t 105),.mv 11 (.t 106)]⟩] [(0,1)] [1,3,5,8,9,11]) (.seq (.drw [⟨none,[.ld 108 true 5 (.t 1),.call 109 54 [.k (I 1),.k (I 1)],.call 110 40 [.t 108,.t 109,.k (.v (.int .u8 98))],.mv 107 (.t 110),.ext 111 (.t 107) 0,.ext 112 (.t 107) 1,.mv 12 (.t 111),.mv 13 (.t 112)]⟩] [(0,1)] [1,3,5,8,9,11,12,13]) (.seq (.drw [⟨none,[.ld 114 true 5 (.t 1),.call 115 54 [.k (I 1),.k (I 2)],.call 116 42 [.t 114,.t 115,.k (.v (.string ⟨#[98,98,97]⟩))],.mv 113 (.t 116),.ext 117 (.t 113) 0,.ext 118 (.t 113) 1,.mv 14 (.t 117),.mv 15 (.t 118)]⟩] [(0,1)] [1,3,5,8,9,11,12,13,14,15]) (.seq (.rgn [⟨none,[.ld 120 true 5 (.t 1),.call 121 31 [.t 120,.k (I 8)],.mv 119 (.t 121),.ext 122 (.t 119) 0,.ext 123 (.t 119) 1,.al 16 [(I 0),(I 0),(I 0),.sl true 0 []],.st 4 (.t 16) (.t 122),.mv 17 (.t 123)]⟩] [1,3,5,8,9,11,12,13,14,15,16,17]) (.seq (.rgn [⟨none,[.ld 124 true 5 (.t 1),.call 125 44 [.t 124,.k (I 7),.k (I 8)],.mv 18 (.t 125)]⟩] [3,5,8,9,11,12,13,14,15,16,17,18]) (.seq (.rgn [⟨none,[.call 127 24 [.k (.v (.string ⟨#[114,101,99,105,112,101,32,65,97,32,120,10]⟩))],.mv 126 (.t 127),.ext 128 (.t 126) 0,.ext 129 (.t 126) 1,.ext 130 (.t 126) 2,.al 19 [.sl true 0 [],(I 0),(I 0),.sl true 0 [],.sl true 0 []],.st 5 (.t 19) (.t 128),.mv 20 (.t 129),.mv 21 (.t 130)]⟩] [3,5,8,9,11,12,13,14,15,16,17,18,19,21]) (.seq (.rgn [⟨none,[.ld 132 true 5 (.t 19),.call 133 46 [.t 132],.mv 131 (.t 133),.ext 134 (.t 131) 0,.ext 135 (.t 131) 1,.mv 22 (.t 134),.mv 23 (.t 135)]⟩] [3,5,8,9,11,12,13,14,15,16,17,18,19,21,22,23]) (.seq (.rgn [⟨none,[.mv 137 (.t 22),.call 138 48 [.t 137],.mv 136 (.t 138),.ext 139 (.t 136) 0,.ext 140 (.t 136) 1,.al 24 [.sl true 0 [],(I 0),(I 0),.sl true 0 [],.sl true 0 []],.st 5 (.t 24) (.t 139),.mv 25 (.t 140)]⟩] [3,5,8,9,11,12,13,14,15,16,17,18,19,21,22,23,24,25]) (.seq (.rgn [⟨none,[.call 142 19 [.k (.v (.string ⟨#[100,111,32,97,42,49]⟩))],.mv 141 (.t 142),.ext 143 (.t 141) 0,.ext 144 (.t 141) 1,.al 26 [(I 0),.v (.string ⟨#[]⟩),.sl true 0 [],(I 0)],.st 4 (.t 26) (.t 143),.mv 27 (.t 144)]⟩] [3,5,8,9,11,12,13,14,15,16,17,18,19,21,22,23,24,25,27]) (.seq (.rgn [⟨none,[.call 146 19 [.k (.v (.string ⟨#[100,111,32,67,111,109,98,42,50]⟩))],.mv 145 (.t 146),.ext 147 (.t 145) 0,.ext 148 (.t 145) 1,.al 28 [(I 0),.v (.string ⟨#[]⟩),.sl true 0 [],(I 0)],.st 4 (.t 28) (.t 147),.mv 29 (.t 148)]⟩] [3,5,8,9,11,12,13,14,15,16,17,18,19,21,22,23,24,25,27,28,29]) (.seq (.seq (.rgn [⟨none,[.mv 149 (.t 3),.bin 150 .neq (.t 149) (.k (I 0)),.mv 151 (.t 150)]⟩,⟨some (151,false),[.mv 152 (.t 5),.bin 153 .neq (.t 152) (.k (I 0))]⟩,⟨none,[.pick 154 (.t 151) (.k (B true)) (.t 153),.mv 155 (.t 154)]⟩,⟨some (155,false),[.mv 156 (.t 11),.bin 157 .neq (.t 156) (.k (I 3))]⟩,⟨none,[.pick 158 (.t 155) (.k (B true)) (.t 157),.mv 159 (.t 158)]⟩,⟨some (159,false),[.mv 160 (.t 13),.bin 161 .neq (.t 160) (.k (I 0))]⟩,⟨none,[.pick 162 (.t 159) (.k (B true)) (.t 161),.mv 163 (.t 162)]⟩,⟨some (163,false),[.mv 164 (.t 15),.bin 165 .neq (.t 164) (.k (I 0))]⟩,⟨none,[.pick 166 (.t 163) (.k (B true)) (.t 165),.mv 167 (.t 166)]⟩,⟨some (167,false),[.mv 168 (.t 17),.bin 169 .neq (.t 168) (.k (I 0))]⟩,⟨none,[.pick 170 (.t 167) (.k (B true)) (.t 169),.mv 171 (.t 170)]⟩,⟨some (171,false),[.mv 172 (.t 18),.bin 173 .neq (.t 172) (.k (I 15))]⟩,⟨none,[.pick 174 (.t 171) (.k (B true)) (.t 173),.mv 175 (.t 174)]⟩,⟨some (175,false),[.mv 176 (.t 21),.bin 177 .neq (.t 176) (.k (I 0))]⟩,⟨none,[.pick 178 (.t 175) (.k (B true)) (.t 177),.mv 179 (.t 178)]⟩,⟨some (179,false),[.mv 180 (.t 23),.bin 181 .neq (.t 180) (.k (I 0))]⟩,⟨none,[.pick 182 (.t 179) (.k (B true)) (.t 181),.mv 183 (.t 182)]⟩,⟨some (183,false),[.mv 184 (.t 25),.bin 185 .neq (.t 184) (.k (I 0))]⟩,⟨none,[.pick 186 (.t 183) (.k (B true)) (.t 185),.mv 187 (.t 186)]⟩,⟨some (187,false),[.mv 188 (.t 27),.bin 189 .neq (.t 188) (.k (I 8))]⟩,⟨none,[.pick 190 (.t 187) (.k (B true)) (.t 189),.mv 191 (.t 190)]⟩,⟨some (191,false),[.mv 192 (.t 29),.bin 193 .neq (.t 192) (.k (I 0))]⟩,⟨none,[.pick 194 (.t 191) (.k (B true)) (.t 193)]⟩] [8,9,12,14,16,19,22,24,28,194]) (.cond (.t 194) (.seq (.rgn [⟨none,[.mv 0 (.k (B false))]⟩] [0]) .ret) .skip)) (.seq (.rgn [⟨none,[.ld 196 true 4 (.t 28),.call 197 21 [.t 196],.mv 195 (.t 197),.ext 198 (.t 195) 0,.ext 199 (.t 195) 1,.mv 30 (.t 198),.mv 31 (.t 199)]⟩] [8,9,12,14,16,19,22,24,30,31]) (.seq (.drw [⟨none,[.mv 200 (.t 31),.bin 201 .eql (.t 200) (.k (I 0)),.mv 202 (.t 201)]⟩,⟨some (202,true),[.mv 203 (.t 30),.bin 204 .eql (.t 203) (.k (.v (.string ⟨#[100,111,32,67,111,109,98,42,50]⟩)))]⟩,⟨none,[.pick 205 (.t 202) (.t 204) (.k (B false)),.mv 206 (.t 205)]⟩,⟨some (206,true),[.mv 207 (.t 8),.bin 208 .eql (.t 207) (.k (I 7))]⟩,⟨none,[.pick 209 (.t 206) (.t 208) (.k (B false)),.mv 210 (.t 209)]⟩,⟨some (210,true),[.mv 211 (.t 9),.bin 212 .eql (.t 211) (.k (.v (.int .u8 98)))]⟩,⟨none,[.pick 213 (.t 210) (.t 212) (.k (B false)),.mv 214 (.t 213)]⟩,⟨some (214,true),[.mv 215 (.t 12),.bin 216 .eql (.t 215) (.k (I 4))]⟩,⟨none,[.pick 217 (.t 214) (.t 216) (.k (B false)),.mv 218 (.t 217)]⟩,⟨some (218,true),[.mv 219 (.t 14),.bin 220 .eql (.t 219) (.k (I 2))]⟩,⟨none,[.pick 221 (.t 218) (.t 220) (.k (B false)),.mv 222 (.t 221)]⟩,⟨some (222,true),[.ld 223 true 4 (.t 16),.call 224 54 [.k (I 0),.k (I 3)],.bsl 225 1 3 [.v (.int .u8 0),(I 0),(I 0)] [(0,(.t 224))],.bld 226 [(I 0),(I 0),(I 0),.sl true 0 []] [(0,1,(.k (I 8))),(1,1,(.k (I 1))),(2,1,(.k (I 1))),(3,1,(.t 225))],.call 227 35 [.t 223,.t 226]]⟩,⟨none,[.pick 228 (.t 222) (.t 227) (.k (B false)),.mv 229 (.t 228)]⟩,⟨some (229,true),[.mv 230 (.t 22),.b2s 231 (.t 230),.bin 232 .eql (.t 231) (.k (.v (.string ⟨#[1,2,65,97,1,23,1,0,0,0,0,190]⟩)))]⟩,⟨none,[.pick 233 (.t 229) (.t 232) (.k (B false)),.mv 234 (.t 233)]⟩,⟨some (234,true),[.ld 235 true 5 (.t 19),.ld 236 true 5 (.t 24),.call 237 28 [.t 235,.t 236]]⟩,⟨none,[.pick 238 (.t 234) (.t 237) (.k (B false)),.mv 0 (.t 238)]⟩] [(23,24),(23,25),(35,36)] [0]) .ret))))))))))))))))))))
theorem qeM:qo Tryz.prog Tryz.f18 [0]=some qd1:=by kernel_rfl
def jG:AC:=Subtype.val (p:=fun g=>qo Tryz.prog Tryz.f28 [4]=some g) (by refine ⟨?g,?h⟩;case h=>conv=>lhs;reduce)
theorem qbi:qo Tryz.prog Tryz.f28 [4]=some jG:=by kernel_rfl
def Vv:AC:=Subtype.val (p:=fun g=>qo Tryz.prog Tryz.f35 [4]=some g) (by refine ⟨?g,?h⟩;case h=>conv=>lhs;reduce)
theorem Xe:qo Tryz.prog Tryz.f35 [4]=some Vv:=by kernel_rfl
def qg1:AC:=Subtype.val (p:=fun g=>qo Tryz.prog Tryz.f54 [4]=some g) (by refine ⟨?g,?h⟩;case h=>conv=>lhs;reduce)
theorem qf8:qo Tryz.prog Tryz.f54 [4]=some qg1:=by kernel_rfl
theorem qgz:ZR Tryz.prog Tryz.f54.results.toList=some [(4,some (true,3))]:=by kernel_rfl
def qd0:AC:=Subtype.val (p:=fun g=>qo Tryz.prog Tryz.f56 [0]=some g) (by refine ⟨?g,?h⟩;case h=>conv=>lhs;reduce;simp only[qwo,qwp,UInt8.reduceOfNat,Int.reduceOfNat,Int.reduceNegSucc])
theorem qeL:qo Tryz.prog Tryz.f56 [0]=some qd0:=by kernel_rfl
def qg0:AC:=Subtype.val (p:=fun g=>qo Tryz.prog Tryz.f57 [0]=some g) (by refine ⟨?g,?h⟩;case h=>conv=>lhs;reduce;simp only[qwo,qwp,UInt8.reduceOfNat,Int.reduceOfNat,Int.reduceNegSucc])
theorem qf7:qo Tryz.prog Tryz.f57 [0]=some qg0:=by kernel_rfl
def qg2:AC:=(.seq (.rgn [⟨none,[.mv 4 (.k (B false))]⟩] [0,1]) (.seq (.seq (.rgn [⟨none,[.mv 6 (.t 0),.len 7 (.t 6),.mv 8 (.t 1),.len 9 (.t 8),.bin 10 .neq (.t 7) (.t 9)]⟩] [0,1,10]) (.cond (.t 10) (.seq (.rgn [⟨none,[.mv 4 (.k (B false))]⟩] [4]) .ret) .skip)) (.seq (.seq (.rgn [⟨none,[.mv 5 (.k (I 0))]⟩] [0,1,5]) (.block 0 (.loop (.seq (.seq (.rgn [⟨none,[.mv 11 (.t 5),.mv 12 (.t 0),.len 13 (.t 12),.bin 14 .lss (.t 11) (.t 13)]⟩] [0,1,5,14]) (.cond (.t 14) .skip (.exit 0))) (.seq (.block 1 (.seq (.drw [⟨none,[.mv 17 (.t 0),.mv 18 (.t 5),.ia 19 3 (.t 17) (.t 18),.ld 20 true 3 (.t 19),.mv 21 (.t 1),.mv 22 (.t 5),.ia 23 3 (.t 21) (.t 22),.ld 24 true 3 (.t 23),.eqk 25 true (true,[.int,.int,.int]) (.t 20) (.t 24)]⟩] [(3,7)] [0,1,5,25]) (.cond (.t 25) (.seq (.rgn [⟨none,[.mv 4 (.k (B false))]⟩] [4]) .ret) .skip))) (.rgn [⟨none,[.mv 15 (.t 5),.bin 16 .add (.t 15) (.k (I 1)),.mv 5 (.t 16)]⟩] [0,1,5])))))) (.seq (.rgn [⟨none,[.mv 4 (.k (B true))]⟩] [4]) .ret))))
theorem qf9:qo Tryz.prog Tryz.f69 [4]=some qg2:=by kernel_rfl
theorem qdG {α:Type} {a b:List α} (hl:a.length=b.length) (h:a.take a.length=b.take a.length):a=b:=by
 rw [List.take_length,hl,List.take_length] at h;exact h
theorem qgJ {α:Type} {a b:List α} {i:Nat} (hi:i<a.length) (hj:i<b.length) (h:a.take i=b.take i) (e:a[i]=b[i]):a.take (i+1)=b.take (i+1):=by
 rw [List.take_succ_eq_append_getElem hi,List.take_succ_eq_append_getElem hj,h,e]
theorem qat (f g:Bool) (a b:List Pt) (hl:a.length≤1000000):qC Tryz.prog 69 [JG f a,JG g b] (B (decide (a=b))):=by
 refine qT (walk Tryz.func69 qf9 (by kernel_rfl) (by show 2≤_;decide) ?_)
 simp -implicitDefEqProofs (disch:=omega)[qg2,qb]
 by_cases h4:a.length=b.length
 case neg =>
  have e4:((a.length:Int) != (b.length:Int))=true:=by rw [bne_iff_ne];omega
  have h5:a≠b:=fun e=>h4 (by rw [e])
  simp -implicitDefEqProofs (disch:=omega)[qb,e4,h5]
 have e4:((a.length:Int) != (b.length:Int))=false:=by rw [h4];exact bne_self_eq_false _
 simp -implicitDefEqProofs (disch:=omega)[qb,e4]
 refine qO (fun i:Nat=>⟨[(0,JG f a),(1,JG g b),(5,I (i:Int))],[]⟩) (fun i=>i≤a.length∧a.take i=b.take i) (fun i=>a.length - i) 0 ⟨Nat.zero_le _,rfl⟩ rfl ?_
 rintro i ⟨c1,c2⟩
 refine qW fun K0 hK0=>?_
 simp -implicitDefEqProofs (disch:=omega)[qb]
 refine qP (fun hc=>?_) (fun hc=>?_)
 · have hi : i < a.length := by simpa using hc
   have hj:i<b.length:=by omega
   have ix:((i:Int)+1)=((i+1:Nat):Int):=by omega
   simp -implicitDefEqProofs (disch:=omega)[qb,hi,hj,zW,zJ,zE,qrA]
   by_cases h:a[i]=b[i]
   · simp -implicitDefEqProofs (disch := omega) [qb,h]
     rw [hK0]
     exact qz (i+1) ⟨by omega,qgJ hi hj c2 h⟩ (by omega) (by simp only [ix])
   · have hne : a ≠ b := fun e => h (by subst e; rfl)
     rw [hK0]
     simp -implicitDefEqProofs (disch:=omega)[qb,h,hne]
 · have hi : i = a.length := by simp at hc; omega
   subst hi
   subst hK0
   have he:a=b:=qdG h4 c2
   simp -implicitDefEqProofs (disch:=omega)[qb,he]
theorem qo3 {l:List Int} {i:Nat} (h:i<l.length):YO (fl qjb l) i=some (I l[i]):=by
 have:=Ja qms h (j:=0) (by decide)
 simp only [Nat.mul_one,Nat.add_zero] at this
 rw [this];rfl
theorem Yc (f:Bool) (a b:Sht) (hl:a.pat.length≤1000000):qC Tryz.prog 35 [qnq a,.agg [I b.num,I b.bath,I b.age,JG f b.pat]] (B (decide (a=b))):=by
 obtain ⟨n,h,g,p⟩:=a
 obtain ⟨n',h',g',p'⟩:=b
 simp only at hl
 refine qT (walk Tryz.func35 Xe (by kernel_rfl) (by show 2≤_;decide) ?_)
 simp -implicitDefEqProofs (disch:=omega)[Vv,qb,shC]
 by_cases h1:n=n'
 case neg =>
  have e1:(n==n')=false:=by rw [beq_eq_false_iff_ne];exact h1
  simp -implicitDefEqProofs (disch:=omega)[qb,e1,h1]
 have e1:(n==n')=true:=by rw [beq_iff_eq];exact h1
 simp -implicitDefEqProofs (disch:=omega)[qb,e1]
 by_cases h2:h=h'
 case neg =>
  have e2:(h==h')=false:=by rw [beq_eq_false_iff_ne];exact h2
  simp -implicitDefEqProofs (disch:=omega)[qb,e2,h2]
 have e2:(h==h')=true:=by rw [beq_iff_eq];exact h2
 simp -implicitDefEqProofs (disch:=omega)[qb,e2]
 by_cases h3:g=g'
 case neg =>
  have e3:(g==g')=false:=by rw [beq_eq_false_iff_ne];exact h3
  simp -implicitDefEqProofs (disch:=omega)[qb,e3,h3]
 have e3:(g==g')=true:=by rw [beq_iff_eq];exact h3
 subst h1 h2 h3
 simp -implicitDefEqProofs (disch:=omega)[qb,e3]
 refine qg (ys:=[Pts p,JG f p']) (ids:=[]) rfl (qat false f p p' hl) ?_
 have hT:decide ((⟨n,h,g,p⟩:Sht)=⟨n,h,g,p'⟩)=decide (p=p'):=by simp
 try rw [hT]
 simp -implicitDefEqProofs (disch:=omega)[qb,AV.scalar]
theorem qbo (a b:Sht) (hl:a.pat.length≤1000000):qC Tryz.prog 35 [qnq a,qnq b] (B (decide (a=b))):=Yc false a b hl
theorem qha {a b:Int} (h:a≠b):(a != b)=true:=by rw [bne_iff_ne];exact h
theorem qg9 {a b:Int} (h:a=b):(a != b)=false:=by rw [h];exact bne_self_eq_false _
structure DyS (d:Dy):Prop where
 rl:d.rc.length≤1000000
 pl:d.pat.length≤1000000
 sl:d.sh.length≤1000000
 rp:∀ b∈d.rc,b.2.length≤1000000
 sp:∀ s∈d.sh,s.pat.length≤1000000
theorem DyI.s {d:Dy} (h:DyI d):DyS d:=⟨by have:=h.rl;omega,by have:=h.pat.2;omega,by have:=h.sl;omega,fun b hb=>by have:=(h.rc b hb).1.2;omega,fun s hs=>by have:=(h.sh s hs).2.2.2.2;omega⟩
def JF:AC:=match jG with
 | .seq _ (.seq _ (.seq _ t))=>t
 | x=>x
theorem qkH {a b : Dy} (ha : DyS a) (hl : a.sh.length = b.sh.length) {H : List HObj} (h0 : qr H 0 = some (.cells (dyC a))) (h1 : qr H 1 = some (.cells (dyC b))) (fr : List (Nat × AV)) :
 AWP Tryz.prog (E1 Tryz.prog) JF ⟨(2,.ref 0 0)::(3,.ref 1 0)::fr,H⟩ (qfB [4] (Out (B (decide (a.sh=b.sh))))):=by
 have hsl:=ha.sl
 simp -implicitDefEqProofs (disch:=omega)[JF,jG,qb]
 refine qO (fun q:Nat × List HObj=>⟨[(2,.ref 0 0),(3,.ref 1 0),(6,I (q.1:Int))],q.2⟩) (fun q=>q.1≤a.sh.length∧a.sh.take q.1=b.sh.take q.1∧q.2=H) (fun q=>a.sh.length - q.1) (0,H) ⟨Nat.zero_le _,rfl,rfl⟩ rfl ?_
 rintro ⟨i,H2⟩ ⟨c1,c2,rfl⟩
 simp only at c1 c2 ⊢
 refine qW fun K0 hK0=>?_
 simp -implicitDefEqProofs (disch:=omega)[qb,h0,h1,qf,dyC]
 refine qP (fun hc=>?_) (fun hc=>?_)
 · have hi : i < a.sh.length := by simpa using hc
   have hj:i<b.sh.length:=by omega
   have ix:((i:Int)+1)=((i+1:Nat):Int):=by omega
   have hsp:=ha.sp _ (List.getElem_mem hi)
   simp -implicitDefEqProofs (disch:=omega)[qb,hi,hj,h0,h1,qf,dyC]
   refine qQ (ys:=[qnq a.sh[i],qnq b.sh[i]]) (ids:=[]) rfl (qbo _ _ hsp) ?_
   simp -implicitDefEqProofs (disch:=omega)[qb,AV.scalar,zW,zJ,zE]
   by_cases h:a.sh[i]=b.sh[i]
   · simp -implicitDefEqProofs (disch := omega) [qb,h]
     rw [hK0]
     exact qz (i+1,H2) ⟨by simp only;omega,qgJ hi hj c2 h,rfl⟩ (by simp only;omega) (by simp only [ix])
   · have hne : a.sh ≠ b.sh := fun e => h (by simp only [e])
     rw [hK0]
     simp -implicitDefEqProofs (disch:=omega)[qb,h,hne]
 · have hi : i = a.sh.length := by simp at hc; omega
   subst hi
   subst hK0
   have he:a.sh=b.sh:=qdG hl c2
   simp -implicitDefEqProofs (disch:=omega)[qb,he]
theorem qeZ (a b:Dy) (ha:DyS a):qC Tryz.prog 28 [DyV a,DyV b] (B (decide (a=b))):=by
 have hrl:=ha.rl
 have hpl:=ha.pl
 have hsl:=ha.sl
 refine qT (walk Tryz.func28 qbi (by kernel_rfl) (by show 2≤_;decide) ?_)
 simp -implicitDefEqProofs (disch:=omega)[jG,qb,dyC]
 have hF:∀ {x:Bool},a≠b→x=false→x=decide (a=b):=fun h e=>by rw [e,decide_eq_false h]
 by_cases q1:a.rc.length=b.rc.length
 case neg =>
  have e1:((a.rc.length:Int) != (b.rc.length:Int))=true:=qha (by omega)
  have hne:a≠b:=fun e=>q1 (by rw [e])
  simp -implicitDefEqProofs (disch:=omega)[qb,e1,hne]
 have e1:((a.rc.length:Int) != (b.rc.length:Int))=false:=qg9 (by omega)
 simp -implicitDefEqProofs (disch:=omega)[qb,e1,qf]
 by_cases q2:a.bath=b.bath
 case neg =>
  have e2:=qha q2
  have hne:a≠b:=fun e=>q2 (by rw [e])
  simp -implicitDefEqProofs (disch:=omega)[qb,e2,hne]
 have e2:=qg9 q2
 simp -implicitDefEqProofs (disch:=omega)[qb,e2,qf]
 by_cases q3:a.laid=b.laid
 case neg =>
  have e3:=qha q3
  have hne:a≠b:=fun e=>q3 (by rw [e])
  simp -implicitDefEqProofs (disch:=omega)[qb,e3,hne]
 have e3:=qg9 q3
 simp -implicitDefEqProofs (disch:=omega)[qb,e3,qf]
 refine qg (ys:=[Pts a.pat,Pts b.pat]) (ids:=[]) rfl (qat false false _ _ hpl) ?_
 simp -implicitDefEqProofs (disch:=omega)[qb,AV.scalar]
 by_cases q4:a.pat=b.pat
 case neg =>
  have hne:a≠b:=fun e=>q4 (by rw [e])
  simp -implicitDefEqProofs (disch:=omega)[qb,q4,hne]
 have d4:decide (a.pat=b.pat)=true:=decide_eq_true q4
 simp -implicitDefEqProofs (disch:=omega)[qb,d4,qf]
 by_cases q5:a.sh.length=b.sh.length
 case neg =>
  have e5:((a.sh.length:Int) != (b.sh.length:Int))=true:=qha (by omega)
  have hne:a≠b:=fun e=>q5 (by rw [e])
  simp -implicitDefEqProofs (disch:=omega)[qb,e5,hne]
 have e5:((a.sh.length:Int) != (b.sh.length:Int))=false:=qg9 (by omega)
 simp -implicitDefEqProofs (disch:=omega)[qb,e5,qf]
 have h0:qr [HObj.cells (dyC a),HObj.cells (dyC b)] 0=some (.cells (dyC a)):=rfl
 have h1:qr [HObj.cells (dyC a),HObj.cells (dyC b)] 1=some (.cells (dyC b)):=rfl
 have el:[HObj.cells [Bks a.rc,I a.bath,I a.laid,Pts a.pat,Shs a.sh],HObj.cells [Bks b.rc,I b.bath,I b.laid,Pts b.pat,Shs b.sh]]=[HObj.cells (dyC a),HObj.cells (dyC b)]:=rfl
 simp only [el]
 generalize [HObj.cells (dyC a),HObj.cells (dyC b)]=H at *
 refine qO (fun q:Nat × List HObj=>⟨[(2,.ref 0 0),(3,.ref 1 0),(5,I (q.1:Int))],q.2⟩) (fun q=>q.1≤a.rc.length∧a.rc.take q.1=b.rc.take q.1∧q.2=H) (fun q=>a.rc.length - q.1) (0,H) ⟨Nat.zero_le _,rfl,rfl⟩ rfl ?_
 rintro ⟨i,H2⟩ ⟨c1,c2,rfl⟩
 simp only at c1 c2 ⊢
 refine qW fun K0 hK0=>?_
 simp -implicitDefEqProofs (disch:=omega)[qb,h0,h1,qf,dyC]
 refine qP (fun hc=>?_) (fun hc=>?_)
 · have hi : i < a.rc.length := by simpa using hc
   have hj:i<b.rc.length:=by omega
   have ix:((i:Int)+1)=((i+1:Nat):Int):=by omega
   have hrp:=ha.rp _ (List.getElem_mem hi)
   simp -implicitDefEqProofs (disch:=omega)[qb,hi,hj,h0,h1,qf,dyC]
   by_cases hnm:a.rc[i].1=b.rc[i].1
   case neg =>
    have n1:(a.rc[i].1==b.rc[i].1)=false:=by rw [beq_eq_false_iff_ne];exact hnm
    have hne:a≠b:=fun e=>hnm (by simp only [e])
    rw [hK0]
    simp -implicitDefEqProofs (disch:=omega)[qb,n1,zW,zJ,zE,hne]
   have n1:(a.rc[i].1==b.rc[i].1)=true:=by rw [beq_iff_eq];exact hnm
   simp -implicitDefEqProofs (disch:=omega)[qb,n1,hi,hj,h0,h1,qf,dyC]
   refine qQ (ys:=[Pts a.rc[i].2,Pts b.rc[i].2]) (ids:=[]) rfl (qat false false _ _ hrp) ?_
   simp -implicitDefEqProofs (disch:=omega)[qb,AV.scalar,zW,zJ,zE]
   by_cases h:a.rc[i].2=b.rc[i].2
   · have d5 : decide (a.rc[i].2 = b.rc[i].2) = true := decide_eq_true h
     simp -implicitDefEqProofs (disch:=omega)[qb,d5,zW,zJ,zE]
     rw [hK0]
     exact qz (i+1,H2) ⟨by simp only;omega,qgJ hi hj c2 (Prod.ext hnm h),rfl⟩ (by simp only;omega) (by simp only [ix])
   · have d5 : decide (a.rc[i].2 = b.rc[i].2) = false := decide_eq_false h
     have hne:a≠b:=fun e=>h (by simp only [e])
     rw [hK0]
     simp -implicitDefEqProofs (disch:=omega)[qb,d5,hne,zW,zJ,zE]
 · have hi : i = a.rc.length := by simp at hc; omega
   subst hi
   subst hK0
   have he:a.rc=b.rc:=qdG q1 c2
   have hT:decide (a=b)=decide (a.sh=b.sh):=by
    obtain ⟨r,x,y,z,w⟩:=a
    obtain ⟨r',x',y',z',w'⟩:=b
    simp only at he q2 q3 q4
    subst he q2 q3 q4
    simp
   rw [hT]
   have t:=qkH ha q5 h0 h1 [(5,I (a.rc.length:Int))]
   simp -implicitDefEqProofs (disch:=omega)[JF,jG,qb] at t ⊢
   exact t
def qvs (b:Bk):Bool:=decide (20<b.2.length) || decide (100<b.1.length)
def qvt (s:Sht):Bool:=decide (70<s.pat.length)
def qjT (d:Dy):Bool:=decide (40<d.rc.length) || (decide (70<d.pat.length) || (decide (60<d.sh.length) || (d.rc.any qvs || d.sh.any qvt)))
theorem qqE {d:Dy} (hg:qjT d=false):d.rc.length≤40∧d.pat.length≤70∧d.sh.length≤60∧(∀ b∈d.rc,b.2.length≤20∧b.1.length≤100)∧∀ s∈d.sh,s.pat.length≤70:=by
 unfold qjT at hg
 simp only [Bool.or_eq_false_iff,decide_eq_false_iff_not,List.any_eq_false,qvs,qvt,Bool.not_eq_true] at hg
 obtain ⟨h1,h2,h3,h4,h5⟩:=hg
 refine ⟨by omega,by omega,by omega,fun b hb=>?_,fun s hs=>?_⟩
 · have:=h4 b hb;omega
 · have:=h5 s hs;omega
structure DyT (d:Dy):Prop where
 rc:∀ b∈d.rc,∀ p∈b.2,PtI p
 bath:i64 d.bath
 laid:i64 d.laid
 pat:∀ p∈d.pat,PtI p
 sh:∀ s∈d.sh,i64 s.num∧i64 s.bath∧i64 s.age∧∀ p∈s.pat,PtI p
theorem DyT.i {d:Dy} (h:DyT d) (hg:qjT d=false):DyI d:=by
 obtain ⟨h1,h2,h3,h4,h5⟩:=qqE hg
 exact ⟨fun b hb=>⟨⟨h.rc b hb,by have:=(h4 b hb).1;omega⟩,by have:=(h4 b hb).2;omega⟩,by omega,h.bath,h.laid,⟨h.pat,by omega⟩,fun s hs=>⟨(h.sh s hs).1,(h.sh s hs).2.1,(h.sh s hs).2.2.1,(h.sh s hs).2.2.2,by have:=h5 s hs;omega⟩,by omega⟩
theorem Jv (r:Int) (t:Int):qC Tryz.prog 54 [I r,I t] (.agg (ptC (0,r,t))):=by
 refine qT (zj Tryz.func54 qf8 qgz (by show 2≤_;decide) ?_)
 simp -implicitDefEqProofs (disch:=omega)[qg1,qb]
 exact Q7 (id:=0) (off:=0) rfl rfl (by simp) ⟨[],rfl⟩
def YZ:List UInt8:=[114,101,99,105,112,101,32,83,116,111,110,101,32,97,32,98,42,50,10,114,101,99,105,112,101,32,67,111,109,98,32,83,116,111,110,101,42,50,32,99,10,98,97,116,104,10,100,111,32,67,111,109,98,10,100,111,32,97,10,108,97,121,32,55,10,100,111,32,83,116,111,110,101,42,51,10,108,97,121,32,55,10,108,97,121,32,56,10,98,97,99,107,10,97,103,97,105,110,10,100,111,32,87,97,118,101,10,97,103,97,105,110,10]
def qjE:List UInt8:=[114,101,99,105,112,101,32,83,116,111,110,101,32,97,32,98,42,50,10,114,101,99,105,112,101,32,67,111,109,98,32,83,116,111,110,101,42,50,32,99,10,98,97,116,104,10,100,111,32,67,111,109,98,10,100,111,32,97,10,108,97,121,32,55,10,100,111,32,83,116,111,110,101,42,51,10,108,97,121,32,56,10]
theorem qbY:qC Tryz.prog 56 [] (S YZ):=by
 refine qT (walk Tryz.func56 qeL (by kernel_rfl) (by show 0≤_;decide) ?_)
 simp -implicitDefEqProofs (disch:=omega)[qd0,qb]
 first | rfl | (unfold YZ;rfl)
theorem qkb:qC Tryz.prog 57 [] (S qjE):=by
 refine qT (walk Tryz.func57 qf7 (by kernel_rfl) (by show 0≤_;decide) ?_)
 simp -implicitDefEqProofs (disch:=omega)[qg0,qb]
 first | rfl | (unfold qjE;rfl)
theorem qmA {l:List Bk} (hR:RecV l) {i:Nat} (h:i<l.length) (h':i<(qu l).length):(qu l)[i]=QZ (qu l) l[i].2:=by
 obtain ⟨r,hr⟩:=jz (l:=l) (i+1)
 obtain ⟨r2,hr2⟩:=jz (l:=l) i
 have hll:(qu (l.take i)).length=i:=by rw [zy,List.length_take];omega
 have hp:∀ p∈l[i].2,qI (qu (l.take i)).length p=true:=by rw [hll];exact hR.1 i h
 have e2:QZ (qu l) l[i].2=QZ (qu (l.take i)) l[i].2:=by rw [hr2,qla hp]
 have e3:(qu l)[i]?=some (QZ (qu (l.take i)) l[i].2):=by
  rw [hr,QL h,List.append_assoc,List.getElem?_append_right (by omega),hll]
  simp
 rw [e2]
 rw [List.getElem?_eq_getElem h'] at e3
 exact Option.some.inj e3
def qdc (b:List UInt8) (at':Nat) (n place:Int):Int × Nat × Bool :=
 if h : at' < b.length then
  if 4398046511104<place then (0,at',true)
  else if (b[at'].toNat:Int)<128 then (n+place*((b[at'].toNat:Int) % 128),at'+1,decide (1099511627776<n+place*((b[at'].toNat:Int) % 128)))
  else qdc b (at'+1) (n+place*((b[at'].toNat:Int) % 128)) (place*128)
 else (0,at',true)
termination_by b.length - at'
def Qp (b:List UInt8) (at':Nat) (bad:Bool):Int × Nat × Bool:=if bad then (0,at',true) else qdc b at' 0 1
theorem qpg:∀ (k:Nat) {b:List UInt8} {at':Nat} {n place:Int},b.length - at'≤k→at'≤b.length→at'≤(qdc b at' n place).2.1∧(qdc b at' n place).2.1≤b.length:=by
 intro k
 induction k with
 | zero =>
   intro b at' n place h h2
   unfold qdc
   rw [dif_neg (by omega)];exact ⟨Nat.le_refl _,h2⟩
 | succ k ih =>
   intro b at' n place h h2
   unfold qdc
   by_cases e:at'<b.length
   · rw [dif_pos e]
     split
     · exact ⟨Nat.le_refl _,h2⟩
     · split
       · exact ⟨Nat.le_succ _,e⟩
       · have := ih (b := b) (at' := at' + 1) (n := n + place * ((b[at'].toNat : Int) % 128)) (place := place * 128) (by omega) e
         exact ⟨by omega,this.2⟩
   · rw [dif_neg e];exact ⟨Nat.le_refl _,h2⟩
theorem qmJ:∀ (k:Nat) {b:List UInt8} {at':Nat} {n pl:Int},b.length - at'≤k→0≤n→n<pl→pl≤562949953421312→0≤(qdc b at' n pl).1∧(qdc b at' n pl).1≤562949953421312∧((qdc b at' n pl).2.2=false→(qdc b at' n pl).1≤1099511627776):=by
 intro k
 induction k with
 | zero =>
   intro b at' n pl h h0 h1 h2
   unfold qdc
   rw [dif_neg (by omega)];exact ⟨by simp,by simp,by simp⟩
 | succ k ih =>
   intro b at' n pl h h0 h1 h2
   unfold qdc
   by_cases e:at'<b.length
   · rw [dif_pos e]
     split
     · exact ⟨by simp,by simp,by simp⟩
     · rename_i hp
       have m0:0≤pl*((b[at'].toNat:Int) % 128):=Int.mul_nonneg (by omega) (by omega)
       have m1:pl*((b[at'].toNat:Int) % 128)≤pl*127:=Int.mul_le_mul_of_nonneg_left (by omega) (by omega)
       generalize pl*((b[at'].toNat:Int) % 128)=X at *
       split
       · exact ⟨by simp only;omega,by simp only;omega,fun h=>by simp only [decide_eq_false_iff_not] at h ⊢;omega⟩
       · exact ih (by omega) (by omega) (by omega) (by omega)
   · rw [dif_neg e];exact ⟨by simp,by simp,by simp⟩
theorem qdd (b:List UInt8) (at':Nat) (bad:Bool) (h:at'≤b.length):(0≤(Qp b at' bad).1∧(Qp b at' bad).1≤562949953421312∧((Qp b at' bad).2.2=false→(Qp b at' bad).1≤1099511627776))∧at'≤(Qp b at' bad).2.1∧(Qp b at' bad).2.1≤b.length:=by
 unfold Qp
 cases bad with
 | true=>exact ⟨⟨by simp,by simp,by simp⟩,Nat.le_refl _,h⟩
 | false=>exact ⟨qmJ (b.length - at') (Nat.le_refl _) (by decide) (by decide) (by decide),qpg (b.length - at') (Nat.le_refl _) h⟩
def Vg (b:List UInt8) (at':Nat) (bad:Bool):List UInt8 × Nat × Bool :=
 if (Qp b at' bad).2.2=true∨(b.length:Int) - (Qp b at' bad).2.1<(Qp b at' bad).1 then ([],(Qp b at' bad).2.1,true)
 else ((b.drop (Qp b at' bad).2.1).take (Qp b at' bad).1.toNat,(Qp b at' bad).2.1+(Qp b at' bad).1.toNat,false)
theorem qmI:∀ (k:Nat) {b:List UInt8} {at':Nat} {n pl:Int},b.length - at'≤k→(qdc b at' n pl).2.2=false→at'+1≤(qdc b at' n pl).2.1:=by
 intro k
 induction k with
 | zero =>
   intro b at' n pl h
   unfold qdc
   rw [dif_neg (by omega)];intro h;cases h
 | succ k ih =>
   intro b at' n pl h
   unfold qdc
   by_cases e:at'<b.length
   · rw [dif_pos e]
     split
     · intro h;cases h
     · split
       · intro _;exact Nat.le_refl _
       · intro h2
         have:=ih (b:=b) (at':=at'+1) (by omega) h2
         omega
   · rw [dif_neg e];intro h;cases h
theorem Xu {b:List UInt8} {a:Nat} (h:(Qp b a false).2.2=false):a+1≤(Qp b a false).2.1:=qmI (b.length - a) (Nat.le_refl _) h
def itF {α : Type} (rd : Nat → Bool → α × Nat × Bool) : Nat → Nat → Bool → List α × Nat × Bool
 | 0,a,bad=>([],a,bad)
 | k+1,a,bad=>if bad=true then ([],a,bad) else ((rd a bad).1::(itF rd k (rd a bad).2.1 (rd a bad).2.2).1,(itF rd k (rd a bad).2.1 (rd a bad).2.2).2)
theorem ZP {α:Type} {rd:Nat→Bool→α × Nat × Bool} {k a:Nat}:itF rd k a true=([],a,true):=by
 cases k <;> rfl
theorem qj8 {α:Type} {rd:Nat→Bool→α × Nat × Bool} {k a:Nat}:itF rd (k+1) a false=((rd a false).1::(itF rd k (rd a false).2.1 (rd a false).2.2).1,(itF rd k (rd a false).2.1 (rd a false).2.2).2):=rfl
structure RdOK {α:Type} (n:Nat) (rd:Nat→Bool→α × Nat × Bool):Prop where
 le:∀ a bad,a≤n→a≤(rd a bad).2.1∧(rd a bad).2.1≤n
 adv:∀ a,a≤n→(rd a false).2.2=false→a+1≤(rd a false).2.1
theorem qc2 {α : Type} {n : Nat} {rd : Nat → Bool → α × Nat × Bool} (h : RdOK n rd) : ∀ (k a : Nat) (bad : Bool),a ≤ n → a ≤ (itF rd k a bad).2.1 ∧ (itF rd k a bad).2.1 ≤ n ∧ (itF rd k a bad).1.length + a ≤ n + 1
 | 0,a,bad,ha=>⟨Nat.le_refl _,ha,by simp [itF];omega⟩
 | k+1,a,true,ha=>by rw [ZP];exact ⟨Nat.le_refl _,ha,by simp;omega⟩
 | k+1,a,false,ha=>by
   rw [qj8]
   have h1:=h.le a false ha
   have h2:=qc2 h k (rd a false).2.1 (rd a false).2.2 h1.2
   refine ⟨by simp only;omega,h2.2.1,?_⟩
   simp only [List.length_cons]
   cases hb:(rd a false).2.2 with
   | false=>have:=h.adv a ha hb;rw [hb] at h2;omega
   | true=>rw [ZP];simp;omega
def ptF (b:List UInt8) (a:Nat) (bad:Bool):Pt × Nat × Bool :=
 ((if 26 ≤ (Qp b a bad).1 then (0,(Qp b a bad).1 - 26,(Qp b (Qp b a bad).2.1 (Qp b a bad).2.2).1) else (97 + (Qp b a bad).1 % 26,-1,(Qp b (Qp b a bad).2.1 (Qp b a bad).2.2).1)),
   (Qp b (Qp b a bad).2.1 (Qp b a bad).2.2).2)
theorem jk {b:List UInt8} {a:Nat} {bad:Bool} (h:a≤b.length):a≤(Qp b a bad).2.1∧(Qp b a bad).2.1≤b.length:=(qdd b a bad h).2
theorem JK {b:List UInt8} {a:Nat}:Qp b a true=(0,a,true):=rfl
theorem qkz (b:List UInt8):RdOK b.length (ptF b):=by
 refine ⟨fun a bad h=>?_,fun a h hb=>?_⟩
 · have h1 := jk (bad := bad) h
   have h2:=jk (bad:=(Qp b a bad).2.2) h1.2
   unfold ptF
   exact ⟨by simp only;omega,h2.2⟩
 · have h1 := jk (bad := false) h
   have h2:=jk (bad:=(Qp b a false).2.2) h1.2
   unfold ptF at hb ⊢
   simp only at hb ⊢
   cases hc:(Qp b a false).2.2 with
   | true=>rw [hc,JK] at hb;cases hb
   | false=>have:=Xu hc;rw [hc] at h2;omega
def Yd (b:List UInt8) (a:Nat) (bad:Bool):List Pt × Nat × Bool:=itF (ptF b) (Qp b a bad).1.toNat (Qp b a bad).2.1 (Qp b a bad).2.2
theorem VM (b:List UInt8):RdOK b.length (Yd b):=by
 refine ⟨fun a bad h=>?_,fun a h hb=>?_⟩
 · have h1 := jk (bad := bad) h
   have h2:=qc2 (qkz b) (Qp b a bad).1.toNat (Qp b a bad).2.1 (Qp b a bad).2.2 h1.2
   unfold Yd
   exact ⟨by omega,h2.2.1⟩
 · have h1 := jk (bad := false) h
   have h2:=qc2 (qkz b) (Qp b a false).1.toNat (Qp b a false).2.1 (Qp b a false).2.2 h1.2
   unfold Yd at hb ⊢
   cases hc:(Qp b a false).2.2 with
   | true=>rw [hc,ZP] at hb;cases hb
   | false=>have:=Xu hc;rw [hc] at h2;omega
theorem qc8 (b:List UInt8):RdOK b.length (Vg b):=by
 refine ⟨fun a bad h=>?_,fun a h hb=>?_⟩
 · have h1 := qdd b a bad h
   unfold Vg
   split
   · exact h1.2
   · rename_i h2
     refine ⟨by simp only;omega,?_⟩
     have:¬ (b.length:Int) - (Qp b a bad).2.1<(Qp b a bad).1:=fun h=>h2 (.inr h)
     simp only;omega
 · unfold Vg at hb ⊢
   split at hb
   · cases hb
   · rename_i h2
     rw [if_neg h2]
     have h3:(Qp b a false).2.2=false:=by
      cases h:(Qp b a false).2.2 with
      | true=>exact absurd (.inl h) h2
      | false=>rfl
     have:=Xu h3
     simp only;omega
def bkF (b:List UInt8) (a:Nat) (bad:Bool):Bk × Nat × Bool :=
 (((Vg b a bad).1,(Yd b (Vg b a bad).2.1 (Vg b a bad).2.2).1),(Yd b (Vg b a bad).2.1 (Vg b a bad).2.2).2)
theorem qqQ (b:List UInt8):RdOK b.length (bkF b):=by
 refine ⟨fun a bad h=>?_,fun a h hb=>?_⟩
 · have h1 := (qc8 b).le a bad h
   have h2:=(VM b).le _ (Vg b a bad).2.2 h1.2
   unfold bkF
   exact ⟨by simp only;omega,h2.2⟩
 · have h1 := (qc8 b).le a false h
   have h2:=(VM b).le _ (Vg b a false).2.2 h1.2
   unfold bkF at hb ⊢
   simp only at hb ⊢
   cases hc:(Vg b a false).2.2 with
   | true =>
     rw [hc] at hb
     unfold Yd at hb
     rw [JK,ZP] at hb;cases hb
   | false=>have:=(qc8 b).adv a h hc;rw [hc] at h2;omega
def qqB (b:List UInt8) (a:Nat) (bad:Bool):Sht × Nat × Bool :=
 let N:=Qp b a bad
 let B:=Qp b N.2.1 N.2.2
 let A:=Qp b B.2.1 B.2.2
 let P:=Yd b A.2.1 A.2.2
 (⟨N.1,B.1,A.1,P.1⟩,P.2)
theorem qpu (b:List UInt8):RdOK b.length (qqB b):=by
 refine ⟨fun a bad h=>?_,fun a h hb=>?_⟩
 · unfold qqB
   dsimp only
   have h1:=jk (bad:=bad) h
   generalize Qp b a bad=N at *
   have h2:=jk (bad:=N.2.2) h1.2
   generalize Qp b N.2.1 N.2.2=B at *
   have h3:=jk (bad:=B.2.2) h2.2
   generalize Qp b B.2.1 B.2.2=A at *
   have h4:=(VM b).le _ A.2.2 h3.2
   exact ⟨by omega,h4.2⟩
 · unfold qqB at hb ⊢
   dsimp only at hb ⊢
   have h1:=jk (bad:=false) h
   cases hc:(Qp b a false).2.2 with
   | true =>
     rw [hc,JK] at hb
     rw [JK] at hb
     unfold Yd at hb
     rw [JK,ZP] at hb;cases hb
   | false =>
     have h0:=Xu hc
     rw [hc] at hb
     generalize (Qp b a false).2.1=N at *
     have h2:=jk (bad:=false) h1.2
     generalize Qp b N false=B at *
     have h3:=jk (bad:=B.2.2) h2.2
     generalize Qp b B.2.1 B.2.2=A at *
     have h4:=(VM b).le _ A.2.2 h3.2
     omega
def qfP (b:List UInt8):Dy × Bool :=
 let N:=Qp b 0 false
 let R:=itF (bkF b) N.1.toNat N.2.1 N.2.2
 let B:=Qp b R.2.1 R.2.2
 let L:=Qp b B.2.1 B.2.2
 let P:=Yd b L.2.1 L.2.2
 let M:=Qp b P.2.1 P.2.2
 let S:=itF (qqB b) M.1.toNat M.2.1 M.2.2
 (⟨R.1,B.1,L.1,P.1,S.1⟩,S.2.2)
theorem qej {P:Program} {f:FuncId} {xs:List AV} {hp:List HObj} {K:AV→List HObj→Prop} (h:zG P f xs hp fun x H=>∃ y,Wk x y∧K y H):zG P f xs hp K:=by
 intro ro n w g vs hok hvs hrep
 refine (h ro n w g vs hok hvs hrep).mono ?_
 rintro e w' ⟨v,x,H,g',rfl,⟨y,hk,hK⟩,hx,hok',hu⟩
 exact ⟨v,y,H,g',rfl,hK,hk.rep hx,hok',hu⟩
def qi9 : Nat → List UInt8 → Int → Int → Int × List UInt8 × Bool
 | 0,r,_,_=>(0,r,true)
 | _+1,[],_,_=>(0,[],true)
 | k+1,c::r,n,pl=>if (c.toNat:Int)<128 then (if 1099511627776<n+pl*((c.toNat:Int) % 128) then (0,r,true) else (n+pl*((c.toNat:Int) % 128),r,false)) else qi9 k r (n+pl*((c.toNat:Int) % 128)) (pl*128)
abbrev Rd:=List UInt8 × Bool
def qR (s:Rd):Int × Rd:=if s.2=true then (0,s.1,true) else qi9 7 s.1 0 1
def QC (s:Rd):Int × Rd:=if ((qR s).2.1.length:Int)<(qR s).1 then (0,(qR s).2.1,true) else qR s
def itC {α : Type} (rd : Rd → α × Rd) : Nat → Rd → List α × Rd
 | 0,s=>([],s)
 | k+1,s=>((rd s).1::(itC rd k (rd s).2).1,(itC rd k (rd s).2).2)
def cPt (s:Rd):Pt × Rd :=
 ((if 26≤(qR s).1 then (0,(qR s).1 - 26,(qR (qR s).2).1) else (97+(qR s).1 % 26,-1,(qR (qR s).2).1)),(qR (qR s).2).2)
def Zq (s:Rd):List Pt × Rd:=itC cPt (QC s).1.toNat (QC s).2
def V6 (s:Rd):List UInt8 × Rd:=((QC s).2.1.take (QC s).1.toNat,(QC s).2.1.drop (QC s).1.toNat,(QC s).2.2)
def cBk (s:Rd):Bk × Rd:=(((V6 s).1,(Zq (V6 s).2).1),(Zq (V6 s).2).2)
def qa9 (s:Rd):Sht × Rd :=
 let N:=qR s
 let B:=qR N.2
 let A:=qR B.2
 let P:=Zq A.2
 (⟨N.1,B.1,A.1,P.1⟩,P.2)
def qhb (b:List UInt8):Dy × Bool :=
 let N:=QC (b,false)
 let R:=itC cBk N.1.toNat N.2
 let B:=qR R.2
 let L:=qR B.2
 let P:=Zq L.2
 let M:=QC P.2
 let S:=itC qa9 M.1.toNat M.2
 (⟨R.1,B.1,L.1,P.1,S.1⟩,S.2.2)
structure Sm {α:Type} (b:List UInt8) (x:α × Rd) (y:α × Nat × Bool):Prop where
 bad:x.2.2=y.2.2
 ok:y.2.2=false→x.1=y.1∧x.2.1=b.drop y.2.1∧y.2.1≤b.length
structure Rs {α:Type} (b:List UInt8) (rd:Rd→α × Rd) (rf:Nat→Bool→α × Nat × Bool):Prop where
 good:∀ a,a≤b.length→Sm b (rd (b.drop a,false)) (rf a false)
 badC:∀ s,(rd (s,true)).2.2=true
 badF:∀ a,(rf a true).2.2=true
theorem Rs.next {α β:Type} {b:List UInt8} {rd:Rd→α × Rd} {rf:Nat→Bool→α × Nat × Bool} (h:Rs b rd rf) {x:β × Rd} {y:β × Nat × Bool} (hs:Sm b x y):Sm b (rd x.2) (rf y.2.1 y.2.2):=by
 obtain ⟨v,s,bd⟩:=x
 obtain ⟨w,a,bd'⟩:=y
 obtain ⟨h1,h2⟩:=hs
 simp only at h1 h2 ⊢
 subst h1
 cases bd with
 | true=>exact ⟨by rw [h.badC,h.badF],fun e=>by rw [h.badF] at e;cases e⟩
 | false =>
   obtain ⟨_,rfl,h4⟩:=h2 rfl
   exact h.good a h4
theorem qn7 {b:List UInt8}:∀ (k j a:Nat) (n:Int),k+j=7→a≤b.length→Sm b (qi9 k (b.drop a) n ((128 ^ j:Nat):Int)) (qdc b a n ((128 ^ j:Nat):Int)):=by
 intro k
 induction k with
 | zero =>
   intro j a n hj ha
   have:j=7:=by omega
   subst this
   unfold qdc
   split
   · rw [if_pos (by decide)]
     exact ⟨rfl,fun h=>by cases h⟩
   · exact ⟨rfl,fun h=>by cases h⟩
 | succ k ih =>
   intro j a n hj ha
   have hp:¬ (4398046511104:Int)<((128 ^ j:Nat):Int):=by
    have:(128:Nat) ^ j≤128 ^ 6:=Nat.pow_le_pow_right (by decide) (by omega)
    have e:(128:Nat) ^ 6=4398046511104:=by decide
    omega
   unfold qdc
   by_cases e:a<b.length
   · rw [dif_pos e, if_neg hp, List.drop_eq_getElem_cons e]
     show Sm b (if (b[a].toNat:Int)<128 then _ else _) _
     split
     · generalize n + ((128 ^ j : Nat) : Int) * ((b[a].toNat : Int) % 128) = X
       by_cases h2:1099511627776<X
       · rw [if_pos h2,decide_eq_true h2]
         exact ⟨rfl,fun h=>by cases h⟩
       · rw [if_neg h2,decide_eq_false h2]
         exact ⟨rfl,fun _=>⟨rfl,rfl,e⟩⟩
     · have := ih (j + 1) (a + 1) (n + ((128 ^ j : Nat) : Int) * ((b[a].toNat : Int) % 128)) (by omega) e
       have e2:(((128 ^ (j+1):Nat)):Int)=((128 ^ j:Nat):Int)*128:=by rw [Nat.pow_succ,Int.natCast_mul];rfl
       rw [e2] at this
       exact this
   · rw [dif_neg e,List.drop_eq_nil_of_le (by omega)]
     exact ⟨rfl,fun h=>by cases h⟩
theorem Zw (b:List UInt8):Rs b qR (Qp b):=⟨fun a ha=>qn7 7 0 a 0 rfl ha,fun _=>rfl,fun _=>rfl⟩
theorem qj7 {α : Type} {n : Nat} {rd : Nat → Bool → α × Nat × Bool} (h : RdOK n rd) : ∀ (k a : Nat) (bad : Bool),a ≤ n → (itF rd k a bad).2.2 = false → a + k ≤ (itF rd k a bad).2.1
 | 0,a,bad,ha,_=>Nat.le_refl _
 | k+1,a,true,ha,hb=>by rw [ZP] at hb;cases hb
 | k+1,a,false,ha,hb=>by
   rw [qj8] at hb ⊢
   have h1:=h.le a false ha
   have h2:=qj7 h k (rd a false).2.1 (rd a false).2.2 h1.2 hb
   have h3:(rd a false).2.2=false:=by
    cases hc:(rd a false).2.2 with
    | false=>rfl
    | true=>simp only [hc,ZP] at hb;cases hb
   have:=h.adv a ha h3
   simp only at h2 ⊢;omega
theorem qcZ {α : Type} {rd : Rd → α × Rd} (h : ∀ s,(rd (s,true)).2.2 = true) : ∀ (k : Nat) (s : Rd),s.2 = true → (itC rd k s).2.2 = true
 | 0,s,hs=>hs
 | k+1,s,hs=>by
   obtain ⟨s,bd⟩:=s
   simp only at hs;subst hs
   exact qcZ h k _ (h s)
theorem qr1 {α β : Type} {b : List UInt8} {rd : Rd → α × Rd} {rf : Nat → Bool → α × Nat × Bool} (h : Rs b rd rf) : ∀ (k : Nat) {x : β × Rd} {y : β × Nat × Bool},Sm b x y → Sm b (itC rd k x.2) (itF rf k y.2.1 y.2.2)
 | 0,x,y,hs=>⟨hs.bad,fun e=>⟨rfl,(hs.ok e).2⟩⟩
 | k+1, x, y, hs=>by
   cases hb:y.2.2 with
   | true =>
     rw [ZP]
     exact ⟨qcZ h.badC _ _ (hs.bad.trans hb),fun e=>by cases e⟩
   | false =>
     have hn:=h.next hs
     have hi:=qr1 h k hn
     rw [hb] at hn hi
     rw [qj8]
     refine ⟨hi.bad,fun e=>?_⟩
     have h3:(rf y.2.1 false).2.2=false:=by
      cases hc:(rf y.2.1 false).2.2 with
      | false=>rfl
      | true=>simp only [hc,ZP] at e;cases e
     have o1:=hn.ok h3
     have o2:=hi.ok e
     refine ⟨?_,o2.2⟩
     show (rd x.2).1::_=_
     rw [o1.1,o2.1]
theorem qgj {α β : Type} {b : List UInt8} {rd : Rd → α × Rd} {rf : Nat → Bool → α × Nat × Bool} (h : Rs b rd rf) (hr : RdOK b.length rf) {x : β × Rd} {y : β × Nat × Bool} (hs : Sm b x y) :
 Sm b (itC rd (QC x.2).1.toNat (QC x.2).2) (itF rf (Qp b y.2.1 y.2.2).1.toNat (Qp b y.2.1 y.2.2).2.1 (Qp b y.2.1 y.2.2).2.2):=by
 have hn:=(Zw b).next hs
 unfold QC
 split
 · rename_i hlt
   have hbad:(itF rf (Qp b y.2.1 y.2.2).1.toNat (Qp b y.2.1 y.2.2).2.1 (Qp b y.2.1 y.2.2).2.2).2.2=true:=by
    cases hb:(Qp b y.2.1 y.2.2).2.2 with
    | true=>rw [ZP]
    | false =>
      obtain ⟨e1,e2,e3⟩:=hn.ok hb
      cases hf:(itF rf (Qp b y.2.1 y.2.2).1.toNat (Qp b y.2.1 y.2.2).2.1 false).2.2 with
      | true=>rfl
      | false =>
        have a1:=qj7 hr _ _ _ e3 hf
        have a2:=(qc2 hr (Qp b y.2.1 y.2.2).1.toNat _ false e3).2.1
        rw [e1,e2,List.length_drop] at hlt
        omega
   exact ⟨by rw [hbad];rfl,fun e=>by rw [hbad] at e;cases e⟩
 · have hi := qr1 h (qR x.2).1.toNat hn
   cases hb:(Qp b y.2.1 y.2.2).2.2 with
   | true =>
     rw [ZP]
     exact ⟨qcZ h.badC _ _ (hn.bad.trans hb),fun e=>by cases e⟩
   | false =>
     rw [(hn.ok hb).1,hb] at hi
     rw [(hn.ok hb).1]
     exact hi
theorem qhB (s:List UInt8):(QC (s,true)).2.2=true:=by
 unfold QC;split <;> rfl
theorem qsh (b:List UInt8):Rs b cPt (ptF b):=by
 refine ⟨fun a ha=>?_,fun s=>rfl,fun a=>rfl⟩
 have h1:Sm b (qR (b.drop a,false)) (Qp b a false):=(Zw b).good a ha
 have h2:=(Zw b).next h1
 unfold cPt ptF
 refine ⟨h2.bad,fun e=>?_⟩
 have hb:(Qp b a false).2.2=false:=by
  cases hc:(Qp b a false).2.2 with
  | false=>rfl
  | true=>simp only [hc,JK] at e;cases e
 obtain ⟨o1,o2⟩:=h2.ok e
 refine ⟨?_,o2⟩
 simp only [(h1.ok hb).1,o1]
theorem ZZ (b:List UInt8):Rs b Zq (Yd b):=by
 refine ⟨fun a ha=>?_,fun s=>qcZ (qsh b).badC _ _ (qhB s),fun a=>by unfold Yd;rw [JK,ZP]⟩
 exact qgj (qsh b) (qkz b) (x:=((),b.drop a,false)) (y:=((),a,false)) ⟨rfl,fun _=>⟨rfl,rfl,ha⟩⟩
theorem qgl (b:List UInt8):Rs b V6 (Vg b):=by
 refine ⟨fun a ha=>?_,fun s=>qhB s,fun a=>rfl⟩
 have h1:Sm b (qR (b.drop a,false)) (Qp b a false):=(Zw b).good a ha
 have hR:=qdd b a false ha
 by_cases hb:(Qp b a false).2.2=true
 · have e1 : Vg b a false = ([],(Qp b a false).2.1,true) := by unfold Vg; rw [if_pos (.inl hb)]
   rw [e1]
   refine ⟨?_,fun e=>by cases e⟩
   show (QC (b.drop a,false)).2.2=true
   unfold QC
   split
   · rfl
   · exact h1.bad.trans hb
 · have hb' : (Qp b a false).2.2 = false := by simpa using hb
   obtain ⟨e1,e2,e3⟩:=h1.ok hb'
   have e4:=h1.bad
   have eM:QC (b.drop a,false)=if ((qR (b.drop a,false)).2.1.length:Int)<(qR (b.drop a,false)).1 then (0,(qR (b.drop a,false)).2.1,true) else qR (b.drop a,false):=rfl
   have eF:Vg b a false=if (Qp b a false).2.2=true∨(b.length:Int) - (Qp b a false).2.1<(Qp b a false).1 then ([],(Qp b a false).2.1,true) else ((b.drop (Qp b a false).2.1).take (Qp b a false).1.toNat,(Qp b a false).2.1+(Qp b a false).1.toNat,false):=rfl
   have eC:V6 (b.drop a,false)=((QC (b.drop a,false)).2.1.take (QC (b.drop a,false)).1.toNat,(QC (b.drop a,false)).2.1.drop (QC (b.drop a,false)).1.toNat,(QC (b.drop a,false)).2.2):=rfl
   generalize Qp b a false=T at *
   generalize qR (b.drop a,false)=C at *
   obtain ⟨n,a',bd⟩:=T
   obtain ⟨n2,r,bd2⟩:=C
   simp only at *
   subst hb'
   subst e1
   subst e2
   subst e4
   by_cases hc:(b.length:Int) - a'<n2
   · rw [if_pos (by rw [List.length_drop]; omega)] at eM
     rw [if_pos (.inr hc)] at eF
     rw [eC,eM,eF]
     exact ⟨rfl,fun e=>by cases e⟩
   · rw [if_neg (by rw [List.length_drop]; omega)] at eM
     rw [if_neg (by rintro (h | h);cases h;exact hc h)] at eF
     rw [eC,eM,eF]
     exact ⟨rfl,fun _=>⟨rfl,by simp only [List.drop_drop],by simp only;omega⟩⟩
theorem Rs.bC {α:Type} {b:List UInt8} {rd:Rd→α × Rd} {rf:Nat→Bool→α × Nat × Bool} (h:Rs b rd rf) {s:Rd} (hs:s.2=true):(rd s).2.2=true:=by
 obtain ⟨s,bd⟩:=s
 simp only at hs;subst hs;exact h.badC s
theorem Rs.bF {α:Type} {b:List UInt8} {rd:Rd→α × Rd} {rf:Nat→Bool→α × Nat × Bool} (h:Rs b rd rf) {a:Nat} {bad:Bool} (hs:bad=true):(rf a bad).2.2=true:=by
 subst hs;exact h.badF a
theorem Rs.fF {α:Type} {b:List UInt8} {rd:Rd→α × Rd} {rf:Nat→Bool→α × Nat × Bool} (h:Rs b rd rf) {a:Nat} {bad:Bool} (hs:(rf a bad).2.2=false):bad=false:=by
 cases bad with
 | false=>rfl
 | true=>rw [h.badF] at hs;cases hs
theorem qtP (b:List UInt8):Rs b cBk (bkF b):=by
 refine ⟨fun a ha=>?_,fun s=>(ZZ b).bC ((qgl b).bC rfl),fun a=>(ZZ b).bF ((qgl b).bF rfl)⟩
 have h1:=(qgl b).good a ha
 have h2:=(ZZ b).next h1
 unfold cBk bkF
 refine ⟨h2.bad,fun e=>?_⟩
 obtain ⟨o1,o2⟩:=h2.ok e
 refine ⟨?_,o2⟩
 simp only [(h1.ok ((ZZ b).fF e)).1,o1]
theorem qsm (b:List UInt8):Rs b qa9 (qqB b):=by
 refine ⟨fun a ha=>?_,fun s=>(ZZ b).bC ((Zw b).bC ((Zw b).bC ((Zw b).bC rfl))),fun a=>(ZZ b).bF ((Zw b).bF ((Zw b).bF ((Zw b).bF rfl)))⟩
 have h1:=(Zw b).good a ha
 have h2:=(Zw b).next h1
 have h3:=(Zw b).next h2
 have h4:=(ZZ b).next h3
 unfold qa9 qqB
 refine ⟨h4.bad,fun e=>?_⟩
 obtain ⟨o1,o2⟩:=h4.ok e
 have f3:=(ZZ b).fF e
 have f2:=(Zw b).fF f3
 have f1:=(Zw b).fF f2
 refine ⟨?_,o2⟩
 simp only [(h1.ok f1).1,(h2.ok f2).1,(h3.ok f3).1,o1]
theorem qlT (b:List UInt8):(qhb b).2=(qfP b).2∧((qfP b).2=false→(qhb b).1=(qfP b).1):=by
 have k0:Sm b ((),b,false) ((),0,false):=⟨rfl,fun _=>⟨rfl,rfl,Nat.zero_le _⟩⟩
 have k1:=qgj (qtP b) (qqQ b) k0
 have k2:=(Zw b).next k1
 have k3:=(Zw b).next k2
 have k4:=(ZZ b).next k3
 have k5:=qgj (qsm b) (qpu b) k4
 refine ⟨k5.bad,fun e=>?_⟩
 have itf:∀ {α:Type} {rd:Nat→Bool→α × Nat × Bool} {k a:Nat} {bad:Bool},(itF rd k a bad).2.2=false→bad=false:=by
  intro α rd k a bad h
  cases bad with
  | false=>rfl
  | true=>rw [ZP] at h;cases h
 have f4:=(Zw b).fF (itf e)
 have f3:=(ZZ b).fF f4
 have f2:=(Zw b).fF f3
 have f1:=(Zw b).fF f2
 show Dy.mk _ _ _ _ _=Dy.mk _ _ _ _ _
 rw [Dy.mk.injEq]
 exact ⟨(k1.ok f1).1,(k2.ok f2).1,(k3.ok f3).1,(k4.ok f4).1,(k5.ok e).1⟩
theorem qaA {H:List HObj} {ids:List Nat} {id:Nat} {o:HObj} (h:∀ i∈ids,i<H.length) (hid:id<H.length) (j:Nat):qr (qH H (zB ids++[(id,o)])) j=if j=id then some o else if j∈ids then some .gone else qr H j:=by
 rw [zt (fun p hp => by
  rw [List.mem_append] at hp
  rcases hp with hp | hp
  · simp only [zB,List.mem_map] at hp
    obtain ⟨i,hi,rfl⟩:=hp
    exact Nat.le_of_lt (h i hi)
  · simp at hp;subst hp;exact Nat.le_of_lt hid),ji]
 simp only [Hp.set]
 split
 · rfl
 · rw [Qk]
   split
   · rfl
   · exact zh _ _
theorem AccG.pur2 {hp x sz n cs} (h:AccG hp x sz n cs):∃ ids,zu (hpf hp) x=some (.sl (decide (n=0)) n cs,ids)∧∀ i∈ids,rid x=some i∧i<hp.length:=by
 obtain ⟨ids,h1,h2⟩:=h.pur
 rcases h with ⟨rfl,_,_⟩ | ⟨id,rfl,_⟩
 · exact ⟨ids,h1,h2⟩
 · exact ⟨ids,h1,h2⟩
def qfw (b:List UInt8) (d:Dy) (bad:Bool):Int:=if bad=true then 8 else if W9 d=0∧qev d=b then 0 else 8
def qig (b:List UInt8) (d:Dy) (bad:Bool):Dy:=if qfw b d bad=0 then d else dy0
end Go.AM

set_option maxRecDepth 100000
namespace Go.AM
open Go.RowKit Go.Proofs
def qdS:AC:=Subtype.val (p:=fun g=>qo Tryz.prog Tryz.f19 [2,3]=some g) (by refine ⟨?g,?h⟩;case h=>conv=>lhs;reduce)
theorem qeA:qo Tryz.prog Tryz.f19 [2,3]=some qdS:=by kernel_rfl
theorem qfg:ZR Tryz.prog Tryz.f19.results.toList=some [(2,some (true,4)),(3,none)]:=by kernel_rfl
def QV:AC:=Subtype.val (p:=fun g=>qo Tryz.prog Tryz.f21 [2,3]=some g) (by refine ⟨?g,?h⟩;case h=>conv=>lhs;reduce;simp only[qwo,qwp,UInt8.reduceOfNat,Int.reduceOfNat,Int.reduceNegSucc])
theorem qeC:qo Tryz.prog Tryz.f21 [2,3]=some QV:=by kernel_rfl
def qjh:AC:=Subtype.val (p:=fun g=>qo Tryz.prog Tryz.f24 [2,3,4]=some g) (by refine ⟨?g,?h⟩;case h=>conv=>lhs;reduce)
theorem qip:qo Tryz.prog Tryz.f24 [2,3,4]=some qjh:=by kernel_rfl
theorem qiQ:ZR Tryz.prog Tryz.f24.results.toList=some [(2,some (true,5)),(3,none),(4,none)]:=by kernel_rfl
def qgT:AC:=Subtype.val (p:=fun g=>qo Tryz.prog Tryz.f26 [2,3]=some g) (by refine ⟨?g,?h⟩;case h=>conv=>lhs;reduce;simp only[qwo,qwp,UInt8.reduceOfNat,Int.reduceOfNat,Int.reduceNegSucc])
theorem qfZ:qo Tryz.prog Tryz.f26 [2,3]=some qgT:=by kernel_rfl
def qdT:AC:=Subtype.val (p:=fun g=>qo Tryz.prog Tryz.f31 [4,5]=some g) (by refine ⟨?g,?h⟩;case h=>conv=>lhs;reduce)
theorem qeB:qo Tryz.prog Tryz.f31 [4,5]=some qdT:=by kernel_rfl
theorem qfh:ZR Tryz.prog Tryz.f31.results.toList=some [(4,some (true,4)),(5,none)]:=by kernel_rfl
def WO:AC:=Subtype.val (p:=fun g=>qo Tryz.prog Tryz.f33 [2]=some g) (by refine ⟨?g,?h⟩;case h=>conv=>lhs;reduce)
theorem X8:qo Tryz.prog Tryz.f33 [2]=some WO:=by kernel_rfl
def qgV:AC:=Subtype.val (p:=fun g=>qo Tryz.prog Tryz.f36 [4,5]=some g) (by refine ⟨?g,?h⟩;case h=>conv=>lhs;reduce)
theorem qf1:qo Tryz.prog Tryz.f36 [4,5]=some qgV:=by kernel_rfl
def qnl:AC:=Subtype.val (p:=fun g=>qo Tryz.prog Tryz.f38 [6,7]=some g) (by refine ⟨?g,?h⟩;case h=>conv=>lhs;reduce)
theorem qjM:qo Tryz.prog Tryz.f38 [6,7]=some qnl:=by kernel_rfl
def qgW:AC:=Subtype.val (p:=fun g=>qo Tryz.prog Tryz.f40 [6,7]=some g) (by refine ⟨?g,?h⟩;case h=>conv=>lhs;reduce)
theorem qf2:qo Tryz.prog Tryz.f40 [6,7]=some qgW:=by kernel_rfl
def qgU:AC:=Subtype.val (p:=fun g=>qo Tryz.prog Tryz.f42 [6,7]=some g) (by refine ⟨?g,?h⟩;case h=>conv=>lhs;reduce)
theorem qf0:qo Tryz.prog Tryz.f42 [6,7]=some qgU:=by kernel_rfl
def qgX:AC:=Subtype.val (p:=fun g=>qo Tryz.prog Tryz.f44 [6]=some g) (by refine ⟨?g,?h⟩;case h=>conv=>lhs;reduce)
theorem qf3:qo Tryz.prog Tryz.f44 [6]=some qgX:=by kernel_rfl
def ZK:AC:=Subtype.val (p:=fun g=>qo Tryz.prog Tryz.f46 [2,3]=some g) (by refine ⟨?g,?h⟩;case h=>conv=>lhs;reduce)
theorem qcG:qo Tryz.prog Tryz.f46 [2,3]=some ZK:=by kernel_rfl
def zU:AC:=Subtype.val (p:=fun g=>qo Tryz.prog Tryz.f48 [2,3]=some g) (by refine ⟨?g,?h⟩;case h=>conv=>lhs;reduce)
theorem qcF:qo Tryz.prog Tryz.f48 [2,3]=some zU:=by kernel_rfl
theorem qdm:ZR Tryz.prog Tryz.f48.results.toList=some [(2,some (true,5)),(3,none)]:=by kernel_rfl
def qdX:AC:=Subtype.val (p:=fun g=>qo Tryz.prog Tryz.f58 [2,3]=some g) (by refine ⟨?g,?h⟩;case h=>conv=>lhs;reduce;simp only[qwo,qwp,UInt8.reduceOfNat,Int.reduceOfNat,Int.reduceNegSucc])
theorem qeH:qo Tryz.prog Tryz.f58 [2,3]=some qdX:=by kernel_rfl
theorem qfi:ZR Tryz.prog Tryz.f58.results.toList=some [(2,some (true,4)),(3,none)]:=by kernel_rfl
def XE:AC:=(.seq (.rgn [⟨none,[.mv 2 (.k (.v (.string ⟨#[]⟩))),.mv 3 (.k (B false))]⟩] [0]) (.seq (.rgn [⟨none,[.mv 4 (.k (.v (.string ⟨#[]⟩)))]⟩] [0,4]) (.seq (.seq (.rgn [⟨none,[.mv 10 (.t 0),.len 11 (.t 10),.mv 12 (.k (I 0))]⟩] [4,10,11,12]) (.block 0 (.loop (.seq (.rgn [⟨none,[.bin 13 .lss (.t 12) (.t 11)]⟩] [4,10,11,12,13]) (.seq (.cond (.t 13) .skip (.exit 0)) (.seq (.block 1 (.seq (.rgn [⟨none,[.ia 14 3 (.t 10) (.t 12),.ld 15 true 3 (.t 14),.al 6 [.v (.int .u8 0),.v (.string ⟨#[]⟩),(I 0)],.st 3 (.t 6) (.t 15)]⟩] [4,6,10,11,12]) (.seq (.rgn [⟨none,[.fa 16 (.t 6) 1,.ld 17 false 1 (.t 16),.mv 7 (.t 17)]⟩] [4,6,7,10,11,12]) (.seq (.seq (.rgn [⟨none,[.fa 18 (.t 6) 1,.ld 19 false 1 (.t 18),.bin 20 .eql (.t 19) (.k (.v (.string ⟨#[]⟩)))]⟩] [4,6,7,10,11,12,20]) (.cond (.t 20) (.rgn [⟨none,[.fa 21 (.t 6) 0,.ld 22 false 1 (.t 21),.bsl 23 1 1 [.v (.int .u8 0)] [(0,(.t 22))],.b2s 24 (.t 23),.mv 7 (.t 24)]⟩] [4,6,7,10,11,12]) .skip)) (.seq (.seq (.rgn [⟨none,[.fa 25 (.t 6) 2,.ld 26 false 1 (.t 25),.bin 27 .neq (.t 26) (.k (I 1))]⟩] [4,6,7,10,11,12,27]) (.cond (.t 27) (.rgn [⟨none,[.mv 28 (.t 7),.fa 29 (.t 6) 2,.ld 30 false 1 (.t 29),.call 31 108 [.t 30],.bin 32 .add (.k (.v (.string ⟨#[42]⟩))) (.t 31),.bin 33 .add (.t 28) (.t 32),.mv 7 (.t 33)]⟩] [4,6,7,10,11,12]) .skip)) (.seq (.rgn [⟨none,[.mv 35 (.t 7),.call 36 109 [.t 35],.mv 34 (.t 36),.ext 37 (.t 34) 0,.ext 38 (.t 34) 1,.al 8 [.v (.int .u8 0),.v (.string ⟨#[]⟩),(I 0)],.st 3 (.t 8) (.t 37),.mv 9 (.t 38)]⟩] [4,6,7,8,9,10,11,12]) (.seq (.seq (.drw [⟨none,[.mv 39 (.t 9),.un 40 .not (.t 39),.mv 41 (.t 40)]⟩,⟨some (41,false),[.ld 42 true 3 (.t 8),.ld 43 true 3 (.t 6),.eqk 44 true (true,[.int,.str,.int]) (.t 42) (.t 43)]⟩,⟨none,[.pick 45 (.t 41) (.k (B true)) (.t 44),.mv 46 (.t 45)]⟩,⟨some (46,false),[.ld 47 true 3 (.t 8),.call 48 110 [],.eqk 49 false (true,[.int,.str,.int]) (.t 47) (.t 48)]⟩,⟨none,[.pick 50 (.t 46) (.k (B true)) (.t 49)]⟩] [(3,4),(8,9)] [4,7,10,11,12,50]) (.cond (.t 50) (.seq (.rgn [⟨none,[.mv 2 (.k (.v (.string ⟨#[]⟩))),.mv 3 (.k (B false))]⟩] [2,3]) .ret) .skip)) (.rgn [⟨none,[.mv 51 (.t 4),.mv 52 (.t 7),.bin 53 .add (.k (.v (.string ⟨#[32]⟩))) (.t 52),.bin 54 .add (.t 51) (.t 53),.mv 4 (.t 54)]⟩] [4,10,11,12])))))))) (.rgn [⟨none,[.bin 55 .add (.t 12) (.k (I 1)),.mv 12 (.t 55)]⟩] [4,10,11,12]))))))) (.seq (.rgn [⟨none,[.mv 56 (.t 4),.mv 2 (.t 56),.mv 3 (.k (B true))]⟩] [2,3]) .ret))))
theorem qbh:qo Tryz.prog Tryz.f63 [2,3]=some XE:=by kernel_rfl
def qck:AC:=Subtype.val (p:=fun g=>qo Tryz.prog Tryz.f67 [2,3,4]=some g) (by refine ⟨?g,?h⟩;case h=>conv=>lhs;reduce)
theorem qf5:qo Tryz.prog Tryz.f67 [2,3,4]=some qck:=by kernel_rfl
def Z4:AC:=Subtype.val (p:=fun g=>qo Tryz.prog Tryz.f70 [2]=some g) (by refine ⟨?g,?h⟩;case h=>conv=>lhs;reduce)
theorem qeF:qo Tryz.prog Tryz.f70 [2]=some Z4:=by kernel_rfl
def qdU:AC:=Subtype.val (p:=fun g=>qo Tryz.prog Tryz.f74 [4]=some g) (by refine ⟨?g,?h⟩;case h=>conv=>lhs;reduce)
theorem qeD:qo Tryz.prog Tryz.f74 [4]=some qdU:=by kernel_rfl
def qdY:AC:=Subtype.val (p:=fun g=>qo Tryz.prog Tryz.f75 [4]=some g) (by refine ⟨?g,?h⟩;case h=>conv=>lhs;reduce)
theorem qeJ:qo Tryz.prog Tryz.f75 [4]=some qdY:=by kernel_rfl
def XC:AC:=Subtype.val (p:=fun g=>qo Tryz.prog Tryz.f76 [2]=some g) (by refine ⟨?g,?h⟩;case h=>conv=>lhs;reduce)
theorem qbf:qo Tryz.prog Tryz.f76 [2]=some XC:=by kernel_rfl
def qdV:AC:=Subtype.val (p:=fun g=>qo Tryz.prog Tryz.f79 [2]=some g) (by refine ⟨?g,?h⟩;case h=>conv=>lhs;reduce)
theorem qeE:qo Tryz.prog Tryz.f79 [2]=some qdV:=by kernel_rfl
def Xz:AC:=Subtype.val (p:=fun g=>qo Tryz.prog Tryz.f80 [4]=some g) (by refine ⟨?g,?h⟩;case h=>conv=>lhs;reduce)
theorem qbe:qo Tryz.prog Tryz.f80 [4]=some Xz:=by kernel_rfl
theorem qbq:ZR Tryz.prog Tryz.f80.results.toList=some [(4,some (true,26))]:=by kernel_rfl
def qbA:AC:=Subtype.val (p:=fun g=>qo Tryz.prog Tryz.f82 [6]=some g) (by refine ⟨?g,?h⟩;case h=>conv=>lhs;reduce)
theorem qcN:qo Tryz.prog Tryz.f82 [6]=some qbA:=by kernel_rfl
def qbz:AC:=Subtype.val (p:=fun g=>qo Tryz.prog Tryz.f85 [6]=some g) (by refine ⟨?g,?h⟩;case h=>conv=>lhs;reduce)
theorem qcM:qo Tryz.prog Tryz.f85 [6]=some qbz:=by kernel_rfl
theorem qdq:ZR Tryz.prog Tryz.f85.results.toList=some [(6,some (true,18))]:=by kernel_rfl
def XD:AC:=Subtype.val (p:=fun g=>qo Tryz.prog Tryz.f88 [4]=some g) (by refine ⟨?g,?h⟩;case h=>conv=>lhs;reduce)
theorem qbg:qo Tryz.prog Tryz.f88 [4]=some XD:=by kernel_rfl
def qbG:AC:=Subtype.val (p:=fun g=>qo Tryz.prog Tryz.f90 []=some g) (by refine ⟨?g,?h⟩;case h=>conv=>lhs;reduce)
theorem qcT:qo Tryz.prog Tryz.f90 []=some qbG:=by kernel_rfl
theorem qwg:JO Tryz.f90.results.toList=some []:=by kernel_rfl
def qd9:AC:=Subtype.val (p:=fun g=>qo Tryz.prog Tryz.f91 []=some g) (by refine ⟨?g,?h⟩;case h=>conv=>lhs;reduce)
theorem qeU:qo Tryz.prog Tryz.f91 []=some qd9:=by kernel_rfl
theorem qwj:JO Tryz.f91.results.toList=some []:=by kernel_rfl
def qji:AC:=Subtype.val (p:=fun g=>qo Tryz.prog Tryz.f92 [2]=some g) (by refine ⟨?g,?h⟩;case h=>conv=>lhs;reduce)
theorem qiq:qo Tryz.prog Tryz.f92 [2]=some qji:=by kernel_rfl
def qgQ:AC:=Subtype.val (p:=fun g=>qo Tryz.prog Tryz.f96 [2]=some g) (by refine ⟨?g,?h⟩;case h=>conv=>lhs;reduce)
theorem qfW:qo Tryz.prog Tryz.f96 [2]=some qgQ:=by kernel_rfl
theorem qwk:JO Tryz.f96.results.toList=some [2]:=by kernel_rfl
def qgR:AC:=Subtype.val (p:=fun g=>qo Tryz.prog Tryz.f97 [2]=some g) (by refine ⟨?g,?h⟩;case h=>conv=>lhs;reduce)
theorem qfX:qo Tryz.prog Tryz.f97 [2]=some qgR:=by kernel_rfl
theorem qwl:JO Tryz.f97.results.toList=some [2]:=by kernel_rfl
def qdQ:AC:=Subtype.val (p:=fun g=>qo Tryz.prog Tryz.f98 [2]=some g) (by refine ⟨?g,?h⟩;case h=>conv=>lhs;reduce)
theorem qey:qo Tryz.prog Tryz.f98 [2]=some qdQ:=by kernel_rfl
theorem qwh:JO Tryz.f98.results.toList=some [2]:=by kernel_rfl
def qbt:AC:=Subtype.val (p:=fun g=>qo Tryz.prog Tryz.f99 [2]=some g) (by refine ⟨?g,?h⟩;case h=>conv=>lhs;reduce)
theorem qcE:qo Tryz.prog Tryz.f99 [2]=some qbt:=by kernel_rfl
theorem qwf:JO Tryz.f99.results.toList=some [2]:=by kernel_rfl
def qdZ:AC:=Subtype.val (p:=fun g=>qo Tryz.prog Tryz.f106 [2,3]=some g) (by refine ⟨?g,?h⟩;case h=>conv=>lhs;reduce)
theorem qeK:qo Tryz.prog Tryz.f106 [2,3]=some qdZ:=by kernel_rfl
def qbu:AC:=Subtype.val (p:=fun g=>qo Tryz.prog Tryz.f107 [2]=some g) (by refine ⟨?g,?h⟩;case h=>conv=>lhs;reduce)
theorem qcH:qo Tryz.prog Tryz.f107 [2]=some qbu:=by kernel_rfl
def qgZ:AC:=Subtype.val (p:=fun g=>qo Tryz.prog Tryz.f109 [2,3]=some g) (by refine ⟨?g,?h⟩;case h=>conv=>lhs;reduce;simp only[qwo,qwp,UInt8.reduceOfNat,Int.reduceOfNat,Int.reduceNegSucc])
theorem qf6:qo Tryz.prog Tryz.f109 [2,3]=some qgZ:=by kernel_rfl
theorem qgy:ZR Tryz.prog Tryz.f109.results.toList=some [(2,some (true,3)),(3,none)]:=by kernel_rfl
def qgY:AC:=Subtype.val (p:=fun g=>qo Tryz.prog Tryz.f110 [0]=some g) (by refine ⟨?g,?h⟩;case h=>conv=>lhs;reduce)
theorem qf4:qo Tryz.prog Tryz.f110 [0]=some qgY:=by kernel_rfl
theorem qgx:ZR Tryz.prog Tryz.f110.results.toList=some [(0,some (true,3))]:=by kernel_rfl
def qdW:AC:=Subtype.val (p:=fun g=>qo Tryz.prog Tryz.f114 [2,3]=some g) (by refine ⟨?g,?h⟩;case h=>conv=>lhs;reduce;simp only[qwo,qwp,UInt8.reduceOfNat,Int.reduceOfNat,Int.reduceNegSucc])
theorem qeG:qo Tryz.prog Tryz.f114 [2,3]=some qdW:=by kernel_rfl
def Vt:AC:=Subtype.val (p:=fun g=>qo Tryz.prog Tryz.f115 [0]=some g) (by refine ⟨?g,?h⟩;case h=>conv=>lhs;reduce)
theorem Xc:qo Tryz.prog Tryz.f115 [0]=some Vt:=by kernel_rfl
theorem qwd:JO Tryz.f115.results.toList=some [0]:=by kernel_rfl
def qnm:AC:=(.seq (.rgn [⟨none,[.mv 4 (.k (I 0))]⟩] [0,1]) (.seq (.rgn [⟨none,[.mv 10 (.t 1),.call 11 19 [.t 10],.mv 9 (.t 11),.ext 12 (.t 9) 0,.ext 13 (.t 9) 1,.al 5 [(I 0),.v (.string ⟨#[]⟩),.sl true 0 [],(I 0)],.st 4 (.t 5) (.t 12),.mv 6 (.t 13)]⟩] [0,1,5,6]) (.seq (.seq (.rgn [⟨none,[.mv 14 (.t 6),.bin 15 .neq (.t 14) (.k (I 0))]⟩] [0,1,5,6,15]) (.cond (.t 15) (.seq (.rgn [⟨none,[.mv 16 (.t 6),.mv 4 (.t 16)]⟩] [4]) .ret) .skip)) (.seq (.seq (.rgn [⟨none,[.fa 17 (.t 5) 0,.ld 18 false 1 (.t 17)]⟩] [0,1,5,18]) (.block 0 (.seq (.rgn [⟨none,[.bin 20 .eql (.t 18) (.k (I 5)),.mv 19 (.t 20)]⟩] [0,1,5,18,19]) (.cond (.t 19) (.seq (.rgn [⟨none,[.mv 21 (.t 0),.call 22 142 [.t 21],.mv 4 (.t 22)]⟩] [4]) .ret) (.seq (.rgn [⟨none,[.bin 24 .eql (.t 18) (.k (I 6)),.mv 23 (.t 24)]⟩] [0,1,5,23]) (.cond (.t 23) (.seq (.rgn [⟨none,[.mv 25 (.t 0),.call 26 143 [.t 25],.mv 4 (.t 26)]⟩] [4]) .ret) .skip)))))) (.seq (.rgn [⟨none,[.mv 27 (.t 0),.nilc 28 (.t 27),.fa 29 (.t 28) 0,.ld 30 true 5 (.t 29),.al 7 [.sl true 0 [],(I 0),(I 0),.sl true 0 [],.sl true 0 []],.st 5 (.t 7) (.t 30)]⟩] [0,1,5,7]) (.seq (.seq (.rgn [⟨none,[.mv 31 (.t 0),.ld 32 true 4 (.t 5),.call 33 144 [.t 31,.t 32],.mv 8 (.t 33)]⟩] [0,1,5,7,8]) (.seq (.rgn [⟨none,[.mv 34 (.t 8),.bin 35 .neq (.t 34) (.k (I 0))]⟩] [0,1,5,7,8,35]) (.cond (.t 35) (.seq (.rgn [⟨none,[.mv 36 (.t 8),.mv 4 (.t 36)]⟩] [4]) .ret) .skip))) (.seq (.drw [⟨none,[.mv 37 (.t 0),.mv 38 (.t 0),.nilc 39 (.t 38),.fa 40 (.t 39) 6,.ld 41 false 1 (.t 40),.mv 42 (.t 0),.nilc 43 (.t 42),.fa 44 (.t 43) 7,.ld 45 false 1 (.t 44),.slc 46 15 (.t 41) none (some (.t 45)) none,.call 47 145 [.t 46],.mv 48 (.t 1),.ld 49 true 4 (.t 5),.ld 50 true 5 (.t 7),.mv 51 (.t 0),.nilc 52 (.t 51),.fa 53 (.t 52) 0,.ld 54 true 5 (.t 53),.bld 55 [.v (.string ⟨#[]⟩),(I 0),.v (.string ⟨#[]⟩),.sl true 0 [],(I 0),.sl true 0 [],(I 0),(I 0),.sl true 0 [],.sl true 0 [],.sl true 0 [],(I 0),(I 0),.sl true 0 [],.sl true 0 []] [(0,1,(.t 48)),(1,4,(.t 49)),(5,5,(.t 50)),(10,5,(.t 54))],.bsl 56 1 15 [.v (.string ⟨#[]⟩),(I 0),.v (.string ⟨#[]⟩),.sl true 0 [],(I 0),.sl true 0 [],(I 0),(I 0),.sl true 0 [],.sl true 0 [],.sl true 0 [],(I 0),(I 0),.sl true 0 [],.sl true 0 []] [(0,(.t 55))],.app 57 15 248 (.t 47) (.t 56),.nilc 58 (.t 37),.fa 59 (.t 58) 6,.st 1 (.t 59) (.t 57)]⟩] [(4,8),(4,12),(8,12),(10,12),(4,13),(8,13),(10,13),(12,13),(4,17),(8,17),(10,17),(12,17),(13,17),(4,19),(8,19),(10,19)] [0]) (.seq (.rgn [⟨none,[.mv 60 (.t 0),.nilc 61 (.t 60),.fa 62 (.t 61) 7,.ld 63 false 1 (.t 62),.bin 64 .add (.t 63) (.k (I 1)),.nilc 65 (.t 60),.fa 66 (.t 65) 7,.st 1 (.t 66) (.t 64)]⟩] []) (.seq (.rgn [⟨none,[.mv 4 (.k (I 0))]⟩] [4]) .ret)))))))))
theorem qjN:qo Tryz.prog Tryz.f116 [4]=some qnm:=by kernel_rfl
def YU:AC:=Subtype.val (p:=fun g=>qo Tryz.prog Tryz.f118 [2]=some g) (by refine ⟨?g,?h⟩;case h=>conv=>lhs;reduce)
theorem Wp:qo Tryz.prog Tryz.f118 [2]=some YU:=by kernel_rfl
def YT:AC:=Subtype.val (p:=fun g=>qo Tryz.prog Tryz.f119 [4]=some g) (by refine ⟨?g,?h⟩;case h=>conv=>lhs;reduce)
theorem Wo:qo Tryz.prog Tryz.f119 [4]=some YT:=by kernel_rfl
def qbv:AC:=Subtype.val (p:=fun g=>qo Tryz.prog Tryz.f120 [4]=some g) (by refine ⟨?g,?h⟩;case h=>conv=>lhs;reduce)
theorem qcI:qo Tryz.prog Tryz.f120 [4]=some qbv:=by kernel_rfl
def qd6:AC:=Subtype.val (p:=fun g=>qo Tryz.prog Tryz.f121 [4]=some g) (by refine ⟨?g,?h⟩;case h=>conv=>lhs;reduce)
theorem qeR:qo Tryz.prog Tryz.f121 [4]=some qd6:=by kernel_rfl
theorem qfj:ZR Tryz.prog Tryz.f121.results.toList=some [(4,some (true,26))]:=by kernel_rfl
def qbx:AC:=Subtype.val (p:=fun g=>qo Tryz.prog Tryz.f122 [6]=some g) (by refine ⟨?g,?h⟩;case h=>conv=>lhs;reduce)
theorem qcK:qo Tryz.prog Tryz.f122 [6]=some qbx:=by kernel_rfl
theorem qdo:ZR Tryz.prog Tryz.f122.results.toList=some [(6,some (true,26))]:=by kernel_rfl
def WP:AC:=Subtype.val (p:=fun g=>qo Tryz.prog Tryz.f124 [4]=some g) (by refine ⟨?g,?h⟩;case h=>conv=>lhs;reduce)
theorem X9:qo Tryz.prog Tryz.f124 [4]=some WP:=by kernel_rfl
def qby:AC:=Subtype.val (p:=fun g=>qo Tryz.prog Tryz.f126 [4]=some g) (by refine ⟨?g,?h⟩;case h=>conv=>lhs;reduce)
theorem qcL:qo Tryz.prog Tryz.f126 [4]=some qby:=by kernel_rfl
theorem qdp:ZR Tryz.prog Tryz.f126.results.toList=some [(4,some (true,18))]:=by kernel_rfl
def qd7:AC:=Subtype.val (p:=fun g=>qo Tryz.prog Tryz.f127 [4]=some g) (by refine ⟨?g,?h⟩;case h=>conv=>lhs;reduce)
theorem qeS:qo Tryz.prog Tryz.f127 [4]=some qd7:=by kernel_rfl
theorem qfk:ZR Tryz.prog Tryz.f127.results.toList=some [(4,some (true,18))]:=by kernel_rfl
def qbw:AC:=Subtype.val (p:=fun g=>qo Tryz.prog Tryz.f128 [6]=some g) (by refine ⟨?g,?h⟩;case h=>conv=>lhs;reduce)
theorem qcJ:qo Tryz.prog Tryz.f128 [6]=some qbw:=by kernel_rfl
theorem qdn:ZR Tryz.prog Tryz.f128.results.toList=some [(6,some (true,18))]:=by kernel_rfl
def Vu:AC:=(.rgn [⟨none,[.ld 4 true 5 (.t 1),.ld 5 false 1 (.t 2),.mv 6 (.t 0),.call 7 131 [.t 4,.t 5,.t 6]]⟩] [])
theorem Xd:qo Tryz.prog Tryz.f130 []=some Vu:=by kernel_rfl
def Jm:AC:=Subtype.val (p:=fun g=>qo Tryz.prog Tryz.f131 [6]=some g) (by refine ⟨?g,?h⟩;case h=>conv=>lhs;reduce)
theorem qeI:qo Tryz.prog Tryz.f131 [6]=some Jm:=by kernel_rfl
def qg3:AC:=Subtype.val (p:=fun g=>qo Tryz.prog Tryz.f142 [2]=some g) (by refine ⟨?g,?h⟩;case h=>conv=>lhs;reduce)
theorem qga:qo Tryz.prog Tryz.f142 [2]=some qg3:=by kernel_rfl
def qd2:AC:=Subtype.val (p:=fun g=>qo Tryz.prog Tryz.f143 [2]=some g) (by refine ⟨?g,?h⟩;case h=>conv=>lhs;reduce)
theorem qeN:qo Tryz.prog Tryz.f143 [2]=some qd2:=by kernel_rfl
def qbB:AC:=(.seq (.rgn [⟨none,[.box 3 4 (.t 1),.mv 4 (.k (I 0))]⟩] [0,3]) (.seq (.rgn [⟨none,[.mv 12 (.t 0),.fa 13 (.t 3) 2,.ld 14 false 1 (.t 13),.call 15 162 [.t 12,.t 14],.mv 11 (.t 15),.ext 16 (.t 11) 0,.ext 17 (.t 11) 1,.mv 5 (.t 16),.mv 6 (.t 17)]⟩] [0,3,5,6]) (.seq (.rgn [⟨none,[.mv 18 (.t 0),.nilc 19 (.t 18),.fa 20 (.t 19) 0,.fa 21 (.t 20) 0,.ld 22 false 1 (.t 21),.call 23 76 [.t 22],.mv 7 (.t 23)]⟩] [0,3,5,6,7]) (.seq (.seq (.rgn [⟨none,[.fa 24 (.t 3) 0,.ld 25 false 1 (.t 24)]⟩] [0,3,5,6,7,25]) (.block 0 (.seq (.rgn [⟨none,[.bin 27 .eql (.t 25) (.k (I 1)),.mv 26 (.t 27)]⟩] [0,3,5,6,7,25,26]) (.cond (.t 26) (.seq (.drw [⟨none,[.mv 29 (.t 0),.nilc 30 (.t 29),.fa 31 (.t 30) 5,.ld 32 false 1 (.t 31),.fa 33 (.t 3) 1,.ld 34 false 1 (.t 33),.lku 35 (false,[.str]) (I 0) true (.t 32) (.t 34),.mv 28 (.t 35),.ext 36 (.t 28) 0,.ext 37 (.t 28) 1,.mv 8 (.t 36),.mv 9 (.t 37)]⟩] [(3,5)] [0,3,5,6,7,9]) (.seq (.block 1 (.seq (.rgn [⟨none,[.mv 39 (.t 9),.mv 38 (.t 39)]⟩] [0,3,5,6,7,38]) (.cond (.t 38) (.seq (.rgn [⟨none,[.mv 4 (.k (I 11))]⟩] [4]) .ret) (.seq (.rgn [⟨none,[.mv 41 (.t 0),.nilc 42 (.t 41),.fa 43 (.t 42) 0,.fa 44 (.t 43) 0,.ld 45 false 1 (.t 44),.len 46 (.t 45),.bin 47 .eql (.t 46) (.k (I 32)),.mv 40 (.t 47)]⟩] [0,3,5,6,7,40]) (.cond (.t 40) (.seq (.rgn [⟨none,[.mv 4 (.k (I 10))]⟩] [4]) .ret) (.seq (.rgn [⟨none,[.mv 49 (.t 6),.un 50 .not (.t 49),.mv 48 (.t 50)]⟩] [0,3,5,7,48]) (.cond (.t 48) (.seq (.rgn [⟨none,[.mv 4 (.k (I 5))]⟩] [4]) .ret) (.seq (.rgn [⟨none,[.mv 52 (.t 7),.mv 53 (.t 5),.call 54 75 [.t 52,.t 53],.bin 55 .gtr (.t 54) (.k (I 1099511627776)),.mv 51 (.t 55)]⟩] [0,3,5,51]) (.cond (.t 51) (.seq (.rgn [⟨none,[.mv 4 (.k (I 4))]⟩] [4]) .ret) .skip))))))))) (.seq (.drw [⟨none,[.mv 56 (.t 0),.nilc 57 (.t 56),.fa 58 (.t 57) 5,.ld 59 false 1 (.t 58),.fa 60 (.t 3) 1,.ld 61 false 1 (.t 60),.mv 62 (.t 0),.nilc 63 (.t 62),.fa 64 (.t 63) 0,.fa 65 (.t 64) 0,.ld 66 false 1 (.t 65),.len 67 (.t 66),.ins (false,[.str]) (.t 59) (.t 61) (.t 67)]⟩] [(3,5),(3,10),(5,10)] [0,3,5]) (.seq (.drw [⟨none,[.mv 68 (.t 0),.mv 69 (.t 0),.nilc 70 (.t 69),.fa 71 (.t 70) 0,.fa 72 (.t 71) 0,.ld 73 false 1 (.t 72),.mv 74 (.t 0),.nilc 75 (.t 74),.fa 76 (.t 75) 0,.fa 77 (.t 76) 0,.ld 78 false 1 (.t 77),.len 79 (.t 78),.mv 80 (.t 0),.nilc 81 (.t 80),.fa 82 (.t 81) 0,.fa 83 (.t 82) 0,.ld 84 false 1 (.t 83),.len 85 (.t 84),.slc 86 2 (.t 73) none (some (.t 79)) (some (.t 85)),.fa 87 (.t 3) 1,.ld 88 false 1 (.t 87),.mv 89 (.t 5),.bld 90 [.v (.string ⟨#[]⟩),.sl true 0 []] [(0,1,(.t 88)),(1,1,(.t 89))],.bsl 91 1 2 [.v (.string ⟨#[]⟩),.sl true 0 []] [(0,(.t 90))],.app 92 2 40 (.t 86) (.t 91),.nilc 93 (.t 68),.fa 94 (.t 93) 0,.fa 95 (.t 94) 0,.st 1 (.t 95) (.t 92)]⟩] [(5,10),(5,16),(10,16),(5,20),(10,20),(16,20),(5,23),(10,23),(16,23)] []) (.seq (.rgn [⟨none,[.mv 4 (.k (I 0))]⟩] [4]) .ret))))) (.seq (.rgn [⟨none,[.bin 97 .eql (.t 25) (.k (I 2)),.mv 96 (.t 97)]⟩] [0,3,5,6,7,96]) (.cond (.t 96) (.seq (.rgn [⟨none,[.mv 98 (.t 0),.mv 99 (.t 0),.mv 100 (.t 0),.mv 101 (.t 0),.nilc 102 (.t 101),.fa 103 (.t 102) 0,.fa 104 (.t 103) 1,.ld 105 false 1 (.t 104),.bin 106 .add (.t 105) (.k (I 1)),.nilc 107 (.t 98),.fa 108 (.t 107) 0,.fa 109 (.t 108) 1,.st 1 (.t 109) (.t 106),.nilc 110 (.t 99),.fa 111 (.t 110) 0,.fa 112 (.t 111) 2,.st 1 (.t 112) (.k (I 0)),.nilc 113 (.t 100),.fa 114 (.t 113) 0,.fa 115 (.t 114) 3,.st 1 (.t 115) (.k (.sl true 0 []))]⟩] []) (.seq (.rgn [⟨none,[.mv 4 (.k (I 0))]⟩] [4]) .ret)) .skip)))))) (.seq (.seq (.rgn [⟨none,[.mv 116 (.t 0),.nilc 117 (.t 116),.fa 118 (.t 117) 0,.fa 119 (.t 118) 1,.ld 120 false 1 (.t 119),.bin 121 .eql (.t 120) (.k (I 0))]⟩] [0,3,5,6,7,121]) (.cond (.t 121) (.seq (.rgn [⟨none,[.mv 4 (.k (I 9))]⟩] [4]) .ret) .skip)) (.seq (.seq (.rgn [⟨none,[.fa 122 (.t 3) 0,.ld 123 false 1 (.t 122),.bin 124 .eql (.t 123) (.k (I 3))]⟩] [0,3,5,6,7,124]) (.cond (.t 124) (.seq (.rgn [⟨none,[.mv 125 (.t 0),.nilc 126 (.t 125),.fa 127 (.t 126) 0,.fa 128 (.t 127) 3,.ld 129 false 1 (.t 128),.mv 130 (.t 5),.bsl 131 2 1 [.sl true 0 []] [(0,(.t 129)),(1,(.t 130))],.call 132 163 [.t 131],.mv 10 (.t 132)]⟩] [0,6,7,10]) (.seq (.block 2 (.seq (.rgn [⟨none,[.mv 134 (.t 6),.un 135 .not (.t 134),.mv 133 (.t 135)]⟩] [0,7,10,133]) (.cond (.t 133) (.seq (.rgn [⟨none,[.mv 4 (.k (I 5))]⟩] [4]) .ret) (.seq (.rgn [⟨none,[.mv 137 (.t 10),.len 138 (.t 137),.bin 139 .gtr (.t 138) (.k (I 64)),.mv 136 (.t 139)]⟩] [0,7,10,136]) (.cond (.t 136) (.seq (.rgn [⟨none,[.mv 4 (.k (I 10))]⟩] [4]) .ret) (.seq (.rgn [⟨none,[.mv 141 (.t 7),.mv 142 (.t 10),.call 143 75 [.t 141,.t 142],.bin 144 .gtr (.t 143) (.k (I 1099511627776)),.mv 140 (.t 144)]⟩] [0,10,140]) (.cond (.t 140) (.seq (.rgn [⟨none,[.mv 4 (.k (I 4))]⟩] [4]) .ret) .skip))))))) (.seq (.rgn [⟨none,[.mv 145 (.t 0),.mv 146 (.t 10),.nilc 147 (.t 145),.fa 148 (.t 147) 0,.fa 149 (.t 148) 3,.st 1 (.t 149) (.t 146)]⟩] []) (.seq (.rgn [⟨none,[.mv 4 (.k (I 0))]⟩] [4]) .ret)))) .skip)) (.seq (.block 3 (.seq (.rgn [⟨none,[.mv 151 (.t 0),.nilc 152 (.t 151),.fa 153 (.t 152) 0,.fa 154 (.t 153) 4,.ld 155 false 1 (.t 154),.mkf 156 (.func 165) [] [.t 3],.call 157 164 [.t 155,.t 156],.mv 150 (.t 157)]⟩] [0,3,150]) (.cond (.t 150) (.seq (.rgn [⟨none,[.mv 4 (.k (I 11))]⟩] [4]) .ret) (.seq (.rgn [⟨none,[.mv 159 (.t 0),.nilc 160 (.t 159),.fa 161 (.t 160) 0,.fa 162 (.t 161) 2,.ld 163 false 1 (.t 162),.bin 164 .eql (.t 163) (.k (I 8)),.mv 158 (.t 164)]⟩] [0,3,158]) (.cond (.t 158) (.seq (.rgn [⟨none,[.mv 4 (.k (I 10))]⟩] [4]) .ret) .skip))))) (.seq (.drw [⟨none,[.mv 165 (.t 0),.mv 166 (.t 0),.nilc 167 (.t 166),.fa 168 (.t 167) 0,.fa 169 (.t 168) 4,.ld 170 false 1 (.t 169),.mv 171 (.t 0),.nilc 172 (.t 171),.fa 173 (.t 172) 0,.fa 174 (.t 173) 4,.ld 175 false 1 (.t 174),.len 176 (.t 175),.mv 177 (.t 0),.nilc 178 (.t 177),.fa 179 (.t 178) 0,.fa 180 (.t 179) 4,.ld 181 false 1 (.t 180),.len 182 (.t 181),.slc 183 4 (.t 170) none (some (.t 176)) (some (.t 182)),.fa 184 (.t 3) 3,.ld 185 false 1 (.t 184),.mv 186 (.t 0),.nilc 187 (.t 186),.fa 188 (.t 187) 0,.fa 189 (.t 188) 1,.ld 190 false 1 (.t 189),.mv 191 (.t 0),.nilc 192 (.t 191),.fa 193 (.t 192) 0,.fa 194 (.t 193) 2,.ld 195 false 1 (.t 194),.mv 196 (.t 0),.nilc 197 (.t 196),.fa 198 (.t 197) 0,.fa 199 (.t 198) 3,.ld 200 false 1 (.t 199),.bld 201 [(I 0),(I 0),(I 0),.sl true 0 []] [(0,1,(.t 185)),(1,1,(.t 190)),(2,1,(.t 195)),(3,1,(.t 200))],.bsl 202 1 4 [(I 0),(I 0),(I 0),.sl true 0 []] [(0,(.t 201))],.app 203 4 48 (.t 183) (.t 202),.nilc 204 (.t 165),.fa 205 (.t 204) 0,.fa 206 (.t 205) 4,.st 1 (.t 206) (.t 203)]⟩] [(5,10),(5,16),(10,16),(5,20),(10,20),(16,20),(5,25),(10,25),(16,25),(20,25),(5,30),(10,30),(16,30),(20,30),(25,30),(5,35),(10,35),(16,35),(20,35),(25,35),(30,35),(5,37),(10,37),(16,37)] [0]) (.seq (.rgn [⟨none,[.mv 207 (.t 0),.mv 208 (.t 0),.mv 209 (.t 0),.nilc 210 (.t 209),.fa 211 (.t 210) 0,.fa 212 (.t 211) 2,.ld 213 false 1 (.t 212),.bin 214 .add (.t 213) (.k (I 1)),.nilc 215 (.t 207),.fa 216 (.t 215) 0,.fa 217 (.t 216) 2,.st 1 (.t 217) (.t 214),.nilc 218 (.t 208),.fa 219 (.t 218) 0,.fa 220 (.t 219) 3,.st 1 (.t 220) (.k (.sl true 0 []))]⟩] []) (.seq (.rgn [⟨none,[.mv 4 (.k (I 0))]⟩] [4]) .ret))))))))))
theorem qcO:qo Tryz.prog Tryz.f144 [4]=some qbB:=by kernel_rfl
def qd3:AC:=Subtype.val (p:=fun g=>qo Tryz.prog Tryz.f162 [4,5]=some g) (by refine ⟨?g,?h⟩;case h=>conv=>lhs;reduce)
theorem qeO:qo Tryz.prog Tryz.f162 [4,5]=some qd3:=by kernel_rfl
theorem qwi:JO Tryz.f162.results.toList=some [4,5]:=by kernel_rfl
def WQ:AC:=Subtype.val (p:=fun g=>qo Tryz.prog Tryz.f165 [3]=some g) (by refine ⟨?g,?h⟩;case h=>conv=>lhs;reduce)
theorem qaa:qo Tryz.prog Tryz.f165 [3]=some WQ:=by kernel_rfl
theorem qwe:JO Tryz.f165.results.toList=some [3]:=by kernel_rfl
def ByName (rc:List Bk) (E:List (K3 (List UInt8))):Prop:=∀ nm,JT E nm=if 0≤zL rc nm then some (zL rc nm) else none
theorem qiI {rc : List Bk} {H : List HObj} {id mid : Nat} {cs : List AV} {E : List (K3 (List UInt8))} {clk : Nat} {f : Bool} {ws : List Wd} {K : AV → List HObj → Prop} (h1 : qr H id = some (.cells cs)) (h2 : YO cs 5 = some (.mp mid)) (h3 : qr H mid = some (mpK Qb E clk)) (hE : ByName rc E) (hw : ws.length ≤ 1000000)
 (hK:∀ H',(∀ j,j<H.length→qr H' j=qr H j)→H.length≤H'.length→K (.tup [Pts ((Qf rc ws).getD []),B (Qf rc ws).isSome]) H'):zG Tryz.prog 162 [.ref id 0,qlu f ws] H K:=by
 refine qej (qeh (zj Tryz.func162 qeO (QB qwi) (by show 2≤_;decide) ?_))
 have l1:=qj h1
 have l3:=qj h3
 simp -implicitDefEqProofs (disch:=omega)[qd3,qb]
 refine qO (fun q : Nat × List Pt × AV × List HObj => ⟨[(0,.ref id 0),(6,q.2.2.1),(12,qlu f ws),(13,I (ws.length : Int)),(14,I (q.1 : Int))],q.2.2.2⟩)
  (fun q=>q.1≤ws.length∧Qf rc (ws.take q.1)=some q.2.1∧AccG q.2.2.2 q.2.2.1 3 q.1 (fl ptC q.2.1)∧(∀ j,j<H.length→qr q.2.2.2 j=qr H j)∧H.length≤q.2.2.2.length∧(∀ j,rid q.2.2.1=some j→H.length≤j)∧q.2.1.length=q.1)
  (fun q=>ws.length - q.1) (0,[],.sl true 0 [],H) ⟨Nat.zero_le _,rfl,.nil,fun _ _=>rfl,Nat.le_refl _,by simp [rid],rfl⟩ rfl ?_
 rintro ⟨i,ps,x,H2⟩ ⟨c1,c2,c3,c4,c5,c6,c7⟩
 simp only at c1 c2 c3 c4 c5 c6 c7 ⊢
 have a1:=(c4 id l1).trans h1
 have a3:=(c4 mid l3).trans h3
 refine qW fun K0 hK0=>?_
 simp -implicitDefEqProofs (disch:=omega)[qb]
 refine qP (fun hc=>?_) (fun hc=>?_)
 · have hi : i < ws.length := by simpa using hc
   have ix:((i:Int)+1)=((i+1:Nat):Int):=by omega
   have st:=qgq hi c2
   have hno:Xg rc ws[i]=none→Qf rc ws=none:=fun h=>qgp (i:=i+1) (by rw [st,h])
   simp -implicitDefEqProofs (disch:=omega)[qb,hi,wdC]
   generalize hB:ws[i]=w at *
   obtain ⟨wa,nm,wt⟩:=w
   simp -implicitDefEqProofs (disch:=omega)[qb,V1,WL,jY,jZ,qf,qt]
   have b1:qr (H2++[HObj.cells [U wa,S nm,I wt],HObj.cells [U wa,I (-1),I wt]]) id=some (.cells cs):=(qk (by omega)).trans a1
   have b3:qr (H2++[HObj.cells [U wa,S nm,I wt],HObj.cells [U wa,I (-1),I wt]]) mid=some (mpK Qb E clk):=(qk (by omega)).trans a3
   have b4:qr (H2++[HObj.cells [U wa,S nm,I wt],HObj.cells [U wa,I (-1),I wt]]) H2.length=some (.cells [U wa,S nm,I wt]):=V1
   have b5:qr (H2++[HObj.cells [U wa,S nm,I wt],HObj.cells [U wa,I (-1),I wt]]) (H2.length+1)=some (.cells [U wa,I (-1),I wt]):=WL
   have b6:=c3.mono (H:=H2++[HObj.cells [U wa,S nm,I wt],HObj.cells [U wa,I (-1),I wt]]) fun j hj=>qk (c3.lt hj)
   have b7:∀ j,j<H.length→qr (H2++[HObj.cells [U wa,S nm,I wt],HObj.cells [U wa,I (-1),I wt]]) j=qr H j:=fun j hj=>(qk (by omega)).trans (c4 j hj)
   have b8:(H2++[HObj.cells [U wa,S nm,I wt],HObj.cells [U wa,I (-1),I wt]]).length=H2.length+2:=by simp
   generalize H2++[HObj.cells [U wa,S nm,I wt],HObj.cells [U wa,I (-1),I wt]]=H3 at *
   have hx:∀ j,rid x=some j→j<H2.length:=fun j hj=>c3.lt hj
   generalize H2.length=L at *
   by_cases hnm:nm=[]
   · have hpl : Xg rc (wa,nm,wt) = some (wa,-1,wt) := if_pos hnm
     have hne:nm.isEmpty=true:=by rw [hnm];rfl
     simp -implicitDefEqProofs (disch:=omega)[qb,hne]
     simp -implicitDefEqProofs (disch:=omega)[qb,b5,qf]
     refine zq (ys:=[.agg (ptC (wa,-1,wt))]) (ids:=[]) rfl rfl ?_
     simp -implicitDefEqProofs (disch:=omega)[qb,zP,ptC]
     refine Q5 (ys:=ptC (wa,-1,wt)) b6 (by omega) (by decide) rfl rfl fun vs w1 w2 w3=>?_
     simp -implicitDefEqProofs (disch:=omega)[qb]
     rw [hK0]
     refine qz (i+1,ps++[(wa,-1,wt)],.ms H3.length 0 (i+1) 3,qH H3 vs) ⟨by simp only;omega,by rw [st,hpl],?_,fun j hj=>(w1 j (by omega) (fun e=>by have:=c6 j e;omega)).trans (b7 j hj),by simp only;omega,fun j hj=>by simp only [rid] at hj;cases hj;omega,by simp only [List.length_append,List.length_cons,List.length_nil];omega⟩ (by simp only;omega) (by simp only [ix])
     rw [jr];exact w3
   · have hne:nm.isEmpty=false:=by
      cases nm with
      | nil=>exact absurd rfl hnm
      | cons c r=>rfl
     simp -implicitDefEqProofs (disch:=omega)[qb,hne,b1,b4,h2,qf,J7,Yv]
     refine qr7 qoV (x:=mid) (D:=nm) rfl rfl b3 ?_
     rw [hE nm]
     by_cases h0:0≤zL rc nm
     · have hpl : Xg rc (wa,nm,wt) = some (wa,zL rc nm,wt) := by unfold Xg; simp only; rw [if_neg hnm,if_pos h0]
       rw [if_pos h0]
       have l9:L+1<H3.length:=by omega
       have g5:qr (H3.set (L+1) (.cells [U wa,I (zL rc nm),I wt])) (L+1)=some (.cells [U wa,I (zL rc nm),I wt]):=qi l9
       have g6:=b6.mono (H:=H3.set (L+1) (.cells [U wa,I (zL rc nm),I wt])) fun j hj=>qh (by have:=hx j hj;omega)
       have g7:∀ j,j<H.length→qr (H3.set (L+1) (.cells [U wa,I (zL rc nm),I wt])) j=qr H j:=fun j hj=>(qh (by omega)).trans (b7 j hj)
       have g8:(H3.set (L+1) (.cells [U wa,I (zL rc nm),I wt])).length=L+2:=by rw [List.length_set];exact b8
       simp -implicitDefEqProofs (disch:=omega)[qb,b5,qt,zW,zJ,zE]
       rw [if_pos l9]
       generalize H3.set (L+1) (.cells [U wa,I (zL rc nm),I wt])=H4 at *
       simp -implicitDefEqProofs (disch:=omega)[qb,g5,qf]
       refine zq (ys:=[.agg (ptC (wa,zL rc nm,wt))]) (ids:=[]) rfl rfl ?_
       simp -implicitDefEqProofs (disch:=omega)[qb,zP,ptC]
       refine Q5 (ys:=ptC (wa,zL rc nm,wt)) g6 (by omega) (by decide) rfl rfl fun vs w1 w2 w3=>?_
       simp -implicitDefEqProofs (disch:=omega)[qb]
       rw [hK0]
       refine qz (i+1,ps++[(wa,zL rc nm,wt)],.ms H4.length 0 (i+1) 3,qH H4 vs) ⟨by simp only;omega,by rw [st,hpl],?_,fun j hj=>(w1 j (by omega) (fun e=>by have:=c6 j e;omega)).trans (g7 j hj),by simp only;omega,fun j hj=>by simp only [rid] at hj;cases hj;omega,by simp only [List.length_append,List.length_cons,List.length_nil];omega⟩ (by simp only;omega) (by simp only [ix])
       rw [jr];exact w3
     · have hpl : Xg rc (wa,nm,wt) = none := by unfold Xg; simp only; rw [if_neg hnm,if_neg h0]
       rw [if_neg h0,hK0]
       have hN:=hno hpl
       rw [hN] at hK
       simp -implicitDefEqProofs (disch:=omega)[qb,zW,zJ,zE]
       exact ⟨[.sl true 0 [],B false],⟨rfl,rfl,trivial⟩,_,[],rfl,_,.tupL (.cons .slf (.cons (.refl _) .nil)),hK _ b7 (by show H.length≤H3.length;rw [b8];omega)⟩
 · have hi : i = ws.length := by simp at hc; omega
   subst hi
   rw [List.take_length] at c2
   subst hK0
   simp -implicitDefEqProofs (disch:=omega)[qb]
   obtain ⟨ids,pu,pi⟩:=c3.pur2
   rw [c2] at hK
   have lt:∀ j∈ids,j<H2.length:=fun j hj=>(pi j hj).2
   have ge:∀ j∈ids,H.length≤j:=fun j hj=>c6 j (pi j hj).1
   refine ⟨[x,B true],⟨rfl,rfl,trivial⟩,.tup [.sl (decide (ws.length=0)) ws.length (fl ptC ps),B true],ids++[],?_,.tup [Pts ps,B true],.tupL (.cons (by rw [←c7];exact .slf) (.cons (.refl _) .nil)),?_⟩
   · show qU (hpf H2) (.tup [x,B true]) = _
     simp only [qU,Qq,pu]
     rfl
   · rw [List.append_nil]
     exact hK _ (fun j h1=>(Wv lt fun e=>by have:=ge _ e;omega).trans (c4 j h1)) (Nat.le_trans c5 JW)
end Go.AM
