/-
  KxR2: texts joined: FmNR Ns2 Ns3 Ns4 Ns5 Ns10 Ns11 Ns12 Ns13 Ns14 Ns15 FmNL Lk1 Lx4. Own work.
-/
import Derived.Test.YtopelhnmgjkneaaGreatDoorKxR1
import Derived.Test.YtopelhnmgjkneaaGreatDoorProg
set_option linter.all false
set_option linter.unusedSimpArgs false
set_option linter.unusedVariables false
set_option linter.unusedSectionVars false

set_option maxRecDepth 100000
set_option maxHeartbeats 0
namespace Go.AM
open Go.RowKit Go.Proofs
def qws:AC:=Subtype.val (p:=fun g=>qo Tryz.prog Tryz.f20 [2,3]=some g) (by refine ⟨?g,?h⟩;case h=>conv=>lhs;reduce;simp only[qwo,qwp,UInt8.reduceOfNat,Int.reduceOfNat,Int.reduceNegSucc])
theorem qwU:qo Tryz.prog Tryz.f20 [2,3]=some qws:=by kernel_rfl
theorem qwY:ZR Tryz.prog Tryz.f20.results.toList=some [(2,some (true,4)),(3,none)]:=by kernel_rfl
def qxj:AC:=Subtype.val (p:=fun g=>qo Tryz.prog Tryz.f25 [2,3,4]=some g) (by refine ⟨?g,?h⟩;case h=>conv=>lhs;reduce)
theorem qxd:qo Tryz.prog Tryz.f25 [2,3,4]=some qxj:=by kernel_rfl
theorem qxi:ZR Tryz.prog Tryz.f25.results.toList=some [(2,some (true,5)),(3,none),(4,none)]:=by kernel_rfl
def qw8:AC:=Subtype.val (p:=fun g=>qo Tryz.prog Tryz.f27 [2,3]=some g) (by refine ⟨?g,?h⟩;case h=>conv=>lhs;reduce;simp only[qwo,qwp,UInt8.reduceOfNat,Int.reduceOfNat,Int.reduceNegSucc])
theorem qw0:qo Tryz.prog Tryz.f27 [2,3]=some qw8:=by kernel_rfl
def qwr:AC:=Subtype.val (p:=fun g=>qo Tryz.prog Tryz.f51 [2,3]=some g) (by refine ⟨?g,?h⟩;case h=>conv=>lhs;reduce)
theorem qwS:qo Tryz.prog Tryz.f51 [2,3]=some qwr:=by kernel_rfl
def qwR:AC:=Subtype.val (p:=fun g=>qo Tryz.prog Tryz.f59 [2]=some g) (by refine ⟨?g,?h⟩;case h=>conv=>lhs;reduce)
theorem qwW:qo Tryz.prog Tryz.f59 [2]=some qwR:=by kernel_rfl
def qwE:AC:=Subtype.val (p:=fun g=>qo Tryz.prog Tryz.f61 [6,7]=some g) (by refine ⟨?g,?h⟩;case h=>conv=>lhs;reduce)
theorem qwM:qo Tryz.prog Tryz.f61 [6,7]=some qwE:=by kernel_rfl
def qxa:AC:=Subtype.val (p:=fun g=>qo Tryz.prog Tryz.f62 [2,3]=some g) (by refine ⟨?g,?h⟩;case h=>conv=>lhs;reduce)
theorem qw2:qo Tryz.prog Tryz.f62 [2,3]=some qxa:=by kernel_rfl
theorem qw7:ZR Tryz.prog Tryz.f62.results.toList=some [(2,some (true,3)),(3,none)]:=by kernel_rfl
def qwt:AC:=Subtype.val (p:=fun g=>qo Tryz.prog Tryz.f68 [2,3,4,5]=some g) (by refine ⟨?g,?h⟩;case h=>conv=>lhs;reduce)
theorem qwL:qo Tryz.prog Tryz.f68 [2,3,4,5]=some qwt:=by kernel_rfl
theorem qwO:ZR Tryz.prog Tryz.f68.results.toList=some [(2,some (true,5)),(3,none),(4,none),(5,none)]:=by kernel_rfl
def qw9:AC:=Subtype.val (p:=fun g=>qo Tryz.prog Tryz.f117 [4,5]=some g) (by refine ⟨?g,?h⟩;case h=>conv=>lhs;reduce)
theorem qw1:qo Tryz.prog Tryz.f117 [4,5]=some qw9:=by kernel_rfl
theorem qw6:ZR Tryz.prog Tryz.f117.results.toList=some [(4,some (true,5)),(5,none)]:=by kernel_rfl
def qwQ:AC:=Subtype.val (p:=fun g=>qo Tryz.prog Tryz.f146 [4,5]=some g) (by refine ⟨?g,?h⟩;case h=>conv=>lhs;reduce)
theorem qwV:qo Tryz.prog Tryz.f146 [4,5]=some qwQ:=by kernel_rfl
def qwP:AC:=Subtype.val (p:=fun g=>qo Tryz.prog Tryz.f147 [4]=some g) (by refine ⟨?g,?h⟩;case h=>conv=>lhs;reduce)
theorem qwT:qo Tryz.prog Tryz.f147 [4]=some qwP:=by kernel_rfl
def qxv (s:List UInt8):Int:=if qnx s then (Vq s:Int) else 0
theorem qwC (s:List UInt8) (lo hi:Int) (hs:s.length≤1000000):qC Tryz.prog 61 [S s, I lo, I hi] (.tup [I (qxv s), B (qaB s lo hi)]):=by
 have hN:qnx s=false→qaB s lo hi=false∧qxv s=0:=fun h=>by simp [qaB,qxv,h]
 refine qT (walk Tryz.func61 qwM (by kernel_rfl) (by show 3≤_;decide) ?_)
 simp (disch:=omega)[qwE,qb]
 cases s with
 | nil =>
   have:=hN rfl
   rw [this.1,this.2]
   simp (disch:=omega)[qb]
   exact qnH (is:=[]) rfl
 | cons c r =>
   simp only [List.length_cons] at hs
   have l1:((r.length:Int)+1<1)=False:=by simp only [eq_iff_iff,iff_false];omega
   have hb:=UInt8.toNat_lt c
   by_cases h1:r.length≤12
   case neg =>
    have h1':(13<(r.length:Int)+1)=True:=by simp only [eq_iff_iff,iff_true];omega
    have:=hN (by simp [qnx,h1])
    rw [this.1,this.2]
    simp (disch:=omega)[qb,l1,h1,h1']
    exact qnH (is:=[]) rfl
   case pos =>
    have h1':(13<(r.length:Int)+1)=False:=by simp only [eq_iff_iff,iff_false];omega
    cases h2:((c.toNat:Int)==48) with
    | true =>
      have := hN (by have : c.toNat = 48 := by rw [beq_iff_eq] at h2; omega
                     simp [qnx,this])
      rw [this.1,this.2]
      simp (disch:=omega)[qb,l1,h1,h1',h2]
      exact qnH (is:=[]) rfl
    | false =>
      have h2':c.toNat≠48:=by rw [beq_eq_false_iff_ne] at h2;omega
      have hC:qnx (c::r)=(c::r).all qfQ:=by simp [qnx,h1,h2']
      simp (disch:=omega)[qb,l1,h1,h1',h2]
      have hl:(c::r).length≤13:=by simp;omega
      generalize c::r=s at *
      refine qO (fun i:Nat=>⟨[(0,S s),(1,I lo),(2,I hi),(8,I ((Vq (s.take i):Nat):Int)),(9,I (i:Int))],[]⟩) (fun i=>i≤s.length∧(s.take i).all qfQ=true) (fun i=>s.length - i) 0 ⟨Nat.zero_le _,rfl⟩ rfl ?_
      rintro i ⟨c1,c2⟩
      refine qW fun K0 hK0=>?_
      simp (disch:=omega)[qb]
      refine qP (fun hc=>?_) (fun hc=>?_)
      · have hi : i < s.length := by simp at hc; omega
        have ix:((i:Int)+1)=((i+1:Nat):Int):=by omega
        have hb:=UInt8.toNat_lt s[i]
        have hv:=qjz (acc:=0) c2
        have h10:(10:Nat) ^ (s.take i).length≤10 ^ 12:=Nat.pow_le_pow_right (by decide) (by rw [List.length_take];omega)
        have e12:(10:Nat) ^ 12=1000000000000:=by decide
        have hv2:Vq (s.take i)<1000000000000:=by unfold Vq;omega
        have hstep:Vq (s.take (i+1))=Vq (s.take i)*10+(s[i].toNat - 48):=by
         rw [List.take_succ_eq_append_getElem hi]
         unfold Vq;rw [qcz];rfl
        have hd:qfQ s[i]=(decide (48≤s[i].toNat)&&decide (s[i].toNat≤57)):=rfl
        have hm:qnx s=true→qfQ s[i]=true:=fun h=>List.all_eq_true.1 (qfI h).2.1 _ (List.getElem_mem hi)
        simp (disch:=omega)[qb,hi]
        by_cases a1:48≤s[i].toNat
        case neg =>
         have a1':((s[i].toNat:Int)<48)=True:=by simp only [eq_iff_iff,iff_true];omega
         have := hN (by
          cases h:qnx s with
          | false=>rfl
          | true=>have:=hm h;rw [hd] at this;simp [a1] at this)
         rw [hK0,this.1,this.2]
         simp (disch:=omega)[qb,a1,a1']
         exact qnH (is:=[]) rfl
        case pos =>
         have a1':((s[i].toNat:Int)<48)=False:=by simp only [eq_iff_iff,iff_false];omega
         by_cases a2:s[i].toNat≤57
         case neg =>
          have a2':(57<(s[i].toNat:Int))=True:=by simp only [eq_iff_iff,iff_true];omega
          have := hN (by
           cases h:qnx s with
           | false=>rfl
           | true=>have:=hm h;rw [hd] at this;simp [a1,a2] at this)
          rw [hK0,this.1,this.2]
          simp (disch:=omega)[qb,a1,a1',a2,a2',hi]
          exact qnH (is:=[]) rfl
         case pos =>
          have a2':(57<(s[i].toNat:Int))=False:=by simp only [eq_iff_iff,iff_false];omega
          simp (disch:=omega)[qb,a1,a1',a2,a2',hi,qgP]
          rw [hK0]
          refine qz (i+1) ⟨by omega,?_⟩ (by omega) ?_
          · rw [List.take_succ_eq_append_getElem hi,List.all_append,c2]
            simp [hd,a1,a2]
          · have : (10 * ((Vq (s.take i) : Nat) : Int) + ((s[i].toNat : Int) - 48)) = ((Vq (s.take (i + 1)) : Nat) : Int) := by rw [hstep]; omega
            simp only [ix,this]
      · have hi : i = s.length := by simp at hc; omega
        subst hi
        rw [List.take_length] at c2
        subst hK0
        have hcan:qnx s=true:=by rw [hC,c2]
        simp (disch:=omega)[qb,List.take_length]
        have hV:qxv s=(Vq s:Int):=by simp [qxv,hcan]
        have hK:qaB s lo hi=(decide (lo≤(Vq s:Int))&&decide ((Vq s:Int)≤hi)):=by simp [qaB,hcan]
        rw [hV,hK]
        by_cases a1:lo≤(Vq s:Int)
        · simp (disch := omega) [qb,a1]
          exact qnH (is:=[]) rfl
        · simp (disch := omega) [qb,a1]
          exact qnH (is:=[]) rfl
theorem qxk {hp x} {l:List (List UInt8)} (h:AccG hp x 1 l.length (fl WJ l)):qi7 (qqK l) x hp:=by
 obtain ⟨ids,h1,_⟩:=h.pur
 exact qG h1 .slf
theorem qxb {s:List UInt8} {fr i:Nat} (h:fr≤i) (hi:i<s.length):s.drop fr=(s.drop fr).take (i - fr)++s[i]::s.drop (i+1):=by
 conv=>lhs;rw [←List.take_append_drop (i - fr) (s.drop fr)]
 rw [List.drop_drop,show fr+(i - fr)=i by omega,List.drop_eq_getElem_cons hi]
theorem WdJ.word {s i fr acc} (h:WdJ s i fr acc) (hi:i<s.length) (hb:s[i]=32):WdJ s (i+1) (i+1) (acc++[(s.drop fr).take (i - fr)]) :=
 ⟨Nat.le_refl _,hi,by simp,by
  have e1:qM 32 (s.drop fr)=(s.drop fr).take (i - fr)::qM 32 (s.drop (i+1)):=by
   conv=>lhs;rw [qxb h.le hi,hb,qfs h.no]
  rw [h.sp,e1]
  simp,by have:=h.ln;have:=h.le;simp;omega⟩
theorem qxh (s:List UInt8) (hs:s.length≤1000000):qC Tryz.prog 59 [S s] (qqK (qM 32 s)):=by
 refine zO (walk Tryz.func59 qwW (by kernel_rfl) (by show 1≤_;decide) ?_)
 simp (disch:=omega)[qwR,qb]
 refine qkg (fun q : Nat × Nat × List (List UInt8) × AV × List HObj => ⟨[(0,S s),(3,q.2.2.2.1),(4,I (q.2.1 : Int)),(5,I (q.1 : Int))],q.2.2.2.2⟩)
  (fun q=>(WdJ s q.1 q.2.1 q.2.2.1∨q.1=s.length+1∧q.2.2.1=qM 32 s)∧q.2.2.1.length≤1000001∧AccG q.2.2.2.2 q.2.2.2.1 1 q.2.2.1.length (fl WJ q.2.2.1)) (fun q=>s.length+1 - q.1) (0,0,[],.sl true 0 [],[]) ⟨.inl (.zero s),Nat.zero_le _,.nil⟩ (St.le.rfl' _) ?_
 rintro ⟨i,fr,acc,x,H⟩ ⟨c1,c2,c3⟩
 simp only at c1 c2 c3 ⊢
 refine qW fun K0 hK0=>?_
 simp (disch:=omega)[qb]
 refine qP (fun hc=>?_) (fun hc=>?_)
 · have hi : i ≤ s.length := by simp at hc; omega
   have ix:((i:Int)+1)=((i+1:Nat):Int):=by omega
   have J:WdJ s i fr acc:=by
    rcases c1 with h | ⟨h,_⟩
    · exact h
    · omega
   have hle:=J.le
   have hln:=J.ln
   by_cases hl:i=s.length
   case pos =>
    subst hl
    simp (disch:=omega)[qb]
    refine zq (ys:=[S ((s.drop fr).take (s.length - fr))]) (ids:=[]) rfl rfl ?_
    simp (disch:=omega)[qb,zP]
    refine Q5 (ys:=[S ((s.drop fr).take (s.length - fr))]) c3 (by omega) (by decide) rfl rfl fun ws w1 w2 w3=>?_
    simp (disch:=omega)[qb,zP]
    rw [hK0]
    have e:=J.last
    refine qz (s.length+1,s.length+1,acc++[(s.drop fr).take (s.length - fr)],.ms H.length 0 (acc.length+1) 1,qH H ws) ⟨.inr ⟨rfl,e.symm⟩,by simp;omega,?_⟩ (by simp only;omega) (by simp only [ix])
    simp only [List.length_append,List.length_singleton,jr]
    exact w3
   case neg =>
    have hlt:i<s.length:=by omega
    have hne:((i:Int)==(s.length:Int))=false:=by rw [beq_eq_false_iff_ne];omega
    simp (disch:=omega)[qb,hne,hlt]
    cases hb:((s[i].toNat:Int)==32) with
    | true =>
      have hb':s[i]=32:=by rw [beq_iff_eq] at hb;exact UInt8.toNat_inj.1 (by show s[i].toNat=32;omega)
      simp (disch:=omega)[qb]
      refine zq (ys:=[S ((s.drop fr).take (i - fr))]) (ids:=[]) rfl rfl ?_
      simp (disch:=omega)[qb,zP]
      refine Q5 (ys:=[S ((s.drop fr).take (i - fr))]) c3 (by omega) (by decide) rfl rfl fun ws w1 w2 w3=>?_
      simp (disch:=omega)[qb,zP]
      rw [hK0]
      refine qz (i+1,i+1,acc++[(s.drop fr).take (i - fr)],.ms H.length 0 (acc.length+1) 1,qH H ws) ⟨.inl (J.word hlt hb'),by simp;omega,?_⟩ (by simp only;omega) (by simp only [ix])
      simp only [List.length_append,List.length_singleton,jr]
      exact w3
    | false =>
      have hb':s[i]≠32:=by rw [beq_eq_false_iff_ne] at hb;exact fun e=>hb (by rw [e];rfl)
      simp (disch:=omega)[qb]
      rw [hK0]
      exact qz (i+1,fr,acc,x,H) ⟨.inl (J.step hlt hb'),c2,c3⟩ (by simp only;omega) (by simp only [ix])
 · have hi : ¬ i ≤ s.length := by simp at hc; omega
   have e:acc=qM 32 s:=by
    rcases c1 with h | ⟨_,h⟩
    · exact absurd h.li hi
    · exact h
   subst hK0
   subst e
   simp (disch:=omega)[qb]
   exact qxk c3
structure StarP (s a:List UInt8) (t:Option (List UInt8)):Prop where
 cut:JX 42 s=(a,t)
 le:a.length≤s.length
 no:∀ j (h:j<a.length) (h':j<s.length),s[j]≠42
 at':∀ h:a.length<s.length,s[a.length]=42∧t=some (s.drop (a.length+1))
 eq:¬ a.length<s.length→t=none
 tk:s.take a.length=a
theorem qxF (s:List UInt8):∃ a t,StarP s a t:=by
 rcases qbM 42 s with ⟨a,h1,rfl,h3⟩ | ⟨a,r,h1,rfl,h3⟩
 · exact ⟨s,none,h3,Nat.le_refl _,fun j h h'=>h1 _ (List.getElem_mem h),fun h=>absurd h (Nat.lt_irrefl _),fun _=>rfl,List.take_length⟩
 · refine ⟨a,some r,h3,by simp,fun j h h' => ?_,fun h => ⟨?_,?_⟩,fun h => absurd (by simp) h,by simp⟩
   · rw [List.getElem_append_left h];exact h1 _ (List.getElem_mem h)
   · rw [List.getElem_append_right (Nat.le_refl _)];simp
   · rw [←List.drop_drop];simp
theorem qxq (s:List UInt8) (hs:s.length≤1000000):qC Tryz.prog 62 [S s] (.tup [.agg (wdC (jX s).1),B (jX s).2]):=by
 obtain ⟨a,t,hp⟩:=qxF s
 have hW : jX s = (match JA t with
  | none=>((0,[],0),false)
  | some k=>match qbI a with
    | some c=>((c,[],k),true)
    | none=>((0,a,k),QW a)):=by unfold jX;rw [hp.cut];rfl
 have hle:=hp.le
 refine qT (zj Tryz.func62 qw2 qw7 (by show 1≤_;decide) ?_)
 simp (disch:=omega)[qxa,qb]
 refine qO (fun i:Nat=>⟨[(0,S s),(2,.ref 0 0),(4,I ((if i≤a.length then s.length else a.length:Nat):Int)),(5,I (i:Int))],[.cells [U 0,S [],I 0]]⟩) (fun i=>i≤s.length) (fun i=>s.length - i) 0 (Nat.zero_le _) (by simp) ?_
 intro i c1
 refine qW fun K0 hK0=>?_
 simp (disch:=omega)[qb]
 refine qP (fun hc=>?_) (fun hc=>?_)
 · have hi : i < s.length := by simp at hc; omega
   have ix:((i:Int)+1)=((i+1:Nat):Int):=by omega
   simp (disch:=omega)[qb,hi]
   by_cases hb:s[i]=42
   · have e1 : ((s[i].toNat : Int) == 42) = true := by rw [hb]; rfl
     have hge:a.length≤i:=Nat.le_of_not_lt fun h=>hp.no i h hi hb
     by_cases hia:i=a.length
     · have e2 : (if i ≤ a.length then s.length else a.length) = s.length := if_pos (by omega)
       have e3:(if i+1≤a.length then s.length else a.length)=i:=by rw [if_neg (by omega)];exact hia.symm
       rw [e2]
       simp (disch:=omega)[qb,e1]
       rw [hK0]
       exact qz (i+1) (by omega) (by omega) (by simp only [ix,e3])
     · have e2 : (if i ≤ a.length then s.length else a.length) = a.length := if_neg (by omega)
       have e3:(if i+1≤a.length then s.length else a.length)=a.length:=if_neg (by omega)
       have e4:((a.length:Int)==(s.length:Int))=false:=by rw [beq_eq_false_iff_ne];omega
       rw [e2]
       simp (disch:=omega)[qb,e1,e4]
       rw [hK0]
       exact qz (i+1) (by omega) (by omega) (by simp only [ix,e3])
   · have e1:((s[i].toNat:Int)==42)=false:=by
      rw [beq_eq_false_iff_ne];intro h;exact hb (UInt8.toNat_inj.1 (by show s[i].toNat=42;omega))
     have hne : i ≠ a.length := fun h => by
      subst h
      exact hb (hp.at' hi).1
     have e3:(if i+1≤a.length then s.length else a.length)=(if i≤a.length then s.length else a.length):=by
      by_cases h:i+1≤a.length
      · rw [if_pos h,if_pos (by omega)]
      · rw [if_neg h,if_neg (by omega)]
     simp (disch:=omega)[qb,e1]
     rw [hK0]
     exact qz (i+1) (by omega) (by omega) (by simp only [ix,e3])
 · have hi : i = s.length := by simp at hc; omega
   subst hi
   subst hK0
   have e2:(if s.length≤a.length then s.length else a.length)=a.length:=by
    by_cases h:s.length≤a.length
    · rw [if_pos h];omega
    · rw [if_neg h]
   rw [e2]
   have tkn:List.take (a.length:Int).toNat s=a:=by rw [Int.toNat_natCast];exact hp.tk
   have nm:=qgu a (by omega)
   by_cases hlt:a.length<s.length
   case' neg =>
    have hte:=hp.eq hlt
    subst hte
    have hlt':((a.length:Int)<(s.length:Int))=False:=by simp only [eq_iff_iff,iff_false];omega
    simp (disch:=omega)[qb,hlt,hlt']
    obtain ⟨k,hk⟩:∃ k:Int,JA none=some k:=⟨1,rfl⟩
    have hkv:([AV.v (Value.int .u8 0),AV.v (.string ⟨#[]⟩),I 1]:List AV)=[AV.v (Value.int .u8 0),AV.v (.string ⟨#[]⟩),I k]:=by cases hk;rfl
    rw [hkv]
   case' pos =>
    obtain ⟨hst,hte⟩:=hp.at' hlt
    subst hte
    have hlt':((a.length:Int)<(s.length:Int))=True:=by simp only [eq_iff_iff,iff_true];omega
    have nn:=qwC (s.drop (a.length+1)) 2 1000 (by simp;omega)
    simp (disch:=omega)[qb,hlt,hlt']
    refine qg rfl nn ?_
    simp (disch:=omega)[qb]
    by_cases hnb:qaB (s.drop (a.length+1)) 2 1000=true
    case neg =>
     have hnb:qaB (s.drop (a.length+1)) 2 1000=false:=by simpa using hnb
     have:jX s=((0,[],0),false):=by rw [hW];simp [JA,hnb]
     rw [this,hnb]
     simp (disch:=omega)[qb]
     exact qK (id:=0) (off:=0) (cs:=[U 0,S [],I 0]) rfl rfl (by simp) (qnH (is:=[]) rfl)
    have hcan:qnx (s.drop (a.length+1))=true:=by
     unfold qaB at hnb
     simp only [Bool.and_eq_true] at hnb
     exact hnb.1.1
    obtain ⟨k,hk⟩:∃ k:Int,JA (some (s.drop (a.length+1)))=some k:=⟨_,by simp only [JA,hnb];rfl⟩
    have hkv:qxv (s.drop (a.length+1))=k:=by simp only [JA,hnb,if_true] at hk;cases hk;simp [qxv,hcan]
    rw [hkv,hnb]
    simp (disch:=omega)[qb]
   all_goals
    rw [hk] at hW
    by_cases h1:a.length=1
    case pos =>
     obtain ⟨c,rfl⟩:=List.length_eq_one_iff.1 h1
     have hb:=UInt8.toNat_lt c
     have s0:∃ r,s=c::r:=by
      cases s with
      | nil=>simp at hle
      | cons b r=>have:=hp.tk;simp at this;exact ⟨r,by rw [this]⟩
     obtain ⟨r,rfl⟩:=s0
     have l1:1≤(c::r).length:=by simp
     simp only [List.length_cons,List.length_nil] at *
     simp (disch:=omega)[qb]
     refine qg rfl (qb7 _) ?_
     rw [qcl]
     cases hl:YN c with
     | true =>
       have:jX (c::r)=(((c.toNat:Int),[],k),true):=by rw [hW];simp [qbI,hl]
       rw [this]
       simp (disch:=omega)[qb]
       exact qK (id:=0) (off:=0) (cs:=wdC ((c.toNat:Int),[],k)) rfl rfl (by simp [wdC]) (qnH (is:=[]) rfl)
     | false =>
       have:jX (c::r)=((0,[c],k),QW [c]):=by rw [hW];simp [qbI,hl]
       rw [this]
       simp (disch:=omega)[qb]
       try rw [qsq (l:=c::r) (j:=1) (by omega) (by simp;omega)]
       try simp (disch:=omega)[qb]
       refine qQ rfl nm ?_
       simp (disch:=omega)[qb,zW,zJ,zE]
       exact qK (id:=0) (off:=0) (cs:=wdC (0,[c],k)) rfl rfl (by simp [wdC]) (qnH (is:=[]) rfl)
    case neg =>
     have h1':((a.length:Int)==1)=false:=by rw [beq_eq_false_iff_ne];omega
     have hA:qbI a=none:=by
      rcases a with _ | ⟨c,_ | ⟨d,r⟩⟩
      · rfl
      · simp at h1
      · rfl
     have:jX s=((0,a,k),QW a):=by rw [hW];simp [hA]
     rw [this]
     simp (disch:=omega)[qb,h1']
     rw [hp.tk]
     refine qQ rfl nm ?_
     simp (disch:=omega)[qb,zW,zJ,zE]
     exact qK (id:=0) (off:=0) (cs:=wdC (0,a,k)) rfl rfl (by simp [wdC]) (qnH (is:=[]) rfl)
def qww:AC:=match qws with
 | .seq _ (.seq _ (.seq _ (.seq _ (.seq _ t))))=>t
 | x=>x
theorem qwH (k : Int) (nm : List UInt8) (WS : List (List UInt8)) (f : Bool) (hl : WS.length ≤ 1000000) (hw : ∀ w ∈ WS,w.length ≤ 1000000) :
 AWP Tryz.prog (E1 Tryz.prog) qww ⟨[(2,.ref 0 0),(4,qjl f WS),(5,.ref 1 0)],[.cells [I 0,S [],.sl true 0 [],I 0],.cells [I k,S nm,.sl true 0 [],I 0]]⟩
  (qh5 [(2,some (true,4)),(3,none)] (qi7 (.tup [LnV (((zg WS).map fun w=>(⟨k,nm,w,0⟩:Ln)).getD ln0),I (if (zg WS).isSome then 0 else 8)]))):=by
 simp (disch:=omega)[qww,qws,qb]
 refine qO (fun q : Nat × List Wd × AV × List HObj => ⟨[(2,.ref 0 0),(4,qjl f WS),(5,.ref 1 0),(8,I (q.1 : Int))],q.2.2.2⟩)
  (fun q=>q.1≤WS.length∧zg (WS.take q.1)=some q.2.1∧qr q.2.2.2 0=some (.cells [I 0,S [],.sl true 0 [],I 0])∧qr q.2.2.2 1=some (.cells [I k,S nm,q.2.2.1,I 0])∧AccG q.2.2.2 q.2.2.1 3 q.1 (fl wdC q.2.1)∧∀ j,rid q.2.2.1=some j→2≤j)
  (fun q=>WS.length - q.1) (0,[],.sl true 0 [],_) ⟨Nat.zero_le _,rfl,rfl,rfl,.nil,by simp [rid]⟩ rfl ?_
 rintro ⟨i,ws,x,H⟩ ⟨c1,c2,c3,c4,c5,c6⟩
 simp only at c1 c2 c3 c4 c5 c6 ⊢
 refine qW fun K0 hK0=>?_
 simp (disch:=omega)[qb]
 refine qP (fun hc=>?_) (fun hc=>?_)
 · have hi : i < WS.length := by simpa using hc
   have ix:((i:Int)+1)=((i+1:Nat):Int):=by omega
   have st:=qgO hi c2
   have hh:=hw _ (List.getElem_mem hi)
   simp (disch:=omega)[qb,hi]
   refine qg rfl (qxq _ hh) ?_
   generalize jX WS[i]=R at *
   obtain ⟨w,ok⟩:=R
   simp only at st
   have l1:=qj c4
   have hn:=Qn (H:=H) (o:=HObj.cells [U w.1,S w.2.1,I w.2.2])
   have d3:qr (H++[HObj.cells [U w.1,S w.2.1,I w.2.2]]) 0=some (.cells [I 0,S [],.sl true 0 [],I 0]):=(qk (by omega)).trans c3
   have d4:qr (H++[HObj.cells [U w.1,S w.2.1,I w.2.2]]) 1=some (.cells [I k,S nm,x,I 0]):=(qk (by omega)).trans c4
   have d5:AccG (H++[HObj.cells [U w.1,S w.2.1,I w.2.2]]) x 3 i (fl wdC ws):=c5.mono fun j hj=>qk (c5.lt hj)
   have d6:∀ j,rid x=some j→j<H.length:=fun j hj=>c5.lt hj
   have d7:(H++[HObj.cells [U w.1,S w.2.1,I w.2.2]]).length=H.length+1:=by simp
   simp (disch:=omega)[qb,wdC]
   generalize H++[HObj.cells [U w.1,S w.2.1,I w.2.2]]=H1 at *
   generalize H.length=L at *
   have p0:0<H1.length:=by omega
   have p1:1<H1.length:=by omega
   cases ok with
   | false =>
     have hnone:zg WS=none:=qgN (i:=i+1) (by rw [st];rfl)
     rw [hK0,hnone]
     simp (disch:=omega)[qb,d3,qt,p0]
     refine qK (id:=0) (off:=0) (cs:=[I 0,S [],.sl true 0 [],I 0]) rfl (qi (by omega)) (by simp) ?_
     refine qG (r' := .tup [.agg [I 0,S [],.sl true 0 [],I 0],I 8]) (is:=[]) rfl ?_
     exact .tupL (.cons (.aggL (.cons (.refl _) (.cons (.refl _) (.cons .slf (.cons (.refl _) .nil))))) (.cons (.refl _) .nil))
   | true =>
     simp (disch:=omega)[qb,d4,qf,hn]
     refine zq (ys:=[.agg (wdC w)]) (ids:=[]) rfl rfl ?_
     simp (disch:=omega)[qb,zP,wdC]
     refine Q5 (ys:=wdC w) d5 (by omega) (by decide) rfl rfl fun vs w1 w2 w3=>?_
     have u4:qr (qH H1 vs) 1=some (.cells [I k,S nm,x,I 0]):=(w1 1 (by omega) (fun h=>by have:=c6 1 h;omega)).trans d4
     have u3:qr (qH H1 vs) 0=some (.cells [I 0,S [],.sl true 0 [],I 0]):=(w1 0 (by omega) (fun h=>by have:=c6 0 h;omega)).trans d3
     have p2:1<(qH H1 vs).length:=by omega
     simp (disch:=omega)[qb,u4,qt,p2]
     rw [hK0]
     refine qz (i+1,ws++[w],.ms H1.length 0 (i+1) 3,(qH H1 vs).set 1 (.cells [I k,S nm,.ms H1.length 0 (i+1) 3,I 0])) ⟨by simp only;omega,by rw [st];rfl,(qh (by omega)).trans u3,qi (by omega),?_,fun j hj=>?_⟩ (by simp only;omega) (by simp only [ix])
     · rw [jr]
       exact w3.mono fun j hj=>qh (by simp only [rid] at hj;injection hj;omega)
     · simp only [rid] at hj;injection hj;omega
 · have hi : i = WS.length := by simp at hc; omega
   subst hi
   rw [List.take_length] at c2
   subst hK0
   have l1:=qj c4
   rw [c2]
   have p0:0<H.length:=by omega
   simp (disch:=omega)[qb,c3,c4,qf,qt,p0]
   refine ⟨by rcases c5 with ⟨rfl,_⟩ | ⟨_,rfl,_⟩ <;> rfl,?_⟩
   refine qK (id:=0) (off:=0) (cs:=[I k,S nm,x,I 0]) rfl (qi p0) (by simp) ?_
   have c7:AccG (H.set 0 (.cells [I k,S nm,x,I 0])) x 3 WS.length (fl wdC ws):=c5.mono fun j hj=>qh (by have:=c6 j hj;omega)
   exact c7.line (YJ c2).symm
theorem qwZ {c : UInt8} : ∀ {s : List UInt8},(qM c s).length ≤ s.length + 1 ∧ ∀ w ∈ qM c s,w.length ≤ s.length
 | []=>⟨by simp [qM],by simp [qM]⟩
 | b::r=>by
   obtain ⟨h1,h2⟩:=qwZ (c:=c) (s:=r)
   unfold qM
   split
   · refine ⟨by simp; omega,fun w hw => ?_⟩
     rcases List.mem_cons.1 hw with rfl | hw
     · simp
     · have:=h2 w hw;simp;omega
   · split
     · rename_i x xs e
       rw [e] at h1 h2
       refine ⟨by simp at h1 ⊢;omega,fun w hw=>?_⟩
       rcases List.mem_cons.1 hw with rfl | hw
       · have:=h2 x (by simp);simp;omega
       · have:=h2 w (by simp [hw]);simp;omega
     · exact ⟨by simp,fun w hw=>by simp at hw;subst hw;simp⟩
theorem qxr {s:List UInt8} (hs:s.length≤200):(qM 32 s).length≤1000000∧∀ w∈qM 32 s,w.length≤1000000:=by
 obtain ⟨h1,h2⟩:=qwZ (c:=32) (s:=s)
 exact ⟨by omega,fun w hw=>by have:=h2 w hw;omega⟩
theorem qxf (s:List UInt8) (hs:s.length≤1000000):qC Tryz.prog 20 [S s] (.tup [LnV (zd s), I (jc s)]):=by
 refine zO (zj Tryz.func20 qwU qwY (by show 1≤_;decide) ?_)
 have wk0:∀ (e:Int) (H:List HObj),qi7 (.tup [LnV ln0,I e]) (.tup [.agg [I 0,S [],.sl true 0 [],I 0],I e]) H:=fun e H =>
  qG (r' := .tup [.agg [I 0,S [],.sl true 0 [],I 0],I e]) (is:=[]) rfl (.tupL (.cons (.aggL (.cons (.refl _) (.cons (.refl _) (.cons .slf (.cons (.refl _) .nil))))) (.cons (.refl _) .nil)))
 have wk1:∀ (k n e:Int) (H:List HObj),qi7 (.tup [LnV ⟨k,[],[],n⟩,I e]) (.tup [.agg [I k,S [],.sl true 0 [],I n],I e]) H:=fun k n e H =>
  qG (r' := .tup [.agg [I k,S [],.sl true 0 [],I n],I e]) (is:=[]) rfl (.tupL (.cons (.aggL (.cons (.refl _) (.cons (.refl _) (.cons .slf (.cons (.refl _) .nil))))) (.cons (.refl _) .nil)))
 simp (disch:=omega)[qws,qb]
 by_cases h200:s.length≤200
 case neg =>
  have h200':(200<(s.length:Int))=True:=by simp only [eq_iff_iff,iff_true];omega
  have e1:zd s=ln0:=if_neg h200
  have e2:jc s=7:=if_neg h200
  rw [e1,e2]
  simp (disch:=omega)[qb,h200']
  exact qK (id:=0) (off:=0) (cs:=[I 0,S [],.sl true 0 [],I 0]) rfl rfl (by simp) (wk0 7 _)
 have h200':(200<(s.length:Int))=False:=by simp only [eq_iff_iff,iff_false];omega
 have e1:zd s=(WY s).getD ln0:=if_pos h200
 have e2:jc s=if (WY s).isSome then 0 else 8:=if_pos h200
 rw [e1,e2]
 simp (disch:=omega)[qb,h200']
 refine qg rfl (qxh s hs) ?_
 have hbath:∀ x xs,qM 32 s=x::xs→xs=[]→s=x:=qch 32 s
 have hpl:WY s=qhF (qM 32 s):=rfl
 have hlen:(qM 32 s).length≤1000000∧∀ w∈qM 32 s,w.length≤1000000:=qxr h200
 have hjoin:∀ t:List UInt8,(∀ b∈t,b≠32)→s=t→qM 32 s=[t]:=fun t h e=>by rw [e];exact YD h
 rw [hpl]
 obtain ⟨a,l,hL⟩:∃ a l,qM 32 s=a::l:=by
  cases h:qM 32 s with
  | nil=>exact absurd h (Jz _ _)
  | cons a l=>exact ⟨a,l,rfl⟩
 rw [hL] at hlen hbath hjoin ⊢
 obtain ⟨hl1,hl2⟩:=hlen
 simp only [List.length_cons] at hl1
 have ha:=hl2 a (by simp)
 have hl5:∀ w∈l,w.length≤1000000:=fun w hw=>hl2 w (by simp [hw])
 clear hl2
 have hls:((a::l).length:Int)=(l.length:Int)+1:=by simp
 simp (disch:=omega)[qb,hls,Qi,WJ]
 by_cases r1:a=Zd
 case pos =>
  subst r1
  simp (disch:=omega)[qb,hls,Qi,WJ]
  have fail:∀ l,qhF (Zd::l)=none→((qhF (Zd::l)).getD ln0=ln0∧(if (qhF (Zd::l)).isSome=true then (0:Int) else 8)=8):=fun l h=>by rw [h];exact ⟨rfl,rfl⟩
  rcases l with _ | ⟨n,_ | ⟨w,ws⟩⟩
  · have hn : qhF [Zd] = none := rfl
    rw [(fail _ hn).1,(fail _ hn).2]
    simp (disch:=omega)[qb]
    exact qK (id:=0) (off:=0) (cs:=[I 0,S [],.sl true 0 [],I 0]) rfl rfl (by simp) (wk0 8 _)
  · have hn : qhF [Zd,n] = none := by simp [qhF]
    rw [(fail _ hn).1,(fail _ hn).2]
    simp (disch:=omega)[qb]
    exact qK (id:=0) (off:=0) (cs:=[I 0,S [],.sl true 0 [],I 0]) rfl rfl (by simp) (wk0 8 _)
  · have hnl := hl5 n (by simp)
    have hl3:∀ x∈w::ws,x.length≤1000000:=fun x hx=>hl5 x (List.mem_cons_of_mem _ hx)
    have hl4:(w::ws).length≤1000000:=by simp at hl1 ⊢;omega
    clear hl5 hl1
    have d3:((ws.length:Int)+1+1+1<3)=False:=by simp only [eq_iff_iff,iff_false];omega
    by_cases h10:ws.length≤7
    case neg =>
     have d10:(10<(ws.length:Int)+1+1+1)=True:=by simp only [eq_iff_iff,iff_true];omega
     have hn:qhF (Zd::n::w::ws)=none:=by simp [qhF,h10]
     rw [(fail _ hn).1,(fail _ hn).2]
     simp (disch:=omega)[qb,d3,d10]
     exact qK (id:=0) (off:=0) (cs:=[I 0,S [],.sl true 0 [],I 0]) rfl rfl (by simp) (wk0 8 _)
    case pos =>
     have d10:(10<(ws.length:Int)+1+1+1)=False:=by simp only [eq_iff_iff,iff_false];omega
     simp (disch:=omega)[qb,d3,d10,Qi,WJ]
     refine ⟨by omega,?_⟩
     refine qg rfl (qgu n hnl) ?_
     cases hnb:QW n with
     | false =>
       have hn:qhF (Zd::n::w::ws)=none:=by simp [qhF,h10,hnb]
       rw [(fail _ hn).1,(fail _ hn).2]
       simp (disch:=omega)[qb]
       exact qK (id:=0) (off:=0) (cs:=[I 0,S [],.sl true 0 [],I 0]) rfl rfl (by simp) (wk0 8 _)
     | true =>
       have hn:qhF (Zd::n::w::ws)=(zg (w::ws)).map fun x=>(⟨1,n,x,0⟩:Ln):=by simp [qhF,h10,hnb]
       have hs':(qhF (Zd::n::w::ws)).isSome=(zg (w::ws)).isSome:=by rw [hn];simp
       rw [hs',hn]
       have t:=qwH 1 n (w::ws) false hl4 hl3
       simp (disch:=omega)[qb,Qi,WJ,qk7]
       simp (disch:=omega)[qb,Qi,WJ,qk7,qww,qws] at t
       exact ⟨by omega,by omega,t⟩
 case neg =>
  have n1:(a==Zd)=false:=by rw [beq_eq_false_iff_ne];exact r1
  have fail:∀ l,qhF (a::l)=none→((qhF (a::l)).getD ln0=ln0∧(if (qhF (a::l)).isSome=true then (0:Int) else 8)=8):=fun l h=>by rw [h];exact ⟨rfl,rfl⟩
  by_cases r2:a=tDo
  case pos =>
   subst r2
   simp (disch:=omega)[qb,n1]
   rcases l with _ | ⟨w,_ | ⟨x,ws⟩⟩
   · have hn : qhF [tDo] = none := rfl
     rw [(fail _ hn).1,(fail _ hn).2]
     simp (disch:=omega)[qb]
     exact qK (id:=0) (off:=0) (cs:=[I 0,S [],.sl true 0 [],I 0]) rfl rfl (by simp) (wk0 8 _)
   · have hn : qhF [tDo,w] = (zg [w]).map fun x => (⟨3,[],x,0⟩ : Ln) := rfl
     have hs':(qhF [tDo,w]).isSome=(zg [w]).isSome:=by rw [hn];simp
     rw [hs',hn]
     have t:=qwH 3 [] [w] false (by simp) (fun x hx=>hl5 x hx)
     simp (disch:=omega)[qb,Qi,YY,WJ,qk7]
     simp (disch:=omega)[qb,Qi,YY,WJ,qk7,qww,qws] at t
     exact t
   · have d3 : ((ws.length : Int) + 1 + 1 + 1 != 2) = true := by rw [bne_iff_ne]; omega
     have hn:qhF (tDo::w::x::ws)=none:=rfl
     rw [(fail _ hn).1,(fail _ hn).2]
     simp (disch:=omega)[qb,d3]
     exact qK (id:=0) (off:=0) (cs:=[I 0,S [],.sl true 0 [],I 0]) rfl rfl (by simp) (wk0 8 _)
  case neg =>
   have n2:(a==tDo)=false:=by rw [beq_eq_false_iff_ne];exact r2
   by_cases r3:a=qje
   case pos =>
    subst r3
    simp (disch:=omega)[qb,n1,n2]
    rcases l with _ | ⟨w,_ | ⟨x,ws⟩⟩
    · have hn : qhF [qje] = none := rfl
      rw [(fail _ hn).1,(fail _ hn).2]
      simp (disch:=omega)[qb]
      exact qK (id:=0) (off:=0) (cs:=[I 0,S [],.sl true 0 [],I 0]) rfl rfl (by simp) (wk0 8 _)
    · have hn : qhF [qje,w] = if qaB w 1 QM then some ⟨4,[],[],Vq w⟩ else none := rfl
      have hwl:=hl5 w (by simp)
      simp (disch:=omega)[qb,Qi,YY,WJ]
      refine qg rfl (qwC w 1 QM hwl) ?_
      simp (disch:=omega)[qb]
      cases hnb:qaB w 1 QM with
      | false =>
        rw [hnb] at hn
        rw [(fail _ hn).1,(fail _ hn).2]
        simp (disch:=omega)[qb]
        exact qK (id:=0) (off:=0) (cs:=[I 0,S [],.sl true 0 [],I 0]) rfl rfl (by simp) (wk0 8 _)
      | true =>
        have hcan:qnx w=true:=by
         unfold qaB at hnb
         simp only [Bool.and_eq_true] at hnb
         exact hnb.1.1
        rw [hnb] at hn
        have hv:qxv w=(Vq w:Int):=by simp [qxv,hcan]
        rw [hn,hv]
        simp (disch:=omega)[qb]
        exact qK (id:=0) (off:=0) (cs:=[I 4,S [],.sl true 0 [],I (Vq w:Int)]) rfl rfl (by simp) (wk1 _ _ _ _)
    · have d3 : ((ws.length : Int) + 1 + 1 + 1 != 2) = true := by rw [bne_iff_ne]; omega
      have hn:qhF (qje::w::x::ws)=none:=rfl
      rw [(fail _ hn).1,(fail _ hn).2]
      simp (disch:=omega)[qb,d3]
      exact qK (id:=0) (off:=0) (cs:=[I 0,S [],.sl true 0 [],I 0]) rfl rfl (by simp) (wk0 8 _)
   case neg =>
    have n3:(a==qje)=false:=by rw [beq_eq_false_iff_ne];exact r3
    have hP:qhF (a::l)=if l=[] then (if a=tBath then some ⟨2,[],[],0⟩ else if a=qdE then some ⟨5,[],[],0⟩ else if a=VX then some ⟨6,[],[],0⟩ else none) else none:=by
     simp only [qhF]
     rw [if_neg r1,if_neg r2,if_neg r3]
    simp (disch:=omega)[qb,n1,n2,n3]
    have key:∀ t:List UInt8,(∀ b∈t,b≠32)→(s=t↔a=t∧l=[]):=fun t ht=>⟨fun e=>by have:=hjoin t ht e;cases this;exact ⟨rfl,rfl⟩,fun ⟨h1,h2⟩=>(hbath _ _ rfl h2).trans h1⟩
    by_cases s1:s=tBath
    case pos =>
     have:=(key tBath (by decide)).1 s1
     rw [hP,this.1,this.2,s1]
     simp (disch:=omega)[qb]
     exact qK (id:=0) (off:=0) (cs:=[I 2,S [],.sl true 0 [],I 0]) rfl rfl (by simp) (wk1 _ _ _ _)
    case neg =>
     have m1:(s==tBath)=false:=by rw [beq_eq_false_iff_ne];exact s1
     by_cases s2:s=qdE
     case pos =>
      have:=(key qdE (by decide)).1 s2
      rw [hP,this.1,this.2,s2]
      simp (disch:=omega)[qb]
      exact qK (id:=0) (off:=0) (cs:=[I 5,S [],.sl true 0 [],I 0]) rfl rfl (by simp) (wk1 _ _ _ _)
     case neg =>
      have m2:(s==qdE)=false:=by rw [beq_eq_false_iff_ne];exact s2
      by_cases s3:s=VX
      case pos =>
       have:=(key VX (by decide)).1 s3
       rw [hP,this.1,this.2,s3]
       simp (disch:=omega)[qb]
       exact qK (id:=0) (off:=0) (cs:=[I 6,S [],.sl true 0 [],I 0]) rfl rfl (by simp) (wk1 _ _ _ _)
      case neg =>
       have m3:(s==VX)=false:=by rw [beq_eq_false_iff_ne];exact s3
       have hn:qhF (a::l)=none:=by
        rw [hP]
        by_cases hl:l=[]
        · rw [if_pos hl,if_neg (fun e=>s1 ((key tBath (by decide)).2 ⟨e,hl⟩)),if_neg (fun e=>s2 ((key qdE (by decide)).2 ⟨e,hl⟩)),if_neg (fun e=>s3 ((key VX (by decide)).2 ⟨e,hl⟩))]
        · rw [if_neg hl]
       rw [(fail _ hn).1,(fail _ hn).2]
       simp (disch:=omega)[qb,m1,m2,m3]
       exact qK (id:=0) (off:=0) (cs:=[I 0,S [],.sl true 0 [],I 0]) rfl rfl (by simp) (wk0 8 _)
theorem qwI (d:Dy) (nm:List UInt8) (hl:d.rc.length≤1000000):qC Tryz.prog 147 [DyV d,S nm] (I (zL d.rc nm)):=by
 refine qT (walk Tryz.func147 qwT (by kernel_rfl) (by show 2≤_;decide) ?_)
 simp (disch:=omega)[qwP,qb,dyC]
 refine qO (fun i:Nat=>⟨[(1,S nm),(2,.ref 0 0),(5,I (i:Int))],[.cells (dyC d)]⟩) (fun i=>i≤d.rc.length∧∀ j (hj:j<d.rc.length),j<i→d.rc[j].1≠nm) (fun i=>d.rc.length - i) 0 ⟨Nat.zero_le _,fun j _ h=>by omega⟩ rfl ?_
 rintro i ⟨c1,c2⟩
 refine qW fun K0 hK0=>?_
 simp (disch:=omega)[qb,dyC]
 refine qP (fun hc=>?_) (fun hc=>?_)
 · have hi : i < d.rc.length := by simpa using hc
   have ix:((i:Int)+1)=((i+1:Nat):Int):=by omega
   simp (disch:=omega)[qb,hi,dyC]
   by_cases he:d.rc[i].1=nm
   · have he' : (d.rc[i].1 == nm) = true := by rw [beq_iff_eq]; exact he
     have:zL d.rc nm=(i:Int):=qas hi (by simpa using he) (fun k hk hlt=>by simpa using c2 k hk hlt)
     rw [hK0,this]
     simp (disch:=omega)[qb,he']
   · have he' : (d.rc[i].1 == nm) = false := by rw [beq_eq_false_iff_ne]; exact he
     simp (disch:=omega)[qb,he']
     rw [hK0]
     refine qz (i+1) ⟨by omega,fun j hj hlt=>?_⟩ (by omega) (by simp only [ix,dyC])
     by_cases e:j=i
     · subst e;exact he
     · exact c2 j hj (by omega)
 · have hi : i = d.rc.length := by simp at hc; omega
   subst hi
   have:zL d.rc nm = -1:=qxl fun k hk=>by simpa using c2 k hk hk
   rw [hK0,this]
   simp (disch:=omega)[qb]
theorem qxg (d:Dy) (f:Bool) (ws:List Wd) (hl:d.rc.length≤1000000) (hw:ws.length≤1000000):qC Tryz.prog 146 [DyV d,qlu f ws] (.tup [Pts ((Qf d.rc ws).getD []),B (Qf d.rc ws).isSome]):=by
 refine zO (walk Tryz.func146 qwV (by kernel_rfl) (by show 2≤_;decide) ?_)
 simp (disch:=omega)[qwQ,qb,dyC]
 refine qO (fun q : Nat × List Pt × AV × List HObj => ⟨[(1,qlu f ws),(2,.ref 0 0),(6,q.2.2.1),(7,I (q.1 : Int))],q.2.2.2⟩)
  (fun q=>q.1≤ws.length∧Qf d.rc (ws.take q.1)=some q.2.1∧qr q.2.2.2 0=some (.cells (dyC d))∧AccG q.2.2.2 q.2.2.1 3 q.1 (fl ptC q.2.1)∧∀ j,rid q.2.2.1=some j→1≤j)
  (fun q=>ws.length - q.1) (0,[],.sl true 0 [],[.cells (dyC d)]) ⟨Nat.zero_le _,rfl,rfl,.nil,by simp [rid]⟩ rfl ?_
 rintro ⟨i,ps,x,H⟩ ⟨c1,c2,c3,c5,c6⟩
 simp only at c1 c2 c3 c5 c6 ⊢
 refine qW fun K0 hK0=>?_
 simp (disch:=omega)[qb]
 refine qP (fun hc=>?_) (fun hc=>?_)
 · have hi : i < ws.length := by simpa using hc
   have ix:((i:Int)+1)=((i+1:Nat):Int):=by omega
   have st:=qgq hi c2
   simp (disch:=omega)[qb,hi]
   generalize hwi:ws[i]=w at *
   obtain ⟨a,nm,n⟩:=w
   have l1:=qj c3
   have hn:=Qn (H:=H) (o:=HObj.cells [U a,I (-1),I n])
   have d3:qr (H++[HObj.cells [U a,I (-1),I n]]) 0=some (.cells (dyC d)):=(qk (by omega)).trans c3
   have d5:AccG (H++[HObj.cells [U a,I (-1),I n]]) x 3 i (fl ptC ps):=c5.mono fun j hj=>qk (c5.lt hj)
   have d6:∀ j,rid x=some j→j<H.length:=fun j hj=>c5.lt hj
   have d7:(H++[HObj.cells [U a,I (-1),I n]]).length=H.length+1:=by simp
   dsimp only
   generalize H++[HObj.cells [U a,I (-1),I n]]=H1 at *
   generalize H.length=L at *
   have p0:0<H1.length:=by omega
   have p1:L<H1.length:=by omega
   by_cases hnm:nm=[]
   case pos =>
    subst hnm
    have hp:Xg d.rc (a,[],n)=some (a,-1,n):=rfl
    simp (disch:=omega)[qb,qf,hn]
    refine zq (ys:=[.agg (ptC (a,-1,n))]) (ids:=[]) rfl rfl ?_
    simp (disch:=omega)[qb,zP,ptC]
    refine Q5 (ys:=ptC (a,-1,n)) d5 (by omega) (by decide) rfl rfl fun vs w1 w2 w3=>?_
    simp (disch:=omega)[qb]
    rw [hK0]
    refine qz (i+1,ps++[(a,-1,n)],.ms H1.length 0 (i+1) 3,qH H1 vs) ⟨by simp only;omega,by rw [st,hp],(w1 0 (by omega) (fun h=>by have:=c6 0 h;omega)).trans d3,?_,fun j hj=>?_⟩ (by simp only;omega) (by simp only [ix])
    · rw [jr];exact w3
    · simp only [rid] at hj;injection hj;omega
   case neg =>
    have hne:nm.isEmpty=false:=by simpa using hnm
    simp (disch:=omega)[qb,hne,hi,d3,qf,dyC,hwi]
    refine qQ (ys:=[DyV d,S nm]) (ids:=[]) rfl (qwI d nm hl) ?_
    simp (disch:=omega)[qb,hn,qf,qt,p1,AV.scalar,zW,zJ,zE]
    have hn2:qr (H1.set L (.cells [U a,I (zL d.rc nm),I n])) L=some (.cells [U a,I (zL d.rc nm),I n]):=qi p1
    have e3:qr (H1.set L (.cells [U a,I (zL d.rc nm),I n])) 0=some (.cells (dyC d)):=(qh (by omega)).trans d3
    have e5:AccG (H1.set L (.cells [U a,I (zL d.rc nm),I n])) x 3 i (fl ptC ps):=d5.mono fun j hj=>qh (by have:=d6 j hj;omega)
    have e7:(H1.set L (.cells [U a,I (zL d.rc nm),I n])).length=H1.length:=by simp
    generalize H1.set L (.cells [U a,I (zL d.rc nm),I n])=H2 at *
    have p2:0<H2.length:=by omega
    by_cases hneg:0≤zL d.rc nm
    case neg =>
     have hneg':(zL d.rc nm<0)=True:=by simp only [eq_iff_iff,iff_true];omega
     have hp:Xg d.rc (a,nm,n)=none:=by unfold Xg;rw [if_neg hnm,if_neg hneg]
     have hnone:Qf d.rc ws=none:=qgp (i:=i+1) (by rw [st,hp])
     rw [hK0,hnone]
     simp (disch:=omega)[qb,qf,hn2,hneg']
     exact qG (r' := .tup [.sl true 0 [],B false]) (is:=[]) rfl (.tupL (.cons .slf (.cons (.refl _) .nil)))
    case pos =>
     have hneg':(zL d.rc nm<0)=False:=by simp only [eq_iff_iff,iff_false];omega
     have hp:Xg d.rc (a,nm,n)=some (a,zL d.rc nm,n):=by unfold Xg;rw [if_neg hnm,if_pos hneg]
     generalize zL d.rc nm=r at *
     simp (disch:=omega)[qb,qf,hn2,hneg']
     refine zq (ys:=[.agg (ptC (a,r,n))]) (ids:=[]) rfl rfl ?_
     simp (disch:=omega)[qb,zP,ptC]
     refine Q5 (ys:=ptC (a,r,n)) e5 (by omega) (by decide) rfl rfl fun vs w1 w2 w3=>?_
     simp (disch:=omega)[qb]
     rw [hK0]
     refine qz (i+1,ps++[(a,r,n)],.ms H2.length 0 (i+1) 3,qH H2 vs) ⟨by simp only;omega,by rw [st,hp],(w1 0 (by omega) (fun h=>by have:=c6 0 h;omega)).trans e3,?_,fun j hj=>?_⟩ (by simp only;omega) (by simp only [ix])
     · rw [jr];exact w3
     · simp only [rid] at hj;injection hj;omega
 · have hi : i = ws.length := by simp at hc; omega
   subst hi
   subst hK0
   rw [List.take_length] at c2
   simp (disch:=omega)[qb,c2]
   obtain ⟨ids,h1,_⟩:=c5.pur
   have hle:=Yw c2
   rcases c5 with ⟨rfl,h0,_⟩ | ⟨id,rfl,_⟩
   · refine qG (r' := .tup [.sl true 0 [],B true]) (is := []) rfl ?_
     have:ps=[]:=List.eq_nil_of_length_eq_zero (by omega)
     subst this
     exact .tupL (.cons .slf (.cons (.refl _) .nil))
   · refine qG (r' := .tup [.sl (decide (ws.length = 0)) ws.length (fl ptC ps),B true]) (is := ids) ?_ ?_
     · have h2 : ze (hpf H) (.ms id 0 ws.length 3) = some (.sl (decide (ws.length = 0)) ws.length (fl ptC ps),ids) := h1
       simp only [qU,Qq,zu,QT,h2]
       simp [ze]
     · rw [← hle]
       exact .tupL (.cons .slf (.cons (.refl _) .nil))
theorem qxB {H:List HObj} {id:Nat} {d:Dy} {e:Int} {n:Nat} (h2:qr H id=some (.cells (fl bkC d.rc))) (hn:n=d.rc.length):qi7 (.tup [DyV d,I e]) (.tup [.agg [.ms id 0 n 2,I d.bath,I d.laid,Pts d.pat,Shs d.sh],I e]) H:=by
 subst hn
 have h:=qkA (n:=d.rc.length) (sz:=2) h2 qco (Xa qnv _)
 refine qG (r' := .tup [DyV d,I e]) (is:=[id]) ?_ (.refl _)
 simp only [qU,Qq,zu,QT,h]
 simp [ze,dyC]
theorem qxC {H:List HObj} {id:Nat} {d:Dy} {e:Int} {n:Nat} {f:Bool} (h2:qr H id=some (.cells (fl shC d.sh))) (hn:n=d.sh.length):qi7 (.tup [DyV d,I e]) (.tup [.agg [Bks d.rc,I d.bath,I d.laid,JG f d.pat,.ms id 0 n 4],I e]) H:=by
 subst hn
 have h:=qkA (n:=d.sh.length) (sz:=4) h2 qdz (Xa qnM _)
 refine qG (r' := .tup [.agg [Bks d.rc,I d.bath,I d.laid,JG f d.pat,Shs d.sh],I e]) (is:=[id]) ?_ ?_
 · simp only [qU,Qq,zu,QT,h]
   simp [ze]
 · exact .tupL (.cons (.aggL (.cons (.refl _) (.cons (.refl _) (.cons (.refl _) (.cons .slf (.cons (.refl _) .nil)))))) (.cons (.refl _) .nil))
theorem qxA {H:List HObj} {id:Nat} {d:Dy} {e:Int} {n:Nat} (h2:qr H id=some (.cells (fl ptC d.pat))) (hn:n=d.pat.length):qi7 (.tup [DyV d,I e]) (.tup [.agg [Bks d.rc,I d.bath,I d.laid,.ms id 0 n 3,Shs d.sh],I e]) H:=by
 subst hn
 have h:=qkA (n:=d.pat.length) (sz:=3) h2 qaK (Xa qhL _)
 refine qG (r' := .tup [DyV d,I e]) (is:=[id]) ?_ (.refl _)
 simp only [qU,Qq,zu,QT,h]
 simp [ze,dyC]
theorem qxp (d:Dy) (l:Ln) (hd:DyW d) (hl:LnV' l):qC Tryz.prog 117 [DyV d,LnV l] (.tup [DyV (zi d l).1,I (zi d l).2]):=by
 have rl:d.rc.length≤100000:=hd.i.rl
 have wl:l.words.length≤8:=hl.len
 have hsl:=hd.i.sl
 have hLO:=jO hd.rc
 have hLn:(qu d.rc).length=d.rc.length:=zy _
 have wk0:∀ (d:Dy) (e:Int) (H:List HObj),qi7 (.tup [DyV d,I e]) (.tup [.agg (dyC d),I e]) H:=fun d e H =>
  qG (r' := .tup [.agg (dyC d),I e]) (is:=[]) rfl (.refl _)
 refine zO (zj Tryz.func117 qw1 qw6 (by show 2≤_;decide) ?_)
 simp (disch:=omega)[qw9,qb,dyC,lnC]
 refine qg (ys:=[qlm false d.rc]) (ids:=[]) rfl (qfc false d.rc hd.rc (fun b hb=>by have:=(hd.i.rc b hb).1.2;omega)) ?_
 simp (disch:=omega)[qb,dyC,lnC,AV.scalar]
 refine qg (ys:=[DyV d,qlu false l.words]) (ids:=[]) rfl (qxg d false l.words (by omega) (by omega)) ?_
 simp (disch:=omega)[qb,dyC,lnC,AV.scalar]
 generalize hP:Qf d.rc l.words=P at *
 have back:∀ (e:Int) (hn:zi d l=(d,e)),qi7 (.tup [DyV (zi d l).1,I (zi d l).2]) (.tup [.agg (dyC d),I e]) [.cells (dyC d),.cells (lnC l),.cells (dyC d)]:=fun e hn=>by rw [hn];exact wk0 _ _ _
 by_cases k1:l.kind=1
 case pos =>
  simp (disch:=omega)[qb,dyC,lnC,k1]
  refine qg (ys:=[DyV d,S l.name]) (ids:=[]) rfl (qwI d l.name (by omega)) ?_
  simp (disch:=omega)[qb,dyC,lnC,k1,AV.scalar]
  by_cases b1:0≤zL d.rc l.name
  case pos =>
   have hn:zi d l=(d,11):=by unfold zi;rw [if_pos k1,if_pos b1]
   simp (disch:=omega)[qb,dyC,lnC,b1]
   exact qK (id:=2) (off:=0) (cs:=dyC d) rfl rfl (by simp [dyC]) (back 11 hn)
  have b1':(0≤zL d.rc l.name)=False:=by simp only [eq_iff_iff,iff_false];exact b1
  by_cases b2:32≤d.rc.length
  case pos =>
   have hn:zi d l=(d,10):=by unfold zi;rw [if_pos k1,if_neg b1,if_pos b2]
   have b2':(32≤(d.rc.length:Int))=True:=by simp only [eq_iff_iff,iff_true];omega
   simp (disch:=omega)[qb,dyC,lnC,b1',b2']
   exact qK (id:=2) (off:=0) (cs:=dyC d) rfl rfl (by simp [dyC]) (back 10 hn)
  have b2':(32≤(d.rc.length:Int))=False:=by simp only [eq_iff_iff,iff_false];omega
  cases P with
  | none =>
    have hn:zi d l=(d,5):=by unfold zi;rw [if_pos k1,if_neg b1,if_neg b2,hP]
    simp (disch:=omega)[qb,dyC,lnC,b1',b2']
    exact qK (id:=2) (off:=0) (cs:=dyC d) rfl rfl (by simp [dyC]) (back 5 hn)
  | some p =>
  have hpB:∀ q∈p,qI (qu d.rc).length q=true:=by rw [hLn];exact VN hl.words hP
  have hpl:=Yw hP
  simp (disch:=omega)[qb,dyC,lnC,b1',b2']
  refine qg (ys:=[Ls false (qu d.rc),JG false p]) (ids:=[]) rfl (VT false false _ p hLO hpB (by omega)) ?_
  simp (disch:=omega)[qb,dyC,lnC,AV.scalar]
  by_cases b3:QM<QZ (qu d.rc) p
  case pos =>
   have hn:zi d l=(d,4):=by unfold zi;rw [if_pos k1,if_neg b1,if_neg b2,hP];exact if_pos b3
   have b3':(1099511627776<QZ (qu d.rc) p)=True:=by simp only [eq_iff_iff,iff_true];exact b3
   simp (disch:=omega)[qb,dyC,lnC,b3']
   exact qK (id:=2) (off:=0) (cs:=dyC d) rfl rfl (by simp [dyC]) (back 4 hn)
  have hn:zi d l=({ d with rc:=d.rc++[(l.name,p)] },0):=by unfold zi;rw [if_pos k1,if_neg b1,if_neg b2,hP];exact if_neg b3
  have b3':(1099511627776<QZ (qu d.rc) p)=False:=by simp only [eq_iff_iff,iff_false];exact b3
  simp (disch:=omega)[qb,dyC,lnC,b3']
  refine zq (ys:=[]) (ids:=[]) rfl rfl ?_
  simp (disch:=omega)[qb,dyC,lnC,zP,qee,qco,Xa qnv]
  refine ⟨by omega,zq (ys:=[.agg (bkC (l.name,p))]) (ids:=[]) rfl rfl ?_⟩
  simp (disch:=omega)[qb,dyC,lnC,zP,bkC,qed,J4,qr,qf,qt,zW,zJ,zE,qco]
  refine ⟨by omega,?_⟩
  rw [hn]
  refine qK (id:=2) (off:=0) (cs:=[.ms 4 0 (d.rc.length+1) 2,I d.bath,I d.laid,Pts d.pat,Shs d.sh]) rfl rfl (by simp) ?_
  refine qxB (d:={ d with rc:=d.rc++[(l.name,p)] }) (id:=4) ?_ (by simp)
  show some _=some _
  rw [List.take_of_length_le (by rw [qco];omega)]
  congr 2
  rw [jr];rfl
 have k1':(l.kind==1)=false:=by rw [beq_eq_false_iff_ne];exact k1
 by_cases k2:l.kind=2
 case pos =>
  have hn:zi d l=({ d with bath:=d.bath+1,laid:=0,pat:=[] },0):=by unfold zi;rw [if_neg k1,if_pos k2]
  have hb:=hd.bath
  rw [hn]
  simp (disch:=omega)[qb,dyC,lnC,k1',k2]
  refine qK (id:=2) (off:=0) (cs:=[Bks d.rc,I (d.bath+1),I 0,.sl true 0 [],Shs d.sh]) rfl rfl (by simp) ?_
  exact qG (r' := .tup [.agg [Bks d.rc,I (d.bath+1),I 0,.sl true 0 [],Shs d.sh],I 0]) (is:=[]) rfl (.tupL (.cons (.aggL (.cons (.refl _) (.cons (.refl _) (.cons (.refl _) (.cons .slf (.cons (.refl _) .nil)))))) (.cons (.refl _) .nil)))
 have k2':(l.kind==2)=false:=by rw [beq_eq_false_iff_ne];exact k2
 by_cases b0:d.bath=0
 case pos =>
  have hn:zi d l=(d,9):=by unfold zi;rw [if_neg k1,if_neg k2,if_pos b0]
  have b0':(d.bath==0)=true:=by rw [beq_iff_eq];exact b0
  simp (disch:=omega)[qb,dyC,lnC,k1',k2',b0']
  exact qK (id:=2) (off:=0) (cs:=dyC d) rfl rfl (by simp [dyC]) (back 9 hn)
 have b0':(d.bath==0)=false:=by rw [beq_eq_false_iff_ne];exact b0
 by_cases k3:l.kind=3
 case pos =>
  have hpt:=hd.i.pat.2
  have hpl:(P.getD []).length≤8:=by
   cases P with
   | none=>simp
   | some p=>simp [Yw hP,wl]
  have tk:(fl ptC d.pat).take (d.pat.length*3)=fl ptC d.pat:=List.take_of_length_le (by rw [qaK];omega)
  simp (disch:=omega)[qb,dyC,lnC,k1',k2',b0',k3]
  refine zq (ys:=[]) (ids:=[]) rfl rfl ?_
  simp (disch:=omega)[qb,dyC,lnC,zP,qee,qed,J4,qr,qaK,Xa qhL,tk]
  refine ⟨by omega,by omega,?_⟩
  cases P with
  | none =>
    have hn:zi d l=(d,5):=by unfold zi;rw [if_neg k1,if_neg k2,if_neg b0,if_pos k3,hP]
    simp (disch:=omega)[qb,dyC,lnC]
    refine qK (id:=2) (off:=0) (cs:=dyC d) rfl rfl (by simp [dyC]) ?_
    rw [hn];exact wk0 _ _ _
  | some p =>
  have hpB:∀ q∈p,qI (qu d.rc).length q=true:=by rw [hLn];exact VN hl.words hP
  have hpB2 : ∀ q ∈ d.pat ++ p,qI (qu d.rc).length q = true := fun q hq => by
   rcases List.mem_append.1 hq with hq | hq
   · rw [hLn];exact hd.pat q hq
   · exact hpB q hq
  have hU:zi d l=if 64<(d.pat++p).length then (d,10) else if QM<QZ (qu d.rc) (d.pat++p) then (d,4) else ({ d with pat:=d.pat++p },0):=by
   unfold zi;rw [if_neg k1,if_neg k2,if_neg b0,if_pos k3,hP]
  have hlen:(d.pat++p).length=d.pat.length+p.length:=List.length_append
  have hpl':p.length≤8:=hpl
  simp (disch:=omega)[qb,dyC,lnC]
  by_cases b4:64<(d.pat++p).length
  case pos =>
   have hn:zi d l=(d,10):=by rw [hU,if_pos b4]
   have b4':(64<(d.pat.length:Int)+p.length)=True:=by simp only [eq_iff_iff,iff_true];omega
   simp (disch:=omega)[qb,dyC,lnC,b4']
   refine qK (id:=2) (off:=0) (cs:=dyC d) rfl rfl (by simp [dyC]) ?_
   rw [hn];exact wk0 _ _ _
  have b4':(64<(d.pat.length:Int)+p.length)=False:=by simp only [eq_iff_iff,iff_false];omega
  simp (disch:=omega)[qb,dyC,lnC,b4']
  have hpm:=qgt (hp:=[HObj.cells [Bks d.rc,I d.bath,I d.laid,Pts d.pat,Shs d.sh],HObj.cells [I 3,S l.name,Wds l.words,I l.num],HObj.cells [AV.sl true 0 [],I 0,I 0,AV.sl true 0 [],AV.sl true 0 []],HObj.gone,HObj.cells (fl ptC d.pat++fl ptC p)]) (id:=4) (n:=d.pat.length+p.length) (sz:=3) rfl (by rw [←jr,qaK,hlen]) (by rw [←jr];exact Xa qhL _)
  have ev:AV.sl false (d.pat.length+p.length) (fl ptC d.pat++fl ptC p)=JG false (d.pat++p):=by show _=AV.sl _ (d.pat++p).length _;rw [hlen,jr]
  rw [ev] at hpm
  refine qg (ys:=[Ls false (qu d.rc),JG false (d.pat++p)]) (ids:=[4]) (by simp only [qE,hpm];rfl) (VT false false _ (d.pat++p) hLO hpB2 (by omega)) ?_
  simp (disch:=omega)[qb,dyC,lnC,AV.scalar]
  by_cases b3:QM<QZ (qu d.rc) (d.pat++p)
  case pos =>
   have hn:zi d l=(d,4):=by rw [hU,if_neg b4,if_pos b3]
   have b3':(1099511627776<QZ (qu d.rc) (d.pat++p))=True:=by simp only [eq_iff_iff,iff_true];exact b3
   simp (disch:=omega)[qb,dyC,lnC,b3']
   refine qK (id:=2) (off:=0) (cs:=dyC d) rfl rfl (by simp [dyC]) ?_
   rw [hn];exact wk0 _ _ _
  have hn:zi d l=({ d with pat:=d.pat++p },0):=by rw [hU,if_neg b4,if_neg b3]
  have b3':(1099511627776<QZ (qu d.rc) (d.pat++p))=False:=by simp only [eq_iff_iff,iff_false];exact b3
  simp (disch:=omega)[qb,dyC,lnC,b3',qr,qf,qt]
  rw [hn]
  refine qK (id:=2) (off:=0) (cs:=[Bks d.rc,I d.bath,I d.laid,.ms 4 0 (d.pat.length+p.length) 3,Shs d.sh]) rfl rfl (by simp) ?_
  refine qxA (d:={ d with pat:=d.pat++p }) (id:=4) ?_ (by simp)
  show some _=some _
  rw [←jr]
 have k3':(l.kind==3)=false:=by rw [beq_eq_false_iff_ne];exact k3
 simp (disch:=omega)[qb,dyC,lnC,k1',k2',k3',b0']
 refine qO (fun i:Nat=>⟨[(2,.ref 0 0),(3,.ref 1 0),(4,.ref 2 0),(10,I (i:Int))],[.cells (dyC d),.cells (lnC l),.cells [.sl true 0 [],I 0,I 0,.sl true 0 [],.sl true 0 []]]⟩) (fun i=>i≤d.sh.length∧∀ j (hj:j<d.sh.length),j<i→d.sh[j].num≠l.num) (fun i=>d.sh.length - i) 0 ⟨Nat.zero_le _,fun j _ h=>by omega⟩ rfl ?_
 rintro i ⟨c1,c2⟩
 refine qW fun K0 hK0=>?_
 simp (disch:=omega)[qb,dyC,lnC]
 refine qP (fun hc=>?_) (fun hc=>?_)
 · have hi : i < d.sh.length := by simpa using hc
   have ix:((i:Int)+1)=((i+1:Nat):Int):=by omega
   simp (disch:=omega)[qb,dyC,lnC,hi,zW,zJ,zE]
   by_cases he:d.sh[i].num=l.num
   · have he' : (d.sh[i].num == l.num) = true := by rw [beq_iff_eq]; exact he
     have hn:zi d l=(d,11):=by
      have:d.sh.any (fun s=>decide (s.num=l.num))=true:=by rw [List.any_eq_true];exact ⟨_,List.getElem_mem hi,by simpa using he⟩
      unfold zi;rw [if_neg k1,if_neg k2,if_neg b0,if_neg k3,if_pos this]
     subst hK0
     simp (disch:=omega)[qb,dyC,lnC,he']
     exact qK (id:=2) (off:=0) (cs:=dyC d) rfl rfl (by simp [dyC]) (back 11 hn)
   · have he' : (d.sh[i].num == l.num) = false := by rw [beq_eq_false_iff_ne]; exact he
     simp (disch:=omega)[qb,dyC,lnC,he']
     rw [hK0]
     refine qz (i+1) ⟨by omega,fun j hj hlt=>?_⟩ (by omega) (by simp only [ix,dyC,lnC])
     by_cases e:j=i
     · subst e;exact he
     · exact c2 j hj (by omega)
 · have hi : i = d.sh.length := by simp at hc; omega
   subst hi
   subst hK0
   have hany : ¬ d.sh.any (fun s => decide (s.num = l.num)) = true := by
    rw [List.any_eq_true]
    rintro ⟨s,hs,h2⟩
    obtain ⟨j,hj,rfl⟩:=List.mem_iff_getElem.1 hs
    exact c2 j hj hj (by simpa using h2)
   have hla:=hd.laid
   have tk:(fl shC d.sh).take (d.sh.length*4)=fl shC d.sh:=List.take_of_length_le (by rw [qdz];omega)
   simp (disch:=omega)[qb,dyC,lnC]
   by_cases b5:8≤d.laid
   case pos =>
    have hn:zi d l=(d,10):=by unfold zi;rw [if_neg k1,if_neg k2,if_neg b0,if_neg k3,if_neg hany,if_pos b5]
    have b5':(8≤d.laid)=True:=by simp only [eq_iff_iff,iff_true];exact b5
    simp (disch:=omega)[qb,dyC,lnC,b5']
    exact qK (id:=2) (off:=0) (cs:=dyC d) rfl rfl (by simp [dyC]) (back 10 hn)
   have hn:zi d l=({ d with sh:=d.sh++[⟨l.num,d.bath,d.laid,d.pat⟩],laid:=d.laid+1,pat:=[] },0):=by unfold zi;rw [if_neg k1,if_neg k2,if_neg b0,if_neg k3,if_neg hany,if_neg b5]
   have b5':(8≤d.laid)=False:=by simp only [eq_iff_iff,iff_false];exact b5
   simp (disch:=omega)[qb,dyC,lnC,b5']
   refine zq (ys:=[]) (ids:=[]) rfl rfl ?_
   simp (disch:=omega)[qb,dyC,lnC,zP,qee,qdz,Xa qnM]
   refine ⟨by omega,zq (ys:=[.agg (shC ⟨l.num,d.bath,d.laid,d.pat⟩)]) (ids:=[]) rfl rfl ?_⟩
   simp (disch:=omega)[qb,dyC,lnC,zP,shC,qed,J4,qr,qf,qt,zW,zJ,zE,qdz,tk]
   refine ⟨by omega,?_⟩
   rw [hn]
   refine qK (id:=2) (off:=0) (cs:=[Bks d.rc,I d.bath,I (d.laid+1),.sl true 0 [],.ms 4 0 (d.sh.length+1) 4]) rfl rfl (by simp) ?_
   refine qxC (d:={ d with sh:=d.sh++[⟨l.num,d.bath,d.laid,d.pat⟩],laid:=d.laid+1,pat:=[] }) (id:=4) (f:=true) ?_ (by simp)
   show some _=some _
   rw [jr];rfl
theorem PcJ.word {c s i fr acc} (h:PcJ c s i fr acc) (hi:i<s.length) (hb:s[i]=c):PcJ c s (i+1) (i+1) (acc++[(s.drop fr).take (i - fr)]) :=
 ⟨Nat.le_refl _,hi,by simp,by
  have e1:qM c (s.drop fr)=(s.drop fr).take (i - fr)::qM c (s.drop (i+1)):=by
   conv=>lhs;rw [qxb h.le hi,hb,qfs h.no]
  rw [h.sp,e1]
  simp,by have:=h.ln;have:=h.le;simp;omega⟩
theorem qxt {hp x} {e:Int} {l:List (List UInt8)} (h:AccG hp x 1 l.length (fl WJ l)):qi7 (.tup [qqK l,I e]) (.tup [x,I e]) hp:=by
 obtain ⟨ids,h1,_⟩:=h.pur
 rcases h with ⟨rfl,h0,_⟩ | ⟨id,rfl,_⟩
 · obtain rfl : l = [] := List.eq_nil_of_length_eq_zero h0
   exact qG (r' := .tup [.sl true 0 [],I e]) (is:=[]) rfl (.tupL (.cons .slf (.cons (.refl _) .nil)))
 · have h2 : ze (hpf hp) (.ms id 0 l.length 1) = some (.sl (decide (l.length = 0)) l.length (fl WJ l),ids) := h1
   refine qG (r' := .tup [.sl (decide (l.length=0)) l.length (fl WJ l),I e]) (is:=ids) ?_ (.tupL (.cons .slf (.cons (.refl _) .nil)))
   simp only [qU,Qq,zu,QT,h2]
   simp [ze]
def qwv:AC:=match qwr with
 | .seq _ (.seq _ (.seq _ t))=>t
 | x=>x
theorem qwG (s : List UInt8) (hs : s.length ≤ 1000000) (h1 : ¬ 65536 < s.length) (h2 : qpi s = false) (fr : List (Nat × AV)) :
 AWP Tryz.prog (E1 Tryz.prog) qwv ⟨(0,S s)::fr,[]⟩ (qfB [2,3] (qi7 (.tup [qqK (qaw s),I (V0 s)]))):=by
 simp (disch:=omega)[qwv,qwr,qb]
 refine qkg (fun q : Nat × Nat × List (List UInt8) × AV × List HObj => ⟨[(0,S s),(4,q.2.2.2.1),(5,I (q.2.1 : Int)),(6,I (q.1 : Int))],q.2.2.2.2⟩)
  (fun q=>PcJ 10 s q.1 q.2.1 q.2.2.1∧AccG q.2.2.2.2 q.2.2.2.1 1 q.2.2.1.length (fl WJ q.2.2.1)) (fun q=>s.length - q.1) (0,0,[],.sl true 0 [],[]) ⟨.zero 10 s,.nil⟩ (St.le.rfl' _) ?_
 rintro ⟨i,fr,acc,x,H⟩ ⟨J,c3⟩
 simp only at J c3 ⊢
 refine qW fun K0 hK0=>?_
 simp (disch:=omega)[qb]
 have hle:=J.le
 have hln:=J.ln
 have hli:=J.li
 refine qP (fun hc=>?_) (fun hc=>?_)
 · have hi : i < s.length := by simpa using hc
   have ix:((i:Int)+1)=((i+1:Nat):Int):=by omega
   simp (disch:=omega)[qb,hi]
   cases hb:((s[i].toNat:Int)==10) with
   | true =>
     have hb':s[i]=10:=by rw [beq_iff_eq] at hb;exact UInt8.toNat_inj.1 (by show s[i].toNat=10;omega)
     simp (disch:=omega)[qb]
     refine zq (ys:=[S ((s.drop fr).take (i - fr))]) (ids:=[]) rfl rfl ?_
     simp (disch:=omega)[qb,zP]
     refine Q5 (ys:=[S ((s.drop fr).take (i - fr))]) c3 (by omega) (by decide) rfl rfl fun ws w1 w2 w3=>?_
     simp (disch:=omega)[qb,zP]
     rw [hK0]
     refine qz (i+1,i+1,acc++[(s.drop fr).take (i - fr)],.ms H.length 0 (acc.length+1) 1,qH H ws) ⟨J.word hi hb',?_⟩ (by simp only;omega) (by simp only [ix])
     simp only [List.length_append,List.length_singleton,jr]
     exact w3
   | false =>
     have hb':s[i]≠10:=by rw [beq_eq_false_iff_ne] at hb;exact fun e=>hb (by rw [e];rfl)
     simp (disch:=omega)[qb]
     rw [hK0]
     exact qz (i+1,fr,acc,x,H) ⟨J.step hi hb',c3⟩ (by simp only;omega) (by simp only [ix])
 · have hi : i = s.length := by simp at hc; omega
   subst hi
   have e:=J.last
   subst hK0
   have hsp:(qM 10 s).dropLast=acc:=e.symm
   by_cases b:400<acc.length
   case pos =>
    have b':(400<(acc.length:Int))=True:=by simp only [eq_iff_iff,iff_true];omega
    have hE:V0 s=6:=by unfold V0;rw [if_neg h1,h2,hsp];simp [b]
    have hL:qaw s=[]:=by unfold qaw;rw [hE];rfl
    rw [hE,hL]
    simp (disch:=omega)[qb,c3.lenW,b']
    exact qG (r' := .tup [.sl true 0 [],I 6]) (is:=[]) rfl (.tupL (.cons .slf (.cons (.refl _) .nil)))
   have b':(400<(acc.length:Int))=False:=by simp only [eq_iff_iff,iff_false];omega
   have hE:V0 s=0:=by unfold V0;rw [if_neg h1,h2,hsp];simp [b]
   have hL:qaw s=acc:=by unfold qaw;rw [hE,hsp];rfl
   rw [hE,hL]
   simp (disch:=omega)[qb,c3.lenW,b']
   exact qxt c3
theorem qw5 (s:List UInt8):qC Tryz.prog 51 [S s] (.tup [qqK (qaw s),I (V0 s)]):=by
 refine zO (walk Tryz.func51 qwS (by kernel_rfl) (by show 1≤_;decide) ?_)
 simp (disch:=omega)[qwr,qb]
 have bad : ∀ (e : Int) (H : List HObj) (h : V0 s = e) (h0 : e ≠ 0),qi7 (.tup [qqK (qaw s),I (V0 s)]) (.tup [.sl true 0 [],I e]) H := fun e H h h0 => by
  have:qaw s=[]:=if_neg (by rw [h];exact h0)
  rw [this,h]
  exact qG (r' := .tup [.sl true 0 [],I e]) (is:=[]) rfl (.tupL (.cons .slf (.cons (.refl _) .nil)))
 by_cases hbig:65536<s.length
 case pos =>
  have hbig':(65536<(s.length:Int))=True:=by simp only [eq_iff_iff,iff_true];omega
  simp (disch:=omega)[qb,hbig']
  exact bad 7 _ (if_pos hbig) (by decide)
 have hs:s.length≤1000000:=by omega
 have hbig':(65536<(s.length:Int))=False:=by simp only [eq_iff_iff,iff_false];omega
 simp (disch:=omega)[qb,hbig']
 cases hs0:s with
 | nil =>
   subst hs0
   have t:=qwG [] hs hbig rfl []
   simp (disch:=omega)[qb]
   simp (disch:=omega)[qb,qwv,qwr] at t
   exact t
 | cons b r =>
   rw [←hs0]
   have hpos:0<s.length:=by rw [hs0];simp
   have hlt:s.length - 1<s.length:=by omega
   have ho:=qxw hlt
   have sx:((s.length:Int) - 1)=((s.length - 1:Nat):Int):=by omega
   simp (disch:=omega)[qb,hpos,sx,hlt]
   by_cases hb:s[s.length - 1]=10
   · have hb' : ((s[s.length - 1].toNat : Int) != 10) = false := by rw [hb]; rfl
     have t:=qwG s hs hbig (by rw [ho];simpa using hb) []
     simp (disch:=omega)[qb,hb']
     simp (disch:=omega)[qb,qwv,qwr] at t
     exact t
   · have hb':((s[s.length - 1].toNat:Int) != 10)=true:=by
      rw [bne_iff_ne];intro h;exact hb (UInt8.toNat_inj.1 (by show s[s.length - 1].toNat=10;omega))
     have hO:qpi s=true:=by rw [ho];simpa using hb
     simp (disch:=omega)[qb,hb']
     exact bad 8 _ (by unfold V0;rw [if_neg hbig,hO];rfl) (by decide)
theorem qxe (s:List UInt8) (hs:s.length≤1000000):qC Tryz.prog 51 [S s] (.tup [qqK (qaw s),I (V0 s)]):=qw5 s
theorem qwJ (d:Dy):(dyC d).length=5:=rfl
theorem qxy (d:Dy):((dyC d).all AV.isPC)=true:=rfl
def dyF (f:Bool) (d:Dy):List AV:=[qlm f d.rc,I d.bath,I d.laid,JG f d.pat,qtm f d.sh]
theorem qxz {f:Bool} {d:Dy}:WkL (dyF f d) (dyC d) := .cons .slf (.cons (.refl _) (.cons (.refl _) (.cons .slf (.cons .slf .nil))))
theorem qwF {q:Pl} (h:q.at'≤q.ds.length):∃ DC:List AV,z0++fl dyC q.ds=DC∧DC.length=(q.ds.length+1)*5∧(∃ f,(DC.drop (q.at'*5)).take 5=dyF f (qX q))∧DC.take ((q.at'+1)*5)=z0++fl dyC (q.ds.take q.at')∧(DC.all AV.isPC)=true:=by
 have hz:z0.length=5:=rfl
 refine ⟨_,rfl,by rw [List.length_append,J9 qwJ,hz];omega,?_,?_,by rw [List.all_append,Xa qxy];rfl⟩
 · cases ha:q.at' with
   | zero =>
     refine ⟨true,?_⟩
     unfold qX;rw [ha];rfl
   | succ j =>
     rw [ha] at h
     have e:(z0++fl dyC q.ds).drop ((j+1)*5)=(fl dyC q.ds).drop (j*5):=by
      rw [show (j+1)*5=5+j*5 by omega,←List.drop_drop];rfl
     have e2:qX q=q.ds[j]:=by
      unfold qX
      rw [ha,List.getD_eq_getElem?_getD,List.getElem?_cons_succ,List.getElem?_eq_getElem (by omega)];rfl
     rw [e2]
     refine ⟨false,?_⟩
     rw [e,qfV qwJ (by omega)];rfl
 · rw [show (q.at'+1)*5=5+q.at'*5 by omega,List.take_append,hz,List.take_of_length_le (by rw [hz];omega),show 5+q.at'*5 - 5=q.at'*5 by omega,qjJ qwJ]
theorem qwu {a sz b c d : Nat} {fr : List (Nat × AV)} {hp : List HObj} {id off : Nat} {cs : List AV} {K : AV → List HObj → Prop} (h1 : get fr a = .ref id off) (h2 : qr hp id = some (.cells cs)) (h3 : off + sz ≤ cs.length) (k : K (.tup [.agg (zT cs off sz),get fr b,get fr c,get fr d]) hp) :
 qh5 [(a,some (true,sz)),(b,none),(c,none),(d,none)] K .ret ⟨fr,hp⟩:=by
 refine ⟨[.agg (zT cs off sz),get fr b,get fr c,get fr d],⟨?_,rfl,rfl,rfl,trivial⟩,k⟩
 simp only [WH,h1,zh,h2]
 exact ⟨trivial,h3,trivial⟩
theorem qxn {hp:List HObj} {id:Nat} {l:List (List UInt8)} {m:Nat} (h2:qr hp id=some (.cells (fl WJ l))) (hm:m≤l.length):zu (hpf hp) (.ms id 0 m 1)=some (.sl false m (fl WJ (l.take m)),[id]):=by
 show ze (hpf hp) (.ms id 0 m 1)=_
 simp only [ze,zh,h2]
 rw [if_pos ⟨by rw [qdD];omega,Xv (Xa qp3 _)⟩]
 simp only [zT,List.drop_zero]
 rw [qjJ qhU]
theorem qxE {H:List HObj} {f a b:Bool} {d:Dy} {x y:AV} {n m:Nat} {cs es:List AV} {i1 i2:List Nat} {e:Int} (hx:zu (hpf H) x=some (.sl a n cs,i1)) (hy:zu (hpf H) y=some (.sl b m es,i2)):qi7 (.tup [DyV d,.sl false n cs,.sl false m es,I e]) (.tup [.agg (dyF f d),x,y,I e]) H:=by
 refine qG (r' := .tup [.agg (dyF f d),.sl a n cs,.sl b m es,I e]) (is:=[]++(i1++(i2++[]))) ?_ (.tupL (.cons (.aggL qxz) (.cons .slf (.cons .slf (.cons (.refl _) .nil)))))
 have h0:zu (hpf H) (.agg (dyF f d))=some (.agg (dyF f d),[]):=rfl
 have h3:Qq (hpf H) [I e]=some ([I e],[]):=rfl
 simp only [qU,Qq,hx,hy,h0]
 rfl
def qwx:AC:=match qwt with
 | .seq _ (.seq _ (.seq _ t))=>t
 | x=>x
theorem qw4 (ls : List (List UInt8)) (hl : ls.length ≤ 400) (hw : ∀ w ∈ ls,w.length ≤ 1000000) (fr : List (Nat × AV)) :
 AWP Tryz.prog (E1 Tryz.prog) qwx ⟨(2,.ref 0 0)::(6,qjl false ls)::fr,[.cells z0]⟩ (qh5 [(2,some (true,5)),(3,none),(4,none),(5,none)] (qi7 (.tup [DyV (qX (jQ ls)),.sl false (jQ ls).errs.length (fl qjb (jQ ls).errs),qqK ((jQ ls).kept.take (jQ ls).at'),I 0]))):=by
 simp (disch:=omega)[qwx,qwt,qb]
 refine zq (ys:=[.agg z0]) (ids:=[]) rfl rfl ?_
 simp (disch:=omega)[qb,zP]
 refine qO (fun q : Nat × AV × AV × AV × List HObj => ⟨[(2,.ref 0 0),(6,qjl false ls),(8,q.2.1),(9,q.2.2.1),(10,I ((jQ (ls.take q.1)).at' : Int)),(11,q.2.2.2.1),(12,I (q.1 : Int))],q.2.2.2.2⟩)
  (fun q=>q.1≤ls.length∧PlM q.2.2.2.2 q.2.1 q.2.2.1 q.2.2.2.1 (jQ (ls.take q.1)).ds (jQ (ls.take q.1)).kept (jQ (ls.take q.1)).errs)
  (fun q=>ls.length - q.1) (0,.sl true 1 z0,.sl true 0 [],.sl true 0 [],[.cells z0]) ⟨Nat.zero_le _,.zero⟩ rfl ?_
 rintro ⟨i,x8,x9,x11,H⟩ ⟨c1,M⟩
 simp only at c1 M ⊢
 refine qW fun K0 hK0=>?_
 simp (disch:=omega)[qb]
 have V:=qdg hl i c1
 refine qP (fun hc=>?_) (fun hc=>?_)
 · have hi : i < ls.length := by simpa using hc
   have ix:((i:Int)+1)=((i+1:Nat):Int):=by omega
   have st:=Yy hi
   have hh:=hw _ (List.getElem_mem hi)
   have hat:=V.at'
   have hkl:=V.kept
   have hdl:=V.len
   have hel:=V.errs
   simp (disch:=omega)[qb,hi]
   generalize hs:ls[i]=s at *
   refine qg rfl (qxf s hh) ?_
   have hpV:=WB (s:=s)
   simp (disch:=omega)[qb,lnC]
   generalize hq:jQ (ls.take i)=q at *
   have M1:=M.push (o:=HObj.cells [I (zd s).kind,S (zd s).name,Wds (zd s).words,I (zd s).num])
   have hn:=Qn (H:=H) (o:=HObj.cells [I (zd s).kind,S (zd s).name,Wds (zd s).words,I (zd s).num])
   have l0:=qj M.c0
   have d7:(H++[HObj.cells [I (zd s).kind,S (zd s).name,Wds (zd s).words,I (zd s).num]]).length=H.length+1:=by simp
   generalize H++[HObj.cells [I (zd s).kind,S (zd s).name,Wds (zd s).words,I (zd s).num]]=H1 at *
   generalize H.length=L at *
   by_cases hE:jc s=0
   case neg =>
    have hE':(jc s != 0)=true:=by rw [bne_iff_ne];exact hE
    have hstep:Ql q s={ q with errs:=q.errs++[jc s] }:=if_pos hE
    simp (disch:=omega)[qb,hE']
    refine zq (ys:=[I (jc s)]) (ids:=[]) rfl rfl ?_
    simp (disch:=omega)[qb,zP]
    refine Q5 (ys:=[I (jc s)]) M1.c11 (by omega) (by decide) rfl rfl fun vs w1 w2 w3=>?_
    simp (disch:=omega)[qb]
    rw [hK0]
    refine qz (i+1,x8,x9,.ms H1.length 0 (q.errs.length+1) 1,qH H1 vs) ⟨by simp only;omega,?_⟩ (by simp only;omega) (by simp only [ix,st,hstep])
    simp only [st,hstep]
    exact M1.err w1 w3
   have hE':(jc s != 0)=false:=by rw [hE];rfl
   have lv:=hpV hE
   by_cases h5:(zd s).kind=5
   case pos =>
    by_cases ha:q.at'=0
    case pos =>
     have ha':((q.at':Int)==0)=true:=by rw [beq_iff_eq];omega
     have hstep:Ql q s={ q with errs:=q.errs++[5] }:=by unfold Ql;rw [if_neg (by simpa using hE),if_pos (.inl ⟨h5,ha⟩)]
     simp (disch:=omega)[qb,hE',hn,qf,h5,ha']
     refine zq (ys:=[I 5]) (ids:=[]) rfl rfl ?_
     simp (disch:=omega)[qb,zP]
     refine Q5 (ys:=[I 5]) M1.c11 (by omega) (by decide) rfl rfl fun vs w1 w2 w3=>?_
     simp (disch:=omega)[qb]
     rw [hK0]
     refine qz (i+1,x8,x9,.ms H1.length 0 (q.errs.length+1) 1,qH H1 vs) ⟨by simp only;omega,?_⟩ (by simp only;omega) (by simp only [ix,st,hstep])
     simp only [st,hstep]
     exact M1.err w1 w3
    case neg =>
     have ha':((q.at':Int)==0)=false:=by rw [beq_eq_false_iff_ne];omega
     have ax:((q.at':Int) - 1)=((q.at' - 1:Nat):Int):=by omega
     have hstep:Ql q s={ q with at':=q.at' - 1,errs:=q.errs++[0] }:=by
      unfold Ql;rw [if_neg (by simpa using hE),if_neg (by rintro (⟨_,h⟩ | ⟨h,_⟩);exact ha h;omega),if_pos h5]
     simp (disch:=omega)[qb,hE',hn,qf,h5,ha']
     refine zq (ys:=[I (jc s)]) (ids:=[]) rfl rfl ?_
     simp (disch:=omega)[qb,zP]
     refine Q5 (ys:=[I (jc s)]) M1.c11 (by omega) (by decide) rfl rfl fun vs w1 w2 w3=>?_
     simp (disch:=omega)[qb]
     rw [hK0]
     refine qz (i+1,x8,x9,.ms H1.length 0 (q.errs.length+1) 1,qH H1 vs) ⟨by simp only;omega,?_⟩ (by simp only;omega) (by simp only [ix,ax,st,hstep])
     simp only [st,hstep]
     rw [hE] at w3
     exact M1.err w1 w3
   case neg =>
   have h5':((zd s).kind==5)=false:=by rw [beq_eq_false_iff_ne];exact h5
   by_cases h6:(zd s).kind=6
   case pos =>
    by_cases ha:q.at'=q.kept.length
    case pos =>
     have ha':((q.at':Int)==(q.kept.length:Int))=true:=by rw [beq_iff_eq];omega
     have hstep:Ql q s={ q with errs:=q.errs++[5] }:=by unfold Ql;rw [if_neg (by simpa using hE),if_pos (.inr ⟨h6,ha⟩)]
     simp (disch:=omega)[qb,hE',hn,qf,h5',h6,M1.c9.lenW,ha']
     refine zq (ys:=[I 5]) (ids:=[]) rfl rfl ?_
     simp (disch:=omega)[qb,zP]
     refine Q5 (ys:=[I 5]) M1.c11 (by omega) (by decide) rfl rfl fun vs w1 w2 w3=>?_
     simp (disch:=omega)[qb]
     rw [hK0]
     refine qz (i+1,x8,x9,.ms H1.length 0 (q.errs.length+1) 1,qH H1 vs) ⟨by simp only;omega,?_⟩ (by simp only;omega) (by simp only [ix,st,hstep])
     simp only [st,hstep]
     exact M1.err w1 w3
    case neg =>
     have ha':((q.at':Int)==(q.kept.length:Int))=false:=by rw [beq_eq_false_iff_ne];omega
     have ax:((q.at':Int)+1)=((q.at'+1:Nat):Int):=by omega
     have hstep:Ql q s={ q with at':=q.at'+1,errs:=q.errs++[0] }:=by
      unfold Ql;rw [if_neg (by simpa using hE),if_neg (by rintro (⟨h,_⟩ | ⟨_,h⟩);exact h5 h;exact ha h),if_neg h5,if_pos h6]
     simp (disch:=omega)[qb,hE',hn,qf,h5',h6,M1.c9.lenW,ha']
     refine zq (ys:=[I (jc s)]) (ids:=[]) rfl rfl ?_
     simp (disch:=omega)[qb,zP]
     refine Q5 (ys:=[I (jc s)]) M1.c11 (by omega) (by decide) rfl rfl fun vs w1 w2 w3=>?_
     simp (disch:=omega)[qb]
     rw [hK0]
     refine qz (i+1,x8,x9,.ms H1.length 0 (q.errs.length+1) 1,qH H1 vs) ⟨by simp only;omega,?_⟩ (by simp only;omega) (by simp only [ix,ax,st,hstep])
     simp only [st,hstep]
     rw [hE] at w3
     exact M1.err w1 w3
   case neg =>
   have h6':((zd s).kind==6)=false:=by rw [beq_eq_false_iff_ne];exact h6
   simp (disch:=omega)[qb,hE',hn,qf,h5',h6']
   have hk:=lv.kind
   have hD:=qxp (qX q) (zd s) V.day.1.w lv
   have hstep0:Ql q s=if (zi (qX q) (zd s)).2=0 then ⟨q.ds.take q.at'++[(zi (qX q) (zd s)).1],q.kept.take q.at'++[s],q.at'+1,q.errs++[0]⟩ else { q with errs:=q.errs++[(zi (qX q) (zd s)).2] }:=by
    unfold Ql;rw [if_neg (by simpa using hE),if_neg (by rintro (⟨h,_⟩ | ⟨h,_⟩);exact h5 h;exact h6 h),if_neg h5,if_neg h6]
   have ax:((q.at':Int)+1)=((q.at'+1:Nat):Int):=by omega
   obtain ⟨DC,eD,lD,⟨fD,e1⟩,e2,pD⟩:=qwF hat
   generalize zi (qX q) (zd s)=N at *
   obtain ⟨d',f⟩:=N
   simp only at hstep0 hD
   have kN:WkL [.agg (dyF fD (qX q)),.agg (lnC (zd s))] [DyV (qX q),LnV (zd s)] := .cons (.aggL qxz) (.cons (.refl _) .nil)
   have lN:(z0++fl dyC (q.ds.take q.at')).length=(q.at'+1)*5:=by rw [List.length_append,J9 qwJ,List.length_take,show z0.length=5 from rfl];omega
   have pN:(z0++fl dyC (q.ds.take q.at')).all AV.isPC=true:=by rw [List.all_append,Xa qxy];rfl
   generalize hNC:z0++fl dyC (q.ds.take q.at')=NC at *
   rcases M1.c8 with ⟨rfl,hds⟩ | ⟨id,rfl,hid,hid1⟩
   · have ha : q.at' = 0 := by rw [hds] at hat; simpa using hat
     have hda:qX q=dy0:=by unfold qX;rw [ha];rfl
     rw [hda] at hD
     have v1:∀ K,Qm z0 (q.at'*5) 5 true K=K (.agg z0) []:=fun K=>by rw [ha,jJ];simp [zT]
     have v2:∀ K,qnr 5 (.sl true 1 z0) none (some (I ((q.at':Int)+1))) none K=K (.sl true (q.at'+1) NC) []:=fun K=>by rw [←hNC,ha,hds,qhS];simp [zT,YY]
     simp (disch:=omega)[qb,hn,qf,v1]
     refine ⟨by omega,?_⟩
     refine qxc (ys:=[.agg z0,.agg (lnC (zd s))]) (ids:=[]) rfl (.cons (.aggL qlf) (.cons (.refl _) .nil)) hD ?_
     simp (disch:=omega)[qb,AV.scalar,dyC]
     refine ⟨by omega,?_⟩
     have M2:=M1.push (o:=HObj.cells [Bks d'.rc,I d'.bath,I d'.laid,Pts d'.pat,Shs d'.sh])
     have hn2:=Qn (H:=H1) (o:=HObj.cells [Bks d'.rc,I d'.bath,I d'.laid,Pts d'.pat,Shs d'.sh])
     have d72:(H1++[HObj.cells [Bks d'.rc,I d'.bath,I d'.laid,Pts d'.pat,Shs d'.sh]]).length=H1.length+1:=by simp
     generalize H1++[HObj.cells [Bks d'.rc,I d'.bath,I d'.laid,Pts d'.pat,Shs d'.sh]]=H2 at *
     generalize H1.length=L1 at *
     by_cases hf:f=0
     case neg =>
      have hf':(f==0)=false:=by rw [beq_eq_false_iff_ne];exact hf
      have hstep:Ql q s={ q with errs:=q.errs++[f] }:=hstep0.trans (if_neg hf)
      simp (disch:=omega)[qb,hf']
      refine zq (ys:=[I f]) (ids:=[]) rfl rfl ?_
      simp (disch:=omega)[qb,zP]
      refine Q5 (ys:=[I f]) M2.c11 (by omega) (by decide) rfl rfl fun vs w1 w2 w3=>?_
      simp (disch:=omega)[qb]
      rw [hK0]
      refine qz (i+1,(.sl true 1 z0),x9,.ms H2.length 0 (q.errs.length+1) 1,qH H2 vs) ⟨by simp only;omega,?_⟩ (by simp only;omega) (by simp only [ix,st,hstep])
      simp only [st,hstep]
      exact M2.err w1 w3
     have hf':(f==0)=true:=by rw [beq_iff_eq];exact hf
     have hstep:=hstep0.trans (if_pos hf)
     simp (disch:=omega)[qb,hf']
     refine zq (ys:=[]) (ids:=[]) rfl rfl ?_
     simp (disch:=omega)[qb,zP,v2,-qhS,-qee]
     rw [qee]
     refine ⟨⟨rfl,lN,pN,rfl,by omega,by omega,.inl rfl⟩,?_⟩
     simp (disch:=omega)[qb,zP]
     have hn3:qr (H2++[HObj.cells NC]) L1=_:=(qk (by omega)).trans hn2
     have hN3:=Qn (H:=H2) (o:=HObj.cells NC)
     simp (disch:=omega)[qb,hn3,qf]
     refine zq (ys:=[.agg (dyC d')]) (ids:=[]) rfl rfl ?_
     simp (disch:=omega)[qb,zP,dyC]
     have tkN:NC.take ((q.at'+1)*5)=NC:=List.take_of_length_le (by omega)
     simp (disch:=omega)[qb,zP,pN,lN,qed,hN3,J4,tkN]
     refine ⟨by omega,by omega,?_⟩
     have eN:NC++[Bks d'.rc,I d'.bath,I d'.laid,Pts d'.pat,Shs d'.sh]=NC++dyC d':=rfl
     rw [eN]
     have M3:=M2.day (d':=d') (DC:=NC) (n:=q.at') hNC (by rw [List.length_take];omega)
     generalize H2++[HObj.gone,HObj.cells (NC++dyC d')]=H3 at *
     refine zq (ys:=[]) (ids:=[]) rfl rfl ?_
     have tkk:(fl WJ q.kept).take (q.at'*1)=fl WJ (q.kept.take q.at'):=qjJ qhU _ _
     rcases M3.c9 with ⟨rfl,hk0,hkn'⟩ | ⟨kd,rfl,kpos,hk3,_,_⟩
     · have hkn : q.kept = [] := List.eq_nil_of_length_eq_zero hk0
       have ha0:q.at'=0:=by omega
       have hkn0:([]:List AV)=fl WJ (q.kept.take q.at'):=by rw [hkn];simp [YY]
       simp (disch:=omega)[qb,zP]
       refine ⟨ha0,⟨ha0.symm,by omega,by omega⟩,hi,?_⟩
       rw [show HObj.cells []=HObj.cells (fl WJ (q.kept.take q.at')) from congrArg _ hkn0]
       rw [hs]
       refine zq (ys:=[S s]) (ids:=[]) rfl rfl ?_
       simp (disch:=omega)[qb,zP,qed,Qn,J4,Xa qp3]
       have tk2:(fl WJ (q.kept.take q.at')).take q.at'=fl WJ (q.kept.take q.at'):=List.take_of_length_le (by rw [qdD,List.length_take];omega)
       refine ⟨by omega,?_⟩
       rw [tk2,show fl WJ (q.kept.take q.at')++[S s]=fl WJ (q.kept.take q.at'++[s]) by rw [jr];rfl]
       have M4:=M3.keep (K:=q.kept.take q.at'++[s]) (n:=q.at'+1) (by rw [List.length_append,List.length_take,List.length_singleton];omega) (by omega)
       generalize H3++[HObj.gone,HObj.cells (fl WJ (q.kept.take q.at'++[s]))]=H4 at *
       refine zq (ys:=[I f]) (ids:=[]) rfl rfl ?_
       simp (disch:=omega)[qb,zP]
       refine Q5 (ys:=[I f]) M4.c11 (by omega) (by decide) rfl rfl fun vs w1 w2 w3=>?_
       simp (disch:=omega)[qb]
       rw [hK0]
       refine qz (i+1,(.ms (H2.length+1) 0 (q.at'+1+1) 5),(.ms (H3.length+1) 0 (q.at'+1) 1),.ms H4.length 0 (q.errs.length+1) 1,qH H4 vs) ⟨by simp only;omega,?_⟩ (by simp only;omega) (by simp only [ix,ax,st,hstep])
       simp only [st,hstep]
       rw [hf] at w3
       exact M4.err w1 w3
     · simp (disch := omega) [qb,zP]
       refine qso (h:=q.at') (by omega) (by omega) ?_
       simp (disch:=omega)[qb,zP]
       rw [qwz hk3 (by rw [qdD];omega),qee,zT,List.drop_zero,tkk]
       refine ⟨⟨rfl,by rw [qdD,List.length_take];omega,Xa qp3 _,rfl,by omega,by omega,.inl rfl⟩,?_⟩
       simp (disch:=omega)[qb,zP]
       refine ⟨hi,?_⟩
       rw [hs]
       refine zq (ys:=[S s]) (ids:=[]) rfl rfl ?_
       simp (disch:=omega)[qb,zP,qed,Qn,J4,Xa qp3]
       have tk2:(fl WJ (q.kept.take q.at')).take q.at'=fl WJ (q.kept.take q.at'):=List.take_of_length_le (by rw [qdD,List.length_take];omega)
       refine ⟨by omega,?_⟩
       rw [tk2,show fl WJ (q.kept.take q.at')++[S s]=fl WJ (q.kept.take q.at'++[s]) by rw [jr];rfl]
       have M4:=M3.keep (K:=q.kept.take q.at'++[s]) (n:=q.at'+1) (by rw [List.length_append,List.length_take,List.length_singleton];omega) (by omega)
       generalize H3++[HObj.gone,HObj.cells (fl WJ (q.kept.take q.at'++[s]))]=H4 at *
       refine zq (ys:=[I f]) (ids:=[]) rfl rfl ?_
       simp (disch:=omega)[qb,zP]
       refine Q5 (ys:=[I f]) M4.c11 (by omega) (by decide) rfl rfl fun vs w1 w2 w3=>?_
       simp (disch:=omega)[qb]
       rw [hK0]
       refine qz (i+1,(.ms (H2.length+1) 0 (q.at'+1+1) 5),(.ms (H3.length+1) 0 (q.at'+1) 1),.ms H4.length 0 (q.errs.length+1) 1,qH H4 vs) ⟨by simp only;omega,?_⟩ (by simp only;omega) (by simp only [ix,ax,st,hstep])
       simp only [st,hstep]
       rw [hf] at w3
       exact M4.err w1 w3
   · have lid := qj hid
     rw [eD] at hid
     simp (disch:=omega)[qb,hn,qf,hid,jJ,e1,lD]
     refine ⟨by omega,by omega,?_⟩
     refine qxc (ys:=[.agg (dyF fD (qX q)),.agg (lnC (zd s))]) (ids:=[]) rfl kN hD ?_
     simp (disch:=omega)[qb,AV.scalar,dyC]
     refine ⟨⟨by omega,by omega,fun x hx=>?_⟩,?_⟩
     · simp only [dyF,List.mem_cons,List.not_mem_nil,or_false] at hx
       rcases hx with rfl | rfl | rfl | rfl | rfl <;> simp [AV.ids1,AV.ids0]
     have M2:=M1.push (o:=HObj.cells [Bks d'.rc,I d'.bath,I d'.laid,Pts d'.pat,Shs d'.sh])
     have hn2:=Qn (H:=H1) (o:=HObj.cells [Bks d'.rc,I d'.bath,I d'.laid,Pts d'.pat,Shs d'.sh])
     have hid2:qr (H1++[HObj.cells [Bks d'.rc,I d'.bath,I d'.laid,Pts d'.pat,Shs d'.sh]]) id=some (.cells DC):=(qk lid).trans hid
     have d72:(H1++[HObj.cells [Bks d'.rc,I d'.bath,I d'.laid,Pts d'.pat,Shs d'.sh]]).length=H1.length+1:=by simp
     generalize H1++[HObj.cells [Bks d'.rc,I d'.bath,I d'.laid,Pts d'.pat,Shs d'.sh]]=H2 at *
     generalize H1.length=L1 at *
     by_cases hf:f=0
     case neg =>
      have hf':(f==0)=false:=by rw [beq_eq_false_iff_ne];exact hf
      have hstep:Ql q s={ q with errs:=q.errs++[f] }:=hstep0.trans (if_neg hf)
      simp (disch:=omega)[qb,hf']
      refine zq (ys:=[I f]) (ids:=[]) rfl rfl ?_
      simp (disch:=omega)[qb,zP]
      refine Q5 (ys:=[I f]) M2.c11 (by omega) (by decide) rfl rfl fun vs w1 w2 w3=>?_
      simp (disch:=omega)[qb]
      rw [hK0]
      refine qz (i+1,(.ms id 0 (q.ds.length+1) 5),x9,.ms H2.length 0 (q.errs.length+1) 1,qH H2 vs) ⟨by simp only;omega,?_⟩ (by simp only;omega) (by simp only [ix,st,hstep])
      simp only [st,hstep]
      exact M2.err w1 w3
     have hf':(f==0)=true:=by rw [beq_iff_eq];exact hf
     have hstep:=hstep0.trans (if_pos hf)
     simp (disch:=omega)[qb,hf']
     refine zq (ys:=[]) (ids:=[]) rfl rfl ?_
     simp (disch:=omega)[qb,zP]
     refine qso (h:=q.at'+1) (by omega) (by omega) ?_
     simp (disch:=omega)[qb,zP]
     rw [qwz hid2 (by rw [lD];omega),qee,zT,List.drop_zero,e2]
     refine ⟨⟨rfl,lN,pN,rfl,by omega,by omega,.inl rfl⟩,?_⟩
     simp (disch:=omega)[qb,zP]
     have hn3:qr (H2++[HObj.cells NC]) L1=_:=(qk (by omega)).trans hn2
     have hN3:=Qn (H:=H2) (o:=HObj.cells NC)
     simp (disch:=omega)[qb,hn3,qf]
     refine zq (ys:=[.agg (dyC d')]) (ids:=[]) rfl rfl ?_
     simp (disch:=omega)[qb,zP,dyC]
     have tkN:NC.take ((q.at'+1)*5)=NC:=List.take_of_length_le (by omega)
     simp (disch:=omega)[qb,zP,pN,lN,qed,hN3,J4,tkN]
     refine ⟨by omega,by omega,?_⟩
     have eN:NC++[Bks d'.rc,I d'.bath,I d'.laid,Pts d'.pat,Shs d'.sh]=NC++dyC d':=rfl
     rw [eN]
     have M3:=M2.day (d':=d') (DC:=NC) (n:=q.at') hNC (by rw [List.length_take];omega)
     generalize H2++[HObj.gone,HObj.cells (NC++dyC d')]=H3 at *
     refine zq (ys:=[]) (ids:=[]) rfl rfl ?_
     have tkk:(fl WJ q.kept).take (q.at'*1)=fl WJ (q.kept.take q.at'):=qjJ qhU _ _
     rcases M3.c9 with ⟨rfl,hk0,hkn'⟩ | ⟨kd,rfl,kpos,hk3,_,_⟩
     · have hkn : q.kept = [] := List.eq_nil_of_length_eq_zero hk0
       have ha0:q.at'=0:=by omega
       have hkn0:([]:List AV)=fl WJ (q.kept.take q.at'):=by rw [hkn];simp [YY]
       simp (disch:=omega)[qb,zP]
       refine ⟨ha0,⟨ha0.symm,by omega,by omega⟩,hi,?_⟩
       rw [show HObj.cells []=HObj.cells (fl WJ (q.kept.take q.at')) from congrArg _ hkn0]
       rw [hs]
       refine zq (ys:=[S s]) (ids:=[]) rfl rfl ?_
       simp (disch:=omega)[qb,zP,qed,Qn,J4,Xa qp3]
       have tk2:(fl WJ (q.kept.take q.at')).take q.at'=fl WJ (q.kept.take q.at'):=List.take_of_length_le (by rw [qdD,List.length_take];omega)
       refine ⟨by omega,?_⟩
       rw [tk2,show fl WJ (q.kept.take q.at')++[S s]=fl WJ (q.kept.take q.at'++[s]) by rw [jr];rfl]
       have M4:=M3.keep (K:=q.kept.take q.at'++[s]) (n:=q.at'+1) (by rw [List.length_append,List.length_take,List.length_singleton];omega) (by omega)
       generalize H3++[HObj.gone,HObj.cells (fl WJ (q.kept.take q.at'++[s]))]=H4 at *
       refine zq (ys:=[I f]) (ids:=[]) rfl rfl ?_
       simp (disch:=omega)[qb,zP]
       refine Q5 (ys:=[I f]) M4.c11 (by omega) (by decide) rfl rfl fun vs w1 w2 w3=>?_
       simp (disch:=omega)[qb]
       rw [hK0]
       refine qz (i+1,(.ms (H2.length+1) 0 (q.at'+1+1) 5),(.ms (H3.length+1) 0 (q.at'+1) 1),.ms H4.length 0 (q.errs.length+1) 1,qH H4 vs) ⟨by simp only;omega,?_⟩ (by simp only;omega) (by simp only [ix,ax,st,hstep])
       simp only [st,hstep]
       rw [hf] at w3
       exact M4.err w1 w3
     · simp (disch := omega) [qb,zP]
       refine qso (h:=q.at') (by omega) (by omega) ?_
       simp (disch:=omega)[qb,zP]
       rw [qwz hk3 (by rw [qdD];omega),qee,zT,List.drop_zero,tkk]
       refine ⟨⟨rfl,by rw [qdD,List.length_take];omega,Xa qp3 _,rfl,by omega,by omega,.inl rfl⟩,?_⟩
       simp (disch:=omega)[qb,zP]
       refine ⟨hi,?_⟩
       rw [hs]
       refine zq (ys:=[S s]) (ids:=[]) rfl rfl ?_
       simp (disch:=omega)[qb,zP,qed,Qn,J4,Xa qp3]
       have tk2:(fl WJ (q.kept.take q.at')).take q.at'=fl WJ (q.kept.take q.at'):=List.take_of_length_le (by rw [qdD,List.length_take];omega)
       refine ⟨by omega,?_⟩
       rw [tk2,show fl WJ (q.kept.take q.at')++[S s]=fl WJ (q.kept.take q.at'++[s]) by rw [jr];rfl]
       have M4:=M3.keep (K:=q.kept.take q.at'++[s]) (n:=q.at'+1) (by rw [List.length_append,List.length_take,List.length_singleton];omega) (by omega)
       generalize H3++[HObj.gone,HObj.cells (fl WJ (q.kept.take q.at'++[s]))]=H4 at *
       refine zq (ys:=[I f]) (ids:=[]) rfl rfl ?_
       simp (disch:=omega)[qb,zP]
       refine Q5 (ys:=[I f]) M4.c11 (by omega) (by decide) rfl rfl fun vs w1 w2 w3=>?_
       simp (disch:=omega)[qb]
       rw [hK0]
       refine qz (i+1,(.ms (H2.length+1) 0 (q.at'+1+1) 5),(.ms (H3.length+1) 0 (q.at'+1) 1),.ms H4.length 0 (q.errs.length+1) 1,qH H4 vs) ⟨by simp only;omega,?_⟩ (by simp only;omega) (by simp only [ix,ax,st,hstep])
       simp only [st,hstep]
       rw [hf] at w3
       exact M4.err w1 w3
 · have hi : i = ls.length := by simp at hc; omega
   subst hi
   rw [List.take_length] at *
   subst hK0
   have hat:=V.at'
   have hkl:=V.kept
   have hdl:=V.len
   obtain ⟨DC,eD,lD,⟨fD,e1⟩,e2,pD⟩:=qwF hat
   rcases M.c8 with ⟨rfl,hds⟩ | ⟨id,rfl,hid,hid1⟩
   · have ha : (jQ ls).at' = 0 := by rw [hds] at hat; simpa using hat
     have hda:qX (jQ ls)=dy0:=by unfold qX;rw [ha];rfl
     have v1:∀ K,Qm z0 ((jQ ls).at'*5) 5 true K=K (.agg z0) []:=fun K=>by rw [ha,jJ];simp [zT]
     rw [hda]
     simp (disch:=omega)[qb,qf,v1]
     refine ⟨by omega,?_⟩
     have p0:0<H.length:=qj M.c0
     have c0:=M.c0
     have c11':AccG (H.set 0 (.cells z0)) x11 1 (jQ ls).errs.length (fl qjb (jQ ls).errs):=M.c11.mono fun j hj=>qh (by have:=(M.r11 j hj).1;omega)
     obtain ⟨i1,q1⟩:=c11'.pur1
     rcases M.c9 with ⟨rfl,hk0,hkn'⟩ | ⟨kd,rfl,kpos,hk3,_,_⟩
     · have hkn : (jQ ls).kept = [] := List.eq_nil_of_length_eq_zero hk0
       have ha0:(jQ ls).at'=0:=by omega
       simp (disch:=omega)[qb,qt,c0,p0]
       refine ⟨ha0,?_⟩
       refine qwu (id:=0) (off:=0) (cs:=z0) rfl (qi p0) (by show 0+5≤5;omega) ?_
       rw [hkn,ha0]
       exact qxE (f:=true) (d:=dy0) (i2:=[]) q1 rfl
     · have k1 : 1 ≤ kd := M.r9 kd rfl
       have hk4:qr (H.set 0 (.cells z0)) kd=some (.cells (fl WJ (jQ ls).kept)):=(qh (by omega)).trans hk3
       have q2:=qxn (m:=(jQ ls).at') hk4 (by omega)
       have tl:((jQ ls).kept.take (jQ ls).at').length=(jQ ls).at':=by rw [List.length_take];omega
       refine qso (h:=(jQ ls).at') rfl (by omega) ?_
       simp (disch:=omega)[qb,qt,c0,p0]
       refine qwu (id:=0) (off:=0) (cs:=z0) rfl (qi p0) (by show 0+5≤5;omega) ?_
       rw [show qqK ((jQ ls).kept.take (jQ ls).at') = .sl false (jQ ls).at' (fl WJ ((jQ ls).kept.take (jQ ls).at')) by show AV.sl _ _ _=_;rw [tl]]
       exact qxE (f:=true) (d:=dy0) q1 q2
   · have lid := qj hid
     rw [eD] at hid
     simp (disch:=omega)[qb,qf,hid,jJ,e1,lD]
     refine ⟨by omega,by omega,?_⟩
     have p0:0<H.length:=qj M.c0
     have c0:=M.c0
     have c11':AccG (H.set 0 (.cells [qlm fD (qX (jQ ls)).rc,I (qX (jQ ls)).bath,I (qX (jQ ls)).laid,JG fD (qX (jQ ls)).pat,qtm fD (qX (jQ ls)).sh])) x11 1 (jQ ls).errs.length (fl qjb (jQ ls).errs):=M.c11.mono fun j hj=>qh (by have:=(M.r11 j hj).1;omega)
     obtain ⟨i1,q1⟩:=c11'.pur1
     rcases M.c9 with ⟨rfl,hk0,hkn'⟩ | ⟨kd,rfl,kpos,hk3,_,_⟩
     · have hkn : (jQ ls).kept = [] := List.eq_nil_of_length_eq_zero hk0
       have ha0:(jQ ls).at'=0:=by omega
       simp (disch:=omega)[qb,qt,c0,p0,dyF]
       refine ⟨ha0,?_⟩
       refine qwu (id:=0) (off:=0) (cs:=(dyF fD (qX (jQ ls)))) rfl (qi p0) (by show 0+5≤5;omega) ?_
       rw [hkn,ha0]
       exact qxE (f:=fD) (d:=qX (jQ ls)) (i2:=[]) q1 rfl
     · have k1 : 1 ≤ kd := M.r9 kd rfl
       have hk4:qr (H.set 0 (.cells [qlm fD (qX (jQ ls)).rc,I (qX (jQ ls)).bath,I (qX (jQ ls)).laid,JG fD (qX (jQ ls)).pat,qtm fD (qX (jQ ls)).sh])) kd=some (.cells (fl WJ (jQ ls).kept)):=(qh (by omega)).trans hk3
       have q2:=qxn (m:=(jQ ls).at') hk4 (by omega)
       have tl:((jQ ls).kept.take (jQ ls).at').length=(jQ ls).at':=by rw [List.length_take];omega
       refine qso (h:=(jQ ls).at') rfl (by omega) ?_
       simp (disch:=omega)[qb,qt,c0,p0,dyF]
       refine qwu (id:=0) (off:=0) (cs:=(dyF fD (qX (jQ ls)))) rfl (qi p0) (by show 0+5≤5;omega) ?_
       rw [show qqK ((jQ ls).kept.take (jQ ls).at') = .sl false (jQ ls).at' (fl WJ ((jQ ls).kept.take (jQ ls).at')) by show AV.sl _ _ _=_;rw [tl]]
       exact qxE (f:=fD) (d:=qX (jQ ls)) q1 q2
theorem qwB (s:List UInt8) (hs:s.length≤1000000):qC Tryz.prog 68 [S s] (.tup [DyV (qku s),.sl false (qmV s).length (fl qjb (qmV s)),qqK (qaH s),I (V0 s)]):=by
 refine zO (zj Tryz.func68 qwL qwO (by show 1≤_;decide) ?_)
 simp (disch:=omega)[qwt,qb]
 refine qg rfl (qxe s hs) ?_
 simp (disch:=omega)[qb,AV.scalar]
 by_cases hE:V0 s=0
 case neg =>
  have hE':(V0 s != 0)=true:=by rw [bne_iff_ne];exact hE
  have e1:qku s=dy0:=if_neg hE
  have e2:qmV s=[]:=if_neg hE
  have e3:qaH s=[]:=if_neg hE
  rw [e1,e2,e3]
  simp (disch:=omega)[qb,hE']
  refine qwu (id:=0) (off:=0) (cs:=z0) rfl rfl (by show 0+5≤5;omega) ?_
  exact qxE (f:=true) (d:=dy0) (i1:=[]) (i2:=[]) rfl rfl
 have hE':(V0 s != 0)=false:=by rw [hE];rfl
 have e1:qku s=qX (jQ (qaw s)):=if_pos hE
 have e2:qmV s=(jQ (qaw s)).errs:=if_pos hE
 have e3:qaH s=(jQ (qaw s)).kept.take (jQ (qaw s)).at':=if_pos hE
 have hl:=qgh (s:=s)
 have t:=qw4 (qaw s) hl.1 (fun w hw=>by have:=hl.2 w hw;omega) [(7,I 0),(23,B false)]
 rw [e1,e2,e3,hE]
 simp (disch:=omega)[qb,hE]
 simp (disch:=omega)[qwx,qwt,qb] at t
 exact t
theorem qxx (s:List UInt8) (hs:s.length≤1000000):qC Tryz.prog 25 [S s] (.tup [DyV (qku s),qqH (qmV s),I (V0 s)]):=by
 refine zO (zj Tryz.func25 qxd qxi (by show 1≤_;decide) ?_)
 simp (disch:=omega)[qxj,qb]
 refine qg rfl (qwB s hs) ?_
 simp (disch:=omega)[qb,AV.scalar,dyC]
 refine qcb (id:=0) (off:=0) (cs:=dyC (qku s)) rfl rfl (by show 0+5≤5;omega) ?_
 exact qG (r' := .tup [DyV (qku s),qqH (qmV s),I (V0 s)]) (is:=[]) rfl (.refl _)
theorem qxo (s:List UInt8) (hs:s.length≤1000000):qC Tryz.prog 27 [S s] (.tup [S (Jw (qaH s)),I (V0 s)]):=by
 refine zO (walk Tryz.func27 qw0 (by kernel_rfl) (by show 1≤_;decide) ?_)
 simp (disch:=omega)[qw8,qb]
 refine qg rfl (qwB s hs) ?_
 simp (disch:=omega)[qb,AV.scalar,dyC]
 obtain ⟨hk1,hk2⟩:=qkv s
 generalize qaH s=l at *
 refine qO (fun i:Nat=>⟨[(6,qqK l),(7,I (V0 s)),(8,S (Jw (l.take i))),(9,I (i:Int))],[.cells (dyC (qku s))]⟩) (fun i=>i≤l.length) (fun i=>l.length - i) 0 (Nat.zero_le _) rfl ?_
 intro i c1
 refine qW fun K0 hK0=>?_
 simp (disch:=omega)[qb,dyC]
 refine qP (fun hc=>?_) (fun hc=>?_)
 · have hi : i < l.length := by simpa using hc
   have ix:((i:Int)+1)=((i+1:Nat):Int):=by omega
   have hlt:(Jw (l.take i)).length≤400*(s.length+1):=Nat.le_trans (qiB fun w hw=>hk2 w (List.mem_of_mem_take hw)) (Nat.mul_le_mul_right _ (by rw [List.length_take];omega))
   have hll:=hk2 _ (List.getElem_mem hi)
   simp (disch:=first | omega | (simp only [List.length_append,List.length_cons,List.length_nil];omega)) [qb,hi]
   rw [hK0]
   exact qz (i+1) (by omega) (by omega) (by simp only [ix,qgi hi,dyC])
 · have hi : i = l.length := by simp at hc; omega
   subst hi
   subst hK0
   rw [List.take_length]
   simp (disch:=omega)[qb]
   exact qG (r' := .tup [S (Jw l),I (V0 s)]) (is:=[]) rfl (.refl _)
end Go.AM

set_option maxRecDepth 100000
namespace Go.AM
open Go.RowKit Go.Proofs
def qwy:AC:=Subtype.val (p:=fun g=>qo Tryz.prog Tryz.f4 [2]=some g) (by refine ⟨?g,?h⟩;case h=>conv=>lhs;reduce)
theorem qwA:qo Tryz.prog Tryz.f4 [2]=some qwy:=by kernel_rfl
def qwD:AC:=Subtype.val (p:=fun g=>qo Tryz.prog Tryz.f29 [4]=some g) (by refine ⟨?g,?h⟩;case h=>conv=>lhs;reduce)
theorem qwK:qo Tryz.prog Tryz.f29 [4]=some qwD:=by kernel_rfl
theorem qxu {l:List Int}:(fl qjb l).length=l.length:=by rw [J9 qms,Nat.mul_one]
abbrev qxs (f:Bool) (l:List Int):AV := .sl f l.length (fl qjb l)
theorem qw3 (f g:Bool) (a b:List Int) (hl:a.length≤1000000):qC Tryz.prog 29 [qxs f a,qxs g b] (B (decide (a=b))):=by
 refine qT (walk Tryz.func29 qwK (by kernel_rfl) (by show 2≤_;decide) ?_)
 simp (disch:=omega)[qwD,qb]
 by_cases h4:a.length=b.length
 case neg =>
  have e4:((a.length:Int) != (b.length:Int))=true:=by rw [bne_iff_ne];omega
  have h5:a≠b:=fun e=>h4 (by rw [e])
  simp (disch:=omega)[qb,e4,h5]
 have e4:((a.length:Int) != (b.length:Int))=false:=by rw [h4];exact bne_self_eq_false _
 simp (disch:=omega)[qb,e4]
 refine qO (fun i:Nat=>⟨[(0,qxs f a),(1,qxs g b),(5,I (i:Int))],[]⟩) (fun i=>i≤a.length∧a.take i=b.take i) (fun i=>a.length - i) 0 ⟨Nat.zero_le _,rfl⟩ rfl ?_
 rintro i ⟨c1,c2⟩
 refine qW fun K0 hK0=>?_
 simp (disch:=omega)[qb]
 refine qP (fun hc=>?_) (fun hc=>?_)
 · have hi : i < a.length := by simpa using hc
   have hj:i<b.length:=by omega
   have ix:((i:Int)+1)=((i+1:Nat):Int):=by omega
   simp (disch:=omega)[qb,hi,hj,zW,zJ,zE,qo3 hi,qo3 hj,qxu]
   by_cases h:a[i]=b[i]
   · have h' : (a[i] != b[i]) = false := by rw [h]; exact bne_self_eq_false _
     simp (disch:=omega)[qb,h']
     rw [hK0]
     exact qz (i+1) ⟨by omega,qgJ hi hj c2 h⟩ (by omega) (by simp only [ix])
   · have hne : a ≠ b := fun e => h (by subst e; rfl)
     have h':(a[i] != b[i])=true:=by rw [bne_iff_ne];exact h
     rw [hK0]
     simp (disch:=omega)[qb,h',hne]
 · have hi : i = a.length := by simp at hc; omega
   subst hi
   subst hK0
   have he:a=b:=qdG h4 c2
   simp (disch:=omega)[qb,he]
theorem qwX (s:List UInt8):PlV (qaw s).length (jQ (qaw s)):=by
 have:=qdg (qgh (s:=s)).1 (qaw s).length (Nat.le_refl _)
 rwa [List.take_length] at this
theorem qxD (s:List UInt8):DyI (qku s):=by
 unfold qku
 split
 · exact (qwX s).day.1.w.i
 · exact day0_V.w.i
theorem qxm (s:List UInt8):(qmV s).length≤1000000:=by
 unfold qmV
 split
 · rw [(qwX s).errs];have:=(qgh (s:=s)).1;omega
 · simp
theorem qwN (s:List UInt8):qC Tryz.prog 4 [S s] (B true):=by
 refine qT (walk Tryz.func4 qwA (by kernel_rfl) (by show 1≤_;decide) ?_)
 simp (disch:=omega)[qwy,qb]
 by_cases g1:(4000<s.length∧s.length≤65536)∨65546<s.length
 case pos =>
  by_cases h1:4000<s.length
  case neg=>omega
  have e1:(4000<(s.length:Int))=True:=by simp only [eq_iff_iff,iff_true];omega
  by_cases h2:s.length≤65536
  case pos =>
   have e2:((s.length:Int)≤65536)=True:=by simp only [eq_iff_iff,iff_true];omega
   simp (disch:=omega)[qb,e1,e2]
   refine qg (ys:=[]) (ids:=[]) rfl qqz ?_
   simp (disch:=omega)[qb,AV.scalar]
  have e2:((s.length:Int)≤65536)=False:=by simp only [eq_iff_iff,iff_false];omega
  have e3:(65546<(s.length:Int))=True:=by simp only [eq_iff_iff,iff_true];omega
  simp (disch:=omega)[qb,e1,e2,e3]
  refine qg (ys:=[]) (ids:=[]) rfl qqz ?_
  simp (disch:=omega)[qb,AV.scalar]
 have hs:s.length≤1000000:=by omega
 have e3:(65546<(s.length:Int))=False:=by simp only [eq_iff_iff,iff_false];omega
 have key:∀ {P:Prop},((4000<(s.length:Int))=True→((s.length:Int)≤65536)=False→P)→((4000<(s.length:Int))=False→(0:Nat)=0→P)→P:=by
  intro P a b
  by_cases h1:4000<s.length
  · exact a (by simp only [eq_iff_iff,iff_true];omega) (by simp only [eq_iff_iff,iff_false];omega)
  · exact b (by simp only [eq_iff_iff,iff_false];omega) rfl
 refine key (fun e1 e2=>?_) (fun e1 e2=>?_)
 all_goals
  simp (disch:=omega)[qb,e1,e2,e3]
  refine qg (ys:=[S s]) (ids:=[]) rfl (qhs s hs) ?_
  simp (disch:=omega)[qb,AV.scalar,dyC]
  have ed:[Bks (qku s).rc,I (qku s).bath,I (qku s).laid,Pts (qku s).pat,Shs (qku s).sh]=dyC (qku s):=rfl
  simp only [ed]
  refine qg (ys:=[S s]) (ids:=[]) rfl (qxx s hs) ?_
  simp (disch:=omega)[qb,AV.scalar,dyC]
  simp only [ed]
  refine qg (ys:=[S s]) (ids:=[]) rfl (qjW s hs) ?_
  simp (disch:=omega)[qb,AV.scalar]
  refine qg (ys:=[S s]) (ids:=[]) rfl (qxo s hs) ?_
  simp (disch:=omega)[qb,AV.scalar,qf,dyC]
  simp only [ed]
  refine qg (ys:=[DyV (qku s),DyV (qku s)]) (ids:=[]) rfl (qeZ (qku s) (qku s) (qxD s).s) ?_
  have hsd:decide (qku s=qku s)=true:=decide_eq_true rfl
  have hse:decide (qmV s=qmV s)=true:=decide_eq_true rfl
  rw [hsd]
  simp (disch:=omega)[qb,AV.scalar]
  refine qg (ys:=[qqH (qmV s),qqH (qmV s)]) (ids:=[]) rfl (qw3 false false (qmV s) (qmV s) (qxm s)) ?_
  rw [hse]
  have hb:(Jw (qaH s)==Jw (qaH s))=true:=by rw [beq_iff_eq]
  simp (disch:=omega)[qb,AV.scalar,hb]
  refine qg (ys:=[]) (ids:=[]) rfl qqz ?_
  simp (disch:=omega)[qb,AV.scalar]
end Go.AM
