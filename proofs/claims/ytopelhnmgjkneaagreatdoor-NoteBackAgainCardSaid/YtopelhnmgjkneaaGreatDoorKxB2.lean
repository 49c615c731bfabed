/-
  KxB2: texts joined: FmNR Ns2 Ns3 Ns4 Ns5 Ns13 FmNL Lk1 Lk3 Lx4 Lx12 Lx13. Own work.
-/
import Derived.Test.YtopelhnmgjkneaaGreatDoorKxB1
import Derived.Test.YtopelhnmgjkneaaGreatDoorProg
set_option linter.all false
set_option linter.unusedSimpArgs false
set_option linter.unusedVariables false
set_option linter.unusedSectionVars false

set_option maxRecDepth 100000
set_option maxHeartbeats 0
namespace Go.AM
open Go.RowKit Go.Proofs
def qwt:AC:=Subtype.val (p:=fun g=>qo Tryz.prog Tryz.f20 [2,3]=some g) (by refine ⟨?g,?h⟩;case h=>conv=>lhs;reduce;simp only[qwo,qwp,UInt8.reduceOfNat,Int.reduceOfNat,Int.reduceNegSucc])
theorem qwO:qo Tryz.prog Tryz.f20 [2,3]=some qwt:=by kernel_rfl
theorem qwS:ZR Tryz.prog Tryz.f20.results.toList=some [(2,some (true,4)),(3,none)]:=by kernel_rfl
def qws:AC:=Subtype.val (p:=fun g=>qo Tryz.prog Tryz.f51 [2,3]=some g) (by refine ⟨?g,?h⟩;case h=>conv=>lhs;reduce)
theorem qwN:qo Tryz.prog Tryz.f51 [2,3]=some qws:=by kernel_rfl
def qwM:AC:=Subtype.val (p:=fun g=>qo Tryz.prog Tryz.f59 [2]=some g) (by refine ⟨?g,?h⟩;case h=>conv=>lhs;reduce)
theorem qwP:qo Tryz.prog Tryz.f59 [2]=some qwM:=by kernel_rfl
def qwE:AC:=Subtype.val (p:=fun g=>qo Tryz.prog Tryz.f61 [6,7]=some g) (by refine ⟨?g,?h⟩;case h=>conv=>lhs;reduce)
theorem qwJ:qo Tryz.prog Tryz.f61 [6,7]=some qwE:=by kernel_rfl
def qw0:AC:=Subtype.val (p:=fun g=>qo Tryz.prog Tryz.f62 [2,3]=some g) (by refine ⟨?g,?h⟩;case h=>conv=>lhs;reduce)
theorem qwV:qo Tryz.prog Tryz.f62 [2,3]=some qw0:=by kernel_rfl
theorem qwY:ZR Tryz.prog Tryz.f62.results.toList=some [(2,some (true,3)),(3,none)]:=by kernel_rfl
def qxi (s:List UInt8):Int:=if qnx s then (Vq s:Int) else 0
theorem qwD (s:List UInt8) (lo hi:Int) (hs:s.length≤1000000):qC Tryz.prog 61 [S s, I lo, I hi] (.tup [I (qxi s), B (qaB s lo hi)]):=by
 have hN:qnx s=false→qaB s lo hi=false∧qxi s=0:=fun h=>by simp [qaB,qxi,h]
 refine qT (walk Tryz.func61 qwJ (by kernel_rfl) (by show 3≤_;decide) ?_)
 simp -implicitDefEqProofs (disch:=omega)[qwE,qb]
 cases s with
 | nil =>
   have:=hN rfl
   rw [this.1,this.2]
   simp -implicitDefEqProofs (disch:=omega)[qb]
   exact qnH (is:=[]) rfl
 | cons c r =>
   simp only [List.length_cons] at hs
   have l1:((r.length:Int)+1<1)=False:=by simp only [eq_iff_iff,iff_false];omega
   have hb:=UInt8.toNat_lt c
   by_cases h1:r.length≤12
   case neg =>
    have h1':(13<(r.length:Int)+1)=True:=by simp only [eq_iff_iff,iff_true];omega
    have:=hN (by simp [qnx,h1])
    rw [this.1,this.2]
    simp -implicitDefEqProofs (disch:=omega)[qb,l1,h1,h1']
    exact qnH (is:=[]) rfl
   case pos =>
    have h1':(13<(r.length:Int)+1)=False:=by simp only [eq_iff_iff,iff_false];omega
    cases h2:((c.toNat:Int)==48) with
    | true =>
      have := hN (by have : c.toNat = 48 := by rw [beq_iff_eq] at h2; omega
                     simp [qnx,this])
      rw [this.1,this.2]
      simp -implicitDefEqProofs (disch:=omega)[qb,l1,h1,h1',h2]
      exact qnH (is:=[]) rfl
    | false =>
      have h2':c.toNat≠48:=by rw [beq_eq_false_iff_ne] at h2;omega
      have hC:qnx (c::r)=(c::r).all qfQ:=by simp [qnx,h1,h2']
      simp -implicitDefEqProofs (disch:=omega)[qb,l1,h1,h1',h2]
      have hl:(c::r).length≤13:=by simp;omega
      generalize c::r=s at *
      refine qO (fun i:Nat=>⟨[(0,S s),(1,I lo),(2,I hi),(8,I ((Vq (s.take i):Nat):Int)),(9,I (i:Int))],[]⟩) (fun i=>i≤s.length∧(s.take i).all qfQ=true) (fun i=>s.length - i) 0 ⟨Nat.zero_le _,rfl⟩ rfl ?_
      rintro i ⟨c1,c2⟩
      refine qW fun K0 hK0=>?_
      simp -implicitDefEqProofs (disch:=omega)[qb]
      refine qP (fun hc=>?_) (fun hc=>?_)
      · have hi : i < s.length := by simp at hc; omega
        have ix:((i:Int)+1)=((i+1:Nat):Int):=by omega
        have hb:=UInt8.toNat_lt s[i]
        have hv:=qjz (acc:=0) c2
        have h10:(10:Nat) ^ (s.take i).length≤10 ^ 12:=Nat.pow_le_pow_right (by decide) (by rw [List.length_take];omega)
        have e12:(10:Nat) ^ 12=1000000000000:=by decide
        have hv2:Vq (s.take i)<1000000000000:=by unfold Vq;omega
        have hstep:Vq (s.take (i+1))=Vq (s.take i)*10+(s[i].toNat - 48):=by
         rw [List.take_succ_eq_append_getElem hi]
         unfold Vq;rw [qcz];rfl
        have hd:qfQ s[i]=(decide (48≤s[i].toNat)&&decide (s[i].toNat≤57)):=rfl
        have hm:qnx s=true→qfQ s[i]=true:=fun h=>List.all_eq_true.1 (qfI h).2.1 _ (List.getElem_mem hi)
        simp -implicitDefEqProofs (disch:=omega)[qb,hi]
        by_cases a1:48≤s[i].toNat
        case neg =>
         have a1':((s[i].toNat:Int)<48)=True:=by simp only [eq_iff_iff,iff_true];omega
         have := hN (by
          cases h:qnx s with
          | false=>rfl
          | true=>have:=hm h;rw [hd] at this;simp [a1] at this)
         rw [hK0,this.1,this.2]
         simp -implicitDefEqProofs (disch:=omega)[qb,a1,a1']
         exact qnH (is:=[]) rfl
        case pos =>
         have a1':((s[i].toNat:Int)<48)=False:=by simp only [eq_iff_iff,iff_false];omega
         by_cases a2:s[i].toNat≤57
         case neg =>
          have a2':(57<(s[i].toNat:Int))=True:=by simp only [eq_iff_iff,iff_true];omega
          have := hN (by
           cases h:qnx s with
           | false=>rfl
           | true=>have:=hm h;rw [hd] at this;simp [a1,a2] at this)
          rw [hK0,this.1,this.2]
          simp -implicitDefEqProofs (disch:=omega)[qb,a1,a1',a2,a2',hi]
          exact qnH (is:=[]) rfl
         case pos =>
          have a2':(57<(s[i].toNat:Int))=False:=by simp only [eq_iff_iff,iff_false];omega
          simp -implicitDefEqProofs (disch:=omega)[qb,a1,a1',a2,a2',hi,qgP]
          rw [hK0]
          refine qz (i+1) ⟨by omega,?_⟩ (by omega) ?_
          · rw [List.take_succ_eq_append_getElem hi,List.all_append,c2]
            simp [hd,a1,a2]
          · have : (10 * ((Vq (s.take i) : Nat) : Int) + ((s[i].toNat : Int) - 48)) = ((Vq (s.take (i + 1)) : Nat) : Int) := by rw [hstep]; omega
            simp only [ix,this]
      · have hi : i = s.length := by simp at hc; omega
        subst hi
        rw [List.take_length] at c2
        subst hK0
        have hcan:qnx s=true:=by rw [hC,c2]
        simp -implicitDefEqProofs (disch:=omega)[qb,List.take_length]
        have hV:qxi s=(Vq s:Int):=by simp [qxi,hcan]
        have hK:qaB s lo hi=(decide (lo≤(Vq s:Int))&&decide ((Vq s:Int)≤hi)):=by simp [qaB,hcan]
        rw [hV,hK]
        by_cases a1:lo≤(Vq s:Int)
        · simp -implicitDefEqProofs (disch := omega) [qb,a1]
          exact qnH (is:=[]) rfl
        · simp -implicitDefEqProofs (disch := omega) [qb,a1]
          exact qnH (is:=[]) rfl
theorem qxa {hp x} {l:List (List UInt8)} (h:AccG hp x 1 l.length (fl WJ l)):qi7 (qqK l) x hp:=by
 obtain ⟨ids,h1,_⟩:=h.pur
 exact qG h1 .slf
theorem qw1 {s:List UInt8} {fr i:Nat} (h:fr≤i) (hi:i<s.length):s.drop fr=(s.drop fr).take (i - fr)++s[i]::s.drop (i+1):=by
 conv=>lhs;rw [←List.take_append_drop (i - fr) (s.drop fr)]
 rw [List.drop_drop,show fr+(i - fr)=i by omega,List.drop_eq_getElem_cons hi]
theorem WdJ.word {s i fr acc} (h:WdJ s i fr acc) (hi:i<s.length) (hb:s[i]=32):WdJ s (i+1) (i+1) (acc++[(s.drop fr).take (i - fr)]) :=
 ⟨Nat.le_refl _,hi,by simp,by
  have e1:qM 32 (s.drop fr)=(s.drop fr).take (i - fr)::qM 32 (s.drop (i+1)):=by
   conv=>lhs;rw [qw1 h.le hi,hb,qfs h.no]
  rw [h.sp,e1]
  simp,by have:=h.ln;have:=h.le;simp;omega⟩
theorem qw9 (s:List UInt8) (hs:s.length≤1000000):qC Tryz.prog 59 [S s] (qqK (qM 32 s)):=by
 refine zO (walk Tryz.func59 qwP (by kernel_rfl) (by show 1≤_;decide) ?_)
 simp -implicitDefEqProofs (disch:=omega)[qwM,qb]
 refine qkg (fun q : Nat × Nat × List (List UInt8) × AV × List HObj => ⟨[(0,S s),(3,q.2.2.2.1),(4,I (q.2.1 : Int)),(5,I (q.1 : Int))],q.2.2.2.2⟩)
  (fun q=>(WdJ s q.1 q.2.1 q.2.2.1∨q.1=s.length+1∧q.2.2.1=qM 32 s)∧q.2.2.1.length≤1000001∧AccG q.2.2.2.2 q.2.2.2.1 1 q.2.2.1.length (fl WJ q.2.2.1)) (fun q=>s.length+1 - q.1) (0,0,[],.sl true 0 [],[]) ⟨.inl (.zero s),Nat.zero_le _,.nil⟩ (St.le.rfl' _) ?_
 rintro ⟨i,fr,acc,x,H⟩ ⟨c1,c2,c3⟩
 simp only at c1 c2 c3 ⊢
 refine qW fun K0 hK0=>?_
 simp -implicitDefEqProofs (disch:=omega)[qb]
 refine qP (fun hc=>?_) (fun hc=>?_)
 · have hi : i ≤ s.length := by simp at hc; omega
   have ix:((i:Int)+1)=((i+1:Nat):Int):=by omega
   have J:WdJ s i fr acc:=by
    rcases c1 with h | ⟨h,_⟩
    · exact h
    · omega
   have hle:=J.le
   have hln:=J.ln
   by_cases hl:i=s.length
   case pos =>
    subst hl
    simp -implicitDefEqProofs (disch:=omega)[qb]
    refine zq (ys:=[S ((s.drop fr).take (s.length - fr))]) (ids:=[]) rfl rfl ?_
    simp -implicitDefEqProofs (disch:=omega)[qb,zP]
    refine Q5 (ys:=[S ((s.drop fr).take (s.length - fr))]) c3 (by omega) (by decide) rfl rfl fun ws w1 w2 w3=>?_
    simp -implicitDefEqProofs (disch:=omega)[qb,zP]
    rw [hK0]
    have e:=J.last
    refine qz (s.length+1,s.length+1,acc++[(s.drop fr).take (s.length - fr)],.ms H.length 0 (acc.length+1) 1,qH H ws) ⟨.inr ⟨rfl,e.symm⟩,by simp;omega,?_⟩ (by simp only;omega) (by simp only [ix])
    simp only [List.length_append,List.length_singleton,jr]
    exact w3
   case neg =>
    have hlt:i<s.length:=by omega
    have hne:((i:Int)==(s.length:Int))=false:=by rw [beq_eq_false_iff_ne];omega
    simp -implicitDefEqProofs (disch:=omega)[qb,hne,hlt]
    cases hb:((s[i].toNat:Int)==32) with
    | true =>
      have hb':s[i]=32:=by rw [beq_iff_eq] at hb;exact UInt8.toNat_inj.1 (by show s[i].toNat=32;omega)
      simp -implicitDefEqProofs (disch:=omega)[qb]
      refine zq (ys:=[S ((s.drop fr).take (i - fr))]) (ids:=[]) rfl rfl ?_
      simp -implicitDefEqProofs (disch:=omega)[qb,zP]
      refine Q5 (ys:=[S ((s.drop fr).take (i - fr))]) c3 (by omega) (by decide) rfl rfl fun ws w1 w2 w3=>?_
      simp -implicitDefEqProofs (disch:=omega)[qb,zP]
      rw [hK0]
      refine qz (i+1,i+1,acc++[(s.drop fr).take (i - fr)],.ms H.length 0 (acc.length+1) 1,qH H ws) ⟨.inl (J.word hlt hb'),by simp;omega,?_⟩ (by simp only;omega) (by simp only [ix])
      simp only [List.length_append,List.length_singleton,jr]
      exact w3
    | false =>
      have hb':s[i]≠32:=by rw [beq_eq_false_iff_ne] at hb;exact fun e=>hb (by rw [e];rfl)
      simp -implicitDefEqProofs (disch:=omega)[qb]
      rw [hK0]
      exact qz (i+1,fr,acc,x,H) ⟨.inl (J.step hlt hb'),c2,c3⟩ (by simp only;omega) (by simp only [ix])
 · have hi : ¬ i ≤ s.length := by simp at hc; omega
   have e:acc=qM 32 s:=by
    rcases c1 with h | ⟨_,h⟩
    · exact absurd h.li hi
    · exact h
   subst hK0
   subst e
   simp -implicitDefEqProofs (disch:=omega)[qb]
   exact qxa c3
structure StarP (s a:List UInt8) (t:Option (List UInt8)):Prop where
 cut:JX 42 s=(a,t)
 le:a.length≤s.length
 no:∀ j (h:j<a.length) (h':j<s.length),s[j]≠42
 at':∀ h:a.length<s.length,s[a.length]=42∧t=some (s.drop (a.length+1))
 eq:¬ a.length<s.length→t=none
 tk:s.take a.length=a
theorem qxr (s:List UInt8):∃ a t,StarP s a t:=by
 rcases qbM 42 s with ⟨a,h1,rfl,h3⟩ | ⟨a,r,h1,rfl,h3⟩
 · exact ⟨s,none,h3,Nat.le_refl _,fun j h h'=>h1 _ (List.getElem_mem h),fun h=>absurd h (Nat.lt_irrefl _),fun _=>rfl,List.take_length⟩
 · refine ⟨a,some r,h3,by simp,fun j h h' => ?_,fun h => ⟨?_,?_⟩,fun h => absurd (by simp) h,by simp⟩
   · rw [List.getElem_append_left h];exact h1 _ (List.getElem_mem h)
   · rw [List.getElem_append_right (Nat.le_refl _)];simp
   · rw [←List.drop_drop];simp
theorem qxc (s:List UInt8) (hs:s.length≤1000000):qC Tryz.prog 62 [S s] (.tup [.agg (wdC (jX s).1),B (jX s).2]):=by
 obtain ⟨a,t,hp⟩:=qxr s
 have hW : jX s = (match JA t with
  | none=>((0,[],0),false)
  | some k=>match qbI a with
    | some c=>((c,[],k),true)
    | none=>((0,a,k),QW a)):=by unfold jX;rw [hp.cut];rfl
 have hle:=hp.le
 refine qT (zj Tryz.func62 qwV qwY (by show 1≤_;decide) ?_)
 simp -implicitDefEqProofs (disch:=omega)[qw0,qb]
 refine qO (fun i:Nat=>⟨[(0,S s),(2,.ref 0 0),(4,I ((if i≤a.length then s.length else a.length:Nat):Int)),(5,I (i:Int))],[.cells [U 0,S [],I 0]]⟩) (fun i=>i≤s.length) (fun i=>s.length - i) 0 (Nat.zero_le _) (by simp) ?_
 intro i c1
 refine qW fun K0 hK0=>?_
 simp -implicitDefEqProofs (disch:=omega)[qb]
 refine qP (fun hc=>?_) (fun hc=>?_)
 · have hi : i < s.length := by simp at hc; omega
   have ix:((i:Int)+1)=((i+1:Nat):Int):=by omega
   simp -implicitDefEqProofs (disch:=omega)[qb,hi]
   by_cases hb:s[i]=42
   · have e1 : ((s[i].toNat : Int) == 42) = true := by rw [hb]; rfl
     have hge:a.length≤i:=Nat.le_of_not_lt fun h=>hp.no i h hi hb
     by_cases hia:i=a.length
     · have e2 : (if i ≤ a.length then s.length else a.length) = s.length := if_pos (by omega)
       have e3:(if i+1≤a.length then s.length else a.length)=i:=by rw [if_neg (by omega)];exact hia.symm
       rw [e2]
       simp -implicitDefEqProofs (disch:=omega)[qb,e1]
       rw [hK0]
       exact qz (i+1) (by omega) (by omega) (by simp only [ix,e3])
     · have e2 : (if i ≤ a.length then s.length else a.length) = a.length := if_neg (by omega)
       have e3:(if i+1≤a.length then s.length else a.length)=a.length:=if_neg (by omega)
       have e4:((a.length:Int)==(s.length:Int))=false:=by rw [beq_eq_false_iff_ne];omega
       rw [e2]
       simp -implicitDefEqProofs (disch:=omega)[qb,e1,e4]
       rw [hK0]
       exact qz (i+1) (by omega) (by omega) (by simp only [ix,e3])
   · have e1:((s[i].toNat:Int)==42)=false:=by
      rw [beq_eq_false_iff_ne];intro h;exact hb (UInt8.toNat_inj.1 (by show s[i].toNat=42;omega))
     have hne : i ≠ a.length := fun h => by
      subst h
      exact hb (hp.at' hi).1
     have e3:(if i+1≤a.length then s.length else a.length)=(if i≤a.length then s.length else a.length):=by
      by_cases h:i+1≤a.length
      · rw [if_pos h,if_pos (by omega)]
      · rw [if_neg h,if_neg (by omega)]
     simp -implicitDefEqProofs (disch:=omega)[qb,e1]
     rw [hK0]
     exact qz (i+1) (by omega) (by omega) (by simp only [ix,e3])
 · have hi : i = s.length := by simp at hc; omega
   subst hi
   subst hK0
   have e2:(if s.length≤a.length then s.length else a.length)=a.length:=by
    by_cases h:s.length≤a.length
    · rw [if_pos h];omega
    · rw [if_neg h]
   rw [e2]
   have tkn:List.take (a.length:Int).toNat s=a:=by rw [Int.toNat_natCast];exact hp.tk
   have nm:=qgu a (by omega)
   by_cases hlt:a.length<s.length
   case' neg =>
    have hte:=hp.eq hlt
    subst hte
    have hlt':((a.length:Int)<(s.length:Int))=False:=by simp only [eq_iff_iff,iff_false];omega
    simp -implicitDefEqProofs (disch:=omega)[qb,hlt,hlt']
    obtain ⟨k,hk⟩:∃ k:Int,JA none=some k:=⟨1,rfl⟩
    have hkv:([AV.v (Value.int .u8 0),AV.v (.string ⟨#[]⟩),I 1]:List AV)=[AV.v (Value.int .u8 0),AV.v (.string ⟨#[]⟩),I k]:=by cases hk;rfl
    rw [hkv]
   case' pos =>
    obtain ⟨hst,hte⟩:=hp.at' hlt
    subst hte
    have hlt':((a.length:Int)<(s.length:Int))=True:=by simp only [eq_iff_iff,iff_true];omega
    have nn:=qwD (s.drop (a.length+1)) 2 1000 (by simp;omega)
    simp -implicitDefEqProofs (disch:=omega)[qb,hlt,hlt']
    refine qg rfl nn ?_
    simp -implicitDefEqProofs (disch:=omega)[qb]
    by_cases hnb:qaB (s.drop (a.length+1)) 2 1000=true
    case neg =>
     have hnb:qaB (s.drop (a.length+1)) 2 1000=false:=by simpa using hnb
     have:jX s=((0,[],0),false):=by rw [hW];simp [JA,hnb]
     rw [this,hnb]
     simp -implicitDefEqProofs (disch:=omega)[qb]
     exact qK (id:=0) (off:=0) (cs:=[U 0,S [],I 0]) rfl rfl (by simp) (qnH (is:=[]) rfl)
    have hcan:qnx (s.drop (a.length+1))=true:=by
     unfold qaB at hnb
     simp only [Bool.and_eq_true] at hnb
     exact hnb.1.1
    obtain ⟨k,hk⟩:∃ k:Int,JA (some (s.drop (a.length+1)))=some k:=⟨_,by simp only [JA,hnb];rfl⟩
    have hkv:qxi (s.drop (a.length+1))=k:=by simp only [JA,hnb,if_true] at hk;cases hk;simp [qxi,hcan]
    rw [hkv,hnb]
    simp -implicitDefEqProofs (disch:=omega)[qb]
   all_goals
    rw [hk] at hW
    by_cases h1:a.length=1
    case pos =>
     obtain ⟨c,rfl⟩:=List.length_eq_one_iff.1 h1
     have hb:=UInt8.toNat_lt c
     have s0:∃ r,s=c::r:=by
      cases s with
      | nil=>simp at hle
      | cons b r=>have:=hp.tk;simp at this;exact ⟨r,by rw [this]⟩
     obtain ⟨r,rfl⟩:=s0
     have l1:1≤(c::r).length:=by simp
     simp only [List.length_cons,List.length_nil] at *
     simp -implicitDefEqProofs (disch:=omega)[qb]
     refine qg rfl (qb7 _) ?_
     rw [qcl]
     cases hl:YN c with
     | true =>
       have:jX (c::r)=(((c.toNat:Int),[],k),true):=by rw [hW];simp [qbI,hl]
       rw [this]
       simp -implicitDefEqProofs (disch:=omega)[qb]
       exact qK (id:=0) (off:=0) (cs:=wdC ((c.toNat:Int),[],k)) rfl rfl (by simp [wdC]) (qnH (is:=[]) rfl)
     | false =>
       have:jX (c::r)=((0,[c],k),QW [c]):=by rw [hW];simp [qbI,hl]
       rw [this]
       simp -implicitDefEqProofs (disch:=omega)[qb]
       try rw [qsq (l:=c::r) (j:=1) (by omega) (by simp;omega)]
       try simp -implicitDefEqProofs (disch:=omega)[qb]
       refine qQ rfl nm ?_
       simp -implicitDefEqProofs (disch:=omega)[qb,zW,zJ,zE]
       exact qK (id:=0) (off:=0) (cs:=wdC (0,[c],k)) rfl rfl (by simp [wdC]) (qnH (is:=[]) rfl)
    case neg =>
     have h1':((a.length:Int)==1)=false:=by rw [beq_eq_false_iff_ne];omega
     have hA:qbI a=none:=by
      rcases a with _ | ⟨c,_ | ⟨d,r⟩⟩
      · rfl
      · simp at h1
      · rfl
     have:jX s=((0,a,k),QW a):=by rw [hW];simp [hA]
     rw [this]
     simp -implicitDefEqProofs (disch:=omega)[qb,h1']
     rw [hp.tk]
     refine qQ rfl nm ?_
     simp -implicitDefEqProofs (disch:=omega)[qb,zW,zJ,zE]
     exact qK (id:=0) (off:=0) (cs:=wdC (0,a,k)) rfl rfl (by simp [wdC]) (qnH (is:=[]) rfl)
def qwv:AC:=match qwt with
 | .seq _ (.seq _ (.seq _ (.seq _ (.seq _ t))))=>t
 | x=>x
theorem qwI (k : Int) (nm : List UInt8) (WS : List (List UInt8)) (f : Bool) (hl : WS.length ≤ 1000000) (hw : ∀ w ∈ WS,w.length ≤ 1000000) :
 AWP Tryz.prog (E1 Tryz.prog) qwv ⟨[(2,.ref 0 0),(4,qjl f WS),(5,.ref 1 0)],[.cells [I 0,S [],.sl true 0 [],I 0],.cells [I k,S nm,.sl true 0 [],I 0]]⟩
  (qh5 [(2,some (true,4)),(3,none)] (qi7 (.tup [LnV (((zg WS).map fun w=>(⟨k,nm,w,0⟩:Ln)).getD ln0),I (if (zg WS).isSome then 0 else 8)]))):=by
 simp -implicitDefEqProofs (disch:=omega)[qwv,qwt,qb]
 refine qO (fun q : Nat × List Wd × AV × List HObj => ⟨[(2,.ref 0 0),(4,qjl f WS),(5,.ref 1 0),(8,I (q.1 : Int))],q.2.2.2⟩)
  (fun q=>q.1≤WS.length∧zg (WS.take q.1)=some q.2.1∧qr q.2.2.2 0=some (.cells [I 0,S [],.sl true 0 [],I 0])∧qr q.2.2.2 1=some (.cells [I k,S nm,q.2.2.1,I 0])∧AccG q.2.2.2 q.2.2.1 3 q.1 (fl wdC q.2.1)∧∀ j,rid q.2.2.1=some j→2≤j)
  (fun q=>WS.length - q.1) (0,[],.sl true 0 [],_) ⟨Nat.zero_le _,rfl,rfl,rfl,.nil,by simp [rid]⟩ rfl ?_
 rintro ⟨i,ws,x,H⟩ ⟨c1,c2,c3,c4,c5,c6⟩
 simp only at c1 c2 c3 c4 c5 c6 ⊢
 refine qW fun K0 hK0=>?_
 simp -implicitDefEqProofs (disch:=omega)[qb]
 refine qP (fun hc=>?_) (fun hc=>?_)
 · have hi : i < WS.length := by simpa using hc
   have ix:((i:Int)+1)=((i+1:Nat):Int):=by omega
   have st:=qgO hi c2
   have hh:=hw _ (List.getElem_mem hi)
   simp -implicitDefEqProofs (disch:=omega)[qb,hi]
   refine qg rfl (qxc _ hh) ?_
   generalize jX WS[i]=R at *
   obtain ⟨w,ok⟩:=R
   simp only at st
   have l1:=qj c4
   have hn:=Qn (H:=H) (o:=HObj.cells [U w.1,S w.2.1,I w.2.2])
   have d3:qr (H++[HObj.cells [U w.1,S w.2.1,I w.2.2]]) 0=some (.cells [I 0,S [],.sl true 0 [],I 0]):=(qk (by omega)).trans c3
   have d4:qr (H++[HObj.cells [U w.1,S w.2.1,I w.2.2]]) 1=some (.cells [I k,S nm,x,I 0]):=(qk (by omega)).trans c4
   have d5:AccG (H++[HObj.cells [U w.1,S w.2.1,I w.2.2]]) x 3 i (fl wdC ws):=c5.mono fun j hj=>qk (c5.lt hj)
   have d6:∀ j,rid x=some j→j<H.length:=fun j hj=>c5.lt hj
   have d7:(H++[HObj.cells [U w.1,S w.2.1,I w.2.2]]).length=H.length+1:=by simp
   simp -implicitDefEqProofs (disch:=omega)[qb,wdC]
   generalize H++[HObj.cells [U w.1,S w.2.1,I w.2.2]]=H1 at *
   generalize H.length=L at *
   have p0:0<H1.length:=by omega
   have p1:1<H1.length:=by omega
   cases ok with
   | false =>
     have hnone:zg WS=none:=qgN (i:=i+1) (by rw [st];rfl)
     rw [hK0,hnone]
     simp -implicitDefEqProofs (disch:=omega)[qb,d3,qt,p0]
     refine qK (id:=0) (off:=0) (cs:=[I 0,S [],.sl true 0 [],I 0]) rfl (qi (by omega)) (by simp) ?_
     refine qG (r' := .tup [.agg [I 0,S [],.sl true 0 [],I 0],I 8]) (is:=[]) rfl ?_
     exact .tupL (.cons (.aggL (.cons (.refl _) (.cons (.refl _) (.cons .slf (.cons (.refl _) .nil))))) (.cons (.refl _) .nil))
   | true =>
     simp -implicitDefEqProofs (disch:=omega)[qb,d4,qf,hn]
     refine zq (ys:=[.agg (wdC w)]) (ids:=[]) rfl rfl ?_
     simp -implicitDefEqProofs (disch:=omega)[qb,zP,wdC]
     refine Q5 (ys:=wdC w) d5 (by omega) (by decide) rfl rfl fun vs w1 w2 w3=>?_
     have u4:qr (qH H1 vs) 1=some (.cells [I k,S nm,x,I 0]):=(w1 1 (by omega) (fun h=>by have:=c6 1 h;omega)).trans d4
     have u3:qr (qH H1 vs) 0=some (.cells [I 0,S [],.sl true 0 [],I 0]):=(w1 0 (by omega) (fun h=>by have:=c6 0 h;omega)).trans d3
     have p2:1<(qH H1 vs).length:=by omega
     simp -implicitDefEqProofs (disch:=omega)[qb,u4,qt,p2]
     rw [hK0]
     refine qz (i+1,ws++[w],.ms H1.length 0 (i+1) 3,(qH H1 vs).set 1 (.cells [I k,S nm,.ms H1.length 0 (i+1) 3,I 0])) ⟨by simp only;omega,by rw [st];rfl,(qh (by omega)).trans u3,qi (by omega),?_,fun j hj=>?_⟩ (by simp only;omega) (by simp only [ix])
     · rw [jr]
       exact w3.mono fun j hj=>qh (by simp only [rid] at hj;injection hj;omega)
     · simp only [rid] at hj;injection hj;omega
 · have hi : i = WS.length := by simp at hc; omega
   subst hi
   rw [List.take_length] at c2
   subst hK0
   have l1:=qj c4
   rw [c2]
   have p0:0<H.length:=by omega
   simp -implicitDefEqProofs (disch:=omega)[qb,c3,c4,qf,qt,p0]
   refine ⟨by rcases c5 with ⟨rfl,_⟩ | ⟨_,rfl,_⟩ <;> rfl,?_⟩
   refine qK (id:=0) (off:=0) (cs:=[I k,S nm,x,I 0]) rfl (qi p0) (by simp) ?_
   have c7:AccG (H.set 0 (.cells [I k,S nm,x,I 0])) x 3 WS.length (fl wdC ws):=c5.mono fun j hj=>qh (by have:=c6 j hj;omega)
   exact c7.line (YJ c2).symm
theorem qwT {c : UInt8} : ∀ {s : List UInt8},(qM c s).length ≤ s.length + 1 ∧ ∀ w ∈ qM c s,w.length ≤ s.length
 | []=>⟨by simp [qM],by simp [qM]⟩
 | b::r=>by
   obtain ⟨h1,h2⟩:=qwT (c:=c) (s:=r)
   unfold qM
   split
   · refine ⟨by simp; omega,fun w hw => ?_⟩
     rcases List.mem_cons.1 hw with rfl | hw
     · simp
     · have:=h2 w hw;simp;omega
   · split
     · rename_i x xs e
       rw [e] at h1 h2
       refine ⟨by simp at h1 ⊢;omega,fun w hw=>?_⟩
       rcases List.mem_cons.1 hw with rfl | hw
       · have:=h2 x (by simp);simp;omega
       · have:=h2 w (by simp [hw]);simp;omega
     · exact ⟨by simp,fun w hw=>by simp at hw;subst hw;simp⟩
theorem qxd {s:List UInt8} (hs:s.length≤200):(qM 32 s).length≤1000000∧∀ w∈qM 32 s,w.length≤1000000:=by
 obtain ⟨h1,h2⟩:=qwT (c:=32) (s:=s)
 exact ⟨by omega,fun w hw=>by have:=h2 w hw;omega⟩
theorem qw8 (s:List UInt8) (hs:s.length≤1000000):qC Tryz.prog 20 [S s] (.tup [LnV (zd s), I (jc s)]):=by
 refine zO (zj Tryz.func20 qwO qwS (by show 1≤_;decide) ?_)
 have wk0:∀ (e:Int) (H:List HObj),qi7 (.tup [LnV ln0,I e]) (.tup [.agg [I 0,S [],.sl true 0 [],I 0],I e]) H:=fun e H =>
  qG (r' := .tup [.agg [I 0,S [],.sl true 0 [],I 0],I e]) (is:=[]) rfl (.tupL (.cons (.aggL (.cons (.refl _) (.cons (.refl _) (.cons .slf (.cons (.refl _) .nil))))) (.cons (.refl _) .nil)))
 have wk1:∀ (k n e:Int) (H:List HObj),qi7 (.tup [LnV ⟨k,[],[],n⟩,I e]) (.tup [.agg [I k,S [],.sl true 0 [],I n],I e]) H:=fun k n e H =>
  qG (r' := .tup [.agg [I k,S [],.sl true 0 [],I n],I e]) (is:=[]) rfl (.tupL (.cons (.aggL (.cons (.refl _) (.cons (.refl _) (.cons .slf (.cons (.refl _) .nil))))) (.cons (.refl _) .nil)))
 simp -implicitDefEqProofs (disch:=omega)[qwt,qb]
 by_cases h200:s.length≤200
 case neg =>
  have h200':(200<(s.length:Int))=True:=by simp only [eq_iff_iff,iff_true];omega
  have e1:zd s=ln0:=if_neg h200
  have e2:jc s=7:=if_neg h200
  rw [e1,e2]
  simp -implicitDefEqProofs (disch:=omega)[qb,h200']
  exact qK (id:=0) (off:=0) (cs:=[I 0,S [],.sl true 0 [],I 0]) rfl rfl (by simp) (wk0 7 _)
 have h200':(200<(s.length:Int))=False:=by simp only [eq_iff_iff,iff_false];omega
 have e1:zd s=(WY s).getD ln0:=if_pos h200
 have e2:jc s=if (WY s).isSome then 0 else 8:=if_pos h200
 rw [e1,e2]
 simp -implicitDefEqProofs (disch:=omega)[qb,h200']
 refine qg rfl (qw9 s hs) ?_
 have hbath:∀ x xs,qM 32 s=x::xs→xs=[]→s=x:=qch 32 s
 have hpl:WY s=qhF (qM 32 s):=rfl
 have hlen:(qM 32 s).length≤1000000∧∀ w∈qM 32 s,w.length≤1000000:=qxd h200
 have hjoin:∀ t:List UInt8,(∀ b∈t,b≠32)→s=t→qM 32 s=[t]:=fun t h e=>by rw [e];exact YD h
 rw [hpl]
 obtain ⟨a,l,hL⟩:∃ a l,qM 32 s=a::l:=by
  cases h:qM 32 s with
  | nil=>exact absurd h (Jz _ _)
  | cons a l=>exact ⟨a,l,rfl⟩
 rw [hL] at hlen hbath hjoin ⊢
 obtain ⟨hl1,hl2⟩:=hlen
 simp only [List.length_cons] at hl1
 have ha:=hl2 a (by simp)
 have hl5:∀ w∈l,w.length≤1000000:=fun w hw=>hl2 w (by simp [hw])
 clear hl2
 have hls:((a::l).length:Int)=(l.length:Int)+1:=by simp
 simp -implicitDefEqProofs (disch:=omega)[qb,hls,Qi,WJ]
 by_cases r1:a=Zd
 case pos =>
  subst r1
  simp -implicitDefEqProofs (disch:=omega)[qb,hls,Qi,WJ]
  have fail:∀ l,qhF (Zd::l)=none→((qhF (Zd::l)).getD ln0=ln0∧(if (qhF (Zd::l)).isSome=true then (0:Int) else 8)=8):=fun l h=>by rw [h];exact ⟨rfl,rfl⟩
  rcases l with _ | ⟨n,_ | ⟨w,ws⟩⟩
  · have hn : qhF [Zd] = none := rfl
    rw [(fail _ hn).1,(fail _ hn).2]
    simp -implicitDefEqProofs (disch:=omega)[qb]
    exact qK (id:=0) (off:=0) (cs:=[I 0,S [],.sl true 0 [],I 0]) rfl rfl (by simp) (wk0 8 _)
  · have hn : qhF [Zd,n] = none := by simp [qhF]
    rw [(fail _ hn).1,(fail _ hn).2]
    simp -implicitDefEqProofs (disch:=omega)[qb]
    exact qK (id:=0) (off:=0) (cs:=[I 0,S [],.sl true 0 [],I 0]) rfl rfl (by simp) (wk0 8 _)
  · have hnl := hl5 n (by simp)
    have hl3:∀ x∈w::ws,x.length≤1000000:=fun x hx=>hl5 x (List.mem_cons_of_mem _ hx)
    have hl4:(w::ws).length≤1000000:=by simp at hl1 ⊢;omega
    clear hl5 hl1
    have d3:((ws.length:Int)+1+1+1<3)=False:=by simp only [eq_iff_iff,iff_false];omega
    by_cases h10:ws.length≤7
    case neg =>
     have d10:(10<(ws.length:Int)+1+1+1)=True:=by simp only [eq_iff_iff,iff_true];omega
     have hn:qhF (Zd::n::w::ws)=none:=by simp [qhF,h10]
     rw [(fail _ hn).1,(fail _ hn).2]
     simp -implicitDefEqProofs (disch:=omega)[qb,d3,d10]
     exact qK (id:=0) (off:=0) (cs:=[I 0,S [],.sl true 0 [],I 0]) rfl rfl (by simp) (wk0 8 _)
    case pos =>
     have d10:(10<(ws.length:Int)+1+1+1)=False:=by simp only [eq_iff_iff,iff_false];omega
     simp -implicitDefEqProofs (disch:=omega)[qb,d3,d10,Qi,WJ]
     refine ⟨by omega,?_⟩
     refine qg rfl (qgu n hnl) ?_
     cases hnb:QW n with
     | false =>
       have hn:qhF (Zd::n::w::ws)=none:=by simp [qhF,h10,hnb]
       rw [(fail _ hn).1,(fail _ hn).2]
       simp -implicitDefEqProofs (disch:=omega)[qb]
       exact qK (id:=0) (off:=0) (cs:=[I 0,S [],.sl true 0 [],I 0]) rfl rfl (by simp) (wk0 8 _)
     | true =>
       have hn:qhF (Zd::n::w::ws)=(zg (w::ws)).map fun x=>(⟨1,n,x,0⟩:Ln):=by simp [qhF,h10,hnb]
       have hs':(qhF (Zd::n::w::ws)).isSome=(zg (w::ws)).isSome:=by rw [hn];simp
       rw [hs',hn]
       have t:=qwI 1 n (w::ws) false hl4 hl3
       simp -implicitDefEqProofs (disch:=omega)[qb,Qi,WJ,qk7]
       simp -implicitDefEqProofs (disch:=omega)[qb,Qi,WJ,qk7,qwv,qwt] at t
       exact ⟨by omega,by omega,t⟩
 case neg =>
  have n1:(a==Zd)=false:=by rw [beq_eq_false_iff_ne];exact r1
  have fail:∀ l,qhF (a::l)=none→((qhF (a::l)).getD ln0=ln0∧(if (qhF (a::l)).isSome=true then (0:Int) else 8)=8):=fun l h=>by rw [h];exact ⟨rfl,rfl⟩
  by_cases r2:a=tDo
  case pos =>
   subst r2
   simp -implicitDefEqProofs (disch:=omega)[qb,n1]
   rcases l with _ | ⟨w,_ | ⟨x,ws⟩⟩
   · have hn : qhF [tDo] = none := rfl
     rw [(fail _ hn).1,(fail _ hn).2]
     simp -implicitDefEqProofs (disch:=omega)[qb]
     exact qK (id:=0) (off:=0) (cs:=[I 0,S [],.sl true 0 [],I 0]) rfl rfl (by simp) (wk0 8 _)
   · have hn : qhF [tDo,w] = (zg [w]).map fun x => (⟨3,[],x,0⟩ : Ln) := rfl
     have hs':(qhF [tDo,w]).isSome=(zg [w]).isSome:=by rw [hn];simp
     rw [hs',hn]
     have t:=qwI 3 [] [w] false (by simp) (fun x hx=>hl5 x hx)
     simp -implicitDefEqProofs (disch:=omega)[qb,Qi,YY,WJ,qk7]
     simp -implicitDefEqProofs (disch:=omega)[qb,Qi,YY,WJ,qk7,qwv,qwt] at t
     exact t
   · have d3 : ((ws.length : Int) + 1 + 1 + 1 != 2) = true := by rw [bne_iff_ne]; omega
     have hn:qhF (tDo::w::x::ws)=none:=rfl
     rw [(fail _ hn).1,(fail _ hn).2]
     simp -implicitDefEqProofs (disch:=omega)[qb,d3]
     exact qK (id:=0) (off:=0) (cs:=[I 0,S [],.sl true 0 [],I 0]) rfl rfl (by simp) (wk0 8 _)
  case neg =>
   have n2:(a==tDo)=false:=by rw [beq_eq_false_iff_ne];exact r2
   by_cases r3:a=qje
   case pos =>
    subst r3
    simp -implicitDefEqProofs (disch:=omega)[qb,n1,n2]
    rcases l with _ | ⟨w,_ | ⟨x,ws⟩⟩
    · have hn : qhF [qje] = none := rfl
      rw [(fail _ hn).1,(fail _ hn).2]
      simp -implicitDefEqProofs (disch:=omega)[qb]
      exact qK (id:=0) (off:=0) (cs:=[I 0,S [],.sl true 0 [],I 0]) rfl rfl (by simp) (wk0 8 _)
    · have hn : qhF [qje,w] = if qaB w 1 QM then some ⟨4,[],[],Vq w⟩ else none := rfl
      have hwl:=hl5 w (by simp)
      simp -implicitDefEqProofs (disch:=omega)[qb,Qi,YY,WJ]
      refine qg rfl (qwD w 1 QM hwl) ?_
      simp -implicitDefEqProofs (disch:=omega)[qb]
      cases hnb:qaB w 1 QM with
      | false =>
        rw [hnb] at hn
        rw [(fail _ hn).1,(fail _ hn).2]
        simp -implicitDefEqProofs (disch:=omega)[qb]
        exact qK (id:=0) (off:=0) (cs:=[I 0,S [],.sl true 0 [],I 0]) rfl rfl (by simp) (wk0 8 _)
      | true =>
        have hcan:qnx w=true:=by
         unfold qaB at hnb
         simp only [Bool.and_eq_true] at hnb
         exact hnb.1.1
        rw [hnb] at hn
        have hv:qxi w=(Vq w:Int):=by simp [qxi,hcan]
        rw [hn,hv]
        simp -implicitDefEqProofs (disch:=omega)[qb]
        exact qK (id:=0) (off:=0) (cs:=[I 4,S [],.sl true 0 [],I (Vq w:Int)]) rfl rfl (by simp) (wk1 _ _ _ _)
    · have d3 : ((ws.length : Int) + 1 + 1 + 1 != 2) = true := by rw [bne_iff_ne]; omega
      have hn:qhF (qje::w::x::ws)=none:=rfl
      rw [(fail _ hn).1,(fail _ hn).2]
      simp -implicitDefEqProofs (disch:=omega)[qb,d3]
      exact qK (id:=0) (off:=0) (cs:=[I 0,S [],.sl true 0 [],I 0]) rfl rfl (by simp) (wk0 8 _)
   case neg =>
    have n3:(a==qje)=false:=by rw [beq_eq_false_iff_ne];exact r3
    have hP:qhF (a::l)=if l=[] then (if a=tBath then some ⟨2,[],[],0⟩ else if a=qdE then some ⟨5,[],[],0⟩ else if a=VX then some ⟨6,[],[],0⟩ else none) else none:=by
     simp only [qhF]
     rw [if_neg r1,if_neg r2,if_neg r3]
    simp -implicitDefEqProofs (disch:=omega)[qb,n1,n2,n3]
    have key:∀ t:List UInt8,(∀ b∈t,b≠32)→(s=t↔a=t∧l=[]):=fun t ht=>⟨fun e=>by have:=hjoin t ht e;cases this;exact ⟨rfl,rfl⟩,fun ⟨h1,h2⟩=>(hbath _ _ rfl h2).trans h1⟩
    by_cases s1:s=tBath
    case pos =>
     have:=(key tBath (by decide)).1 s1
     rw [hP,this.1,this.2,s1]
     simp -implicitDefEqProofs (disch:=omega)[qb]
     exact qK (id:=0) (off:=0) (cs:=[I 2,S [],.sl true 0 [],I 0]) rfl rfl (by simp) (wk1 _ _ _ _)
    case neg =>
     have m1:(s==tBath)=false:=by rw [beq_eq_false_iff_ne];exact s1
     by_cases s2:s=qdE
     case pos =>
      have:=(key qdE (by decide)).1 s2
      rw [hP,this.1,this.2,s2]
      simp -implicitDefEqProofs (disch:=omega)[qb]
      exact qK (id:=0) (off:=0) (cs:=[I 5,S [],.sl true 0 [],I 0]) rfl rfl (by simp) (wk1 _ _ _ _)
     case neg =>
      have m2:(s==qdE)=false:=by rw [beq_eq_false_iff_ne];exact s2
      by_cases s3:s=VX
      case pos =>
       have:=(key VX (by decide)).1 s3
       rw [hP,this.1,this.2,s3]
       simp -implicitDefEqProofs (disch:=omega)[qb]
       exact qK (id:=0) (off:=0) (cs:=[I 6,S [],.sl true 0 [],I 0]) rfl rfl (by simp) (wk1 _ _ _ _)
      case neg =>
       have m3:(s==VX)=false:=by rw [beq_eq_false_iff_ne];exact s3
       have hn:qhF (a::l)=none:=by
        rw [hP]
        by_cases hl:l=[]
        · rw [if_pos hl,if_neg (fun e=>s1 ((key tBath (by decide)).2 ⟨e,hl⟩)),if_neg (fun e=>s2 ((key qdE (by decide)).2 ⟨e,hl⟩)),if_neg (fun e=>s3 ((key VX (by decide)).2 ⟨e,hl⟩))]
        · rw [if_neg hl]
       rw [(fail _ hn).1,(fail _ hn).2]
       simp -implicitDefEqProofs (disch:=omega)[qb,m1,m2,m3]
       exact qK (id:=0) (off:=0) (cs:=[I 0,S [],.sl true 0 [],I 0]) rfl rfl (by simp) (wk0 8 _)
theorem PcJ.word {c s i fr acc} (h:PcJ c s i fr acc) (hi:i<s.length) (hb:s[i]=c):PcJ c s (i+1) (i+1) (acc++[(s.drop fr).take (i - fr)]) :=
 ⟨Nat.le_refl _,hi,by simp,by
  have e1:qM c (s.drop fr)=(s.drop fr).take (i - fr)::qM c (s.drop (i+1)):=by
   conv=>lhs;rw [qw1 h.le hi,hb,qfs h.no]
  rw [h.sp,e1]
  simp,by have:=h.ln;have:=h.le;simp;omega⟩
theorem qxf {hp x} {e:Int} {l:List (List UInt8)} (h:AccG hp x 1 l.length (fl WJ l)):qi7 (.tup [qqK l,I e]) (.tup [x,I e]) hp:=by
 obtain ⟨ids,h1,_⟩:=h.pur
 rcases h with ⟨rfl,h0,_⟩ | ⟨id,rfl,_⟩
 · obtain rfl : l = [] := List.eq_nil_of_length_eq_zero h0
   exact qG (r' := .tup [.sl true 0 [],I e]) (is:=[]) rfl (.tupL (.cons .slf (.cons (.refl _) .nil)))
 · have h2 : ze (hpf hp) (.ms id 0 l.length 1) = some (.sl (decide (l.length = 0)) l.length (fl WJ l),ids) := h1
   refine qG (r' := .tup [.sl (decide (l.length=0)) l.length (fl WJ l),I e]) (is:=ids) ?_ (.tupL (.cons .slf (.cons (.refl _) .nil)))
   simp only [qU,Qq,zu,QT,h2]
   simp [ze]
def qwu:AC:=match qws with
 | .seq _ (.seq _ (.seq _ t))=>t
 | x=>x
theorem qwG (s : List UInt8) (hs : s.length ≤ 1000000) (h1 : ¬ 65536 < s.length) (h2 : qpi s = false) (fr : List (Nat × AV)) :
 AWP Tryz.prog (E1 Tryz.prog) qwu ⟨(0,S s)::fr,[]⟩ (qfB [2,3] (qi7 (.tup [qqK (qaw s),I (V0 s)]))):=by
 simp -implicitDefEqProofs (disch:=omega)[qwu,qws,qb]
 refine qkg (fun q : Nat × Nat × List (List UInt8) × AV × List HObj => ⟨[(0,S s),(4,q.2.2.2.1),(5,I (q.2.1 : Int)),(6,I (q.1 : Int))],q.2.2.2.2⟩)
  (fun q=>PcJ 10 s q.1 q.2.1 q.2.2.1∧AccG q.2.2.2.2 q.2.2.2.1 1 q.2.2.1.length (fl WJ q.2.2.1)) (fun q=>s.length - q.1) (0,0,[],.sl true 0 [],[]) ⟨.zero 10 s,.nil⟩ (St.le.rfl' _) ?_
 rintro ⟨i,fr,acc,x,H⟩ ⟨J,c3⟩
 simp only at J c3 ⊢
 refine qW fun K0 hK0=>?_
 simp -implicitDefEqProofs (disch:=omega)[qb]
 have hle:=J.le
 have hln:=J.ln
 have hli:=J.li
 refine qP (fun hc=>?_) (fun hc=>?_)
 · have hi : i < s.length := by simpa using hc
   have ix:((i:Int)+1)=((i+1:Nat):Int):=by omega
   simp -implicitDefEqProofs (disch:=omega)[qb,hi]
   cases hb:((s[i].toNat:Int)==10) with
   | true =>
     have hb':s[i]=10:=by rw [beq_iff_eq] at hb;exact UInt8.toNat_inj.1 (by show s[i].toNat=10;omega)
     simp -implicitDefEqProofs (disch:=omega)[qb]
     refine zq (ys:=[S ((s.drop fr).take (i - fr))]) (ids:=[]) rfl rfl ?_
     simp -implicitDefEqProofs (disch:=omega)[qb,zP]
     refine Q5 (ys:=[S ((s.drop fr).take (i - fr))]) c3 (by omega) (by decide) rfl rfl fun ws w1 w2 w3=>?_
     simp -implicitDefEqProofs (disch:=omega)[qb,zP]
     rw [hK0]
     refine qz (i+1,i+1,acc++[(s.drop fr).take (i - fr)],.ms H.length 0 (acc.length+1) 1,qH H ws) ⟨J.word hi hb',?_⟩ (by simp only;omega) (by simp only [ix])
     simp only [List.length_append,List.length_singleton,jr]
     exact w3
   | false =>
     have hb':s[i]≠10:=by rw [beq_eq_false_iff_ne] at hb;exact fun e=>hb (by rw [e];rfl)
     simp -implicitDefEqProofs (disch:=omega)[qb]
     rw [hK0]
     exact qz (i+1,fr,acc,x,H) ⟨J.step hi hb',c3⟩ (by simp only;omega) (by simp only [ix])
 · have hi : i = s.length := by simp at hc; omega
   subst hi
   have e:=J.last
   subst hK0
   have hsp:(qM 10 s).dropLast=acc:=e.symm
   by_cases b:400<acc.length
   case pos =>
    have b':(400<(acc.length:Int))=True:=by simp only [eq_iff_iff,iff_true];omega
    have hE:V0 s=6:=by unfold V0;rw [if_neg h1,h2,hsp];simp [b]
    have hL:qaw s=[]:=by unfold qaw;rw [hE];rfl
    rw [hE,hL]
    simp -implicitDefEqProofs (disch:=omega)[qb,c3.lenW,b']
    exact qG (r' := .tup [.sl true 0 [],I 6]) (is:=[]) rfl (.tupL (.cons .slf (.cons (.refl _) .nil)))
   have b':(400<(acc.length:Int))=False:=by simp only [eq_iff_iff,iff_false];omega
   have hE:V0 s=0:=by unfold V0;rw [if_neg h1,h2,hsp];simp [b]
   have hL:qaw s=acc:=by unfold qaw;rw [hE,hsp];rfl
   rw [hE,hL]
   simp -implicitDefEqProofs (disch:=omega)[qb,c3.lenW,b']
   exact qxf c3
theorem qwy (s:List UInt8):qC Tryz.prog 51 [S s] (.tup [qqK (qaw s),I (V0 s)]):=by
 refine zO (walk Tryz.func51 qwN (by kernel_rfl) (by show 1≤_;decide) ?_)
 simp -implicitDefEqProofs (disch:=omega)[qws,qb]
 have bad : ∀ (e : Int) (H : List HObj) (h : V0 s = e) (h0 : e ≠ 0),qi7 (.tup [qqK (qaw s),I (V0 s)]) (.tup [.sl true 0 [],I e]) H := fun e H h h0 => by
  have:qaw s=[]:=if_neg (by rw [h];exact h0)
  rw [this,h]
  exact qG (r' := .tup [.sl true 0 [],I e]) (is:=[]) rfl (.tupL (.cons .slf (.cons (.refl _) .nil)))
 by_cases hbig:65536<s.length
 case pos =>
  have hbig':(65536<(s.length:Int))=True:=by simp only [eq_iff_iff,iff_true];omega
  simp -implicitDefEqProofs (disch:=omega)[qb,hbig']
  exact bad 7 _ (if_pos hbig) (by decide)
 have hs:s.length≤1000000:=by omega
 have hbig':(65536<(s.length:Int))=False:=by simp only [eq_iff_iff,iff_false];omega
 simp -implicitDefEqProofs (disch:=omega)[qb,hbig']
 cases hs0:s with
 | nil =>
   subst hs0
   have t:=qwG [] hs hbig rfl []
   simp -implicitDefEqProofs (disch:=omega)[qb]
   simp -implicitDefEqProofs (disch:=omega)[qb,qwu,qws] at t
   exact t
 | cons b r =>
   rw [←hs0]
   have hpos:0<s.length:=by rw [hs0];simp
   have hlt:s.length - 1<s.length:=by omega
   have ho:=qxj hlt
   have sx:((s.length:Int) - 1)=((s.length - 1:Nat):Int):=by omega
   simp -implicitDefEqProofs (disch:=omega)[qb,hpos,sx,hlt]
   by_cases hb:s[s.length - 1]=10
   · have hb' : ((s[s.length - 1].toNat : Int) != 10) = false := by rw [hb]; rfl
     have t:=qwG s hs hbig (by rw [ho];simpa using hb) []
     simp -implicitDefEqProofs (disch:=omega)[qb,hb']
     simp -implicitDefEqProofs (disch:=omega)[qb,qwu,qws] at t
     exact t
   · have hb':((s[s.length - 1].toNat:Int) != 10)=true:=by
      rw [bne_iff_ne];intro h;exact hb (UInt8.toNat_inj.1 (by show s[s.length - 1].toNat=10;omega))
     have hO:qpi s=true:=by rw [ho];simpa using hb
     simp -implicitDefEqProofs (disch:=omega)[qb,hb']
     exact bad 8 _ (by unfold V0;rw [if_neg hbig,hO];rfl) (by decide)
end Go.AM

set_option maxRecDepth 100000
namespace Go.AM
open Go.RowKit Go.Proofs
def qwr:AC:=Subtype.val (p:=fun g=>qo Tryz.prog Tryz.f11 [4]=some g) (by refine ⟨?g,?h⟩;case h=>conv=>lhs;reduce;simp only[qwo,qwp,UInt8.reduceOfNat,Int.reduceOfNat,Int.reduceNegSucc])
theorem qwx:qo Tryz.prog Tryz.f11 [4]=some qwr:=by kernel_rfl
def qwZ:AC:=Subtype.val (p:=fun g=>qo Tryz.prog Tryz.f50 [2]=some g) (by refine ⟨?g,?h⟩;case h=>conv=>lhs;reduce)
theorem qwU:qo Tryz.prog Tryz.f50 [2]=some qwZ:=by kernel_rfl
theorem qwB {l:List Int}:(fl qjb l).length=l.length:=by rw [J9 qms,Nat.mul_one]
theorem qw7 (s:List UInt8):qC Tryz.prog 50 [S s] (B (decide (s.length≤4000)&&decide (V0 s=0))):=by
 refine qT (walk Tryz.func50 qwU (by kernel_rfl) (by show 1≤_;decide) ?_)
 simp -implicitDefEqProofs (disch:=omega)[qwZ,qb]
 refine qg (ys:=[S s]) (ids:=[]) rfl (qwy s) ?_
 simp -implicitDefEqProofs (disch:=omega)[qb,AV.scalar]
 by_cases h:s.length≤4000
 · have h' : ((s.length : Int) ≤ 4000) = True := by simp only [eq_iff_iff,iff_true]; omega
   by_cases e:V0 s=0
   · have e' : (V0 s == 0) = true := by rw [beq_iff_eq]; exact e
     simp -implicitDefEqProofs (disch:=omega)[qb,h',h,e',e]
   · have e' : (V0 s == 0) = false := by rw [beq_eq_false_iff_ne]; exact e
     simp -implicitDefEqProofs (disch:=omega)[qb,h',h,e',e]
 · have h' : ((s.length : Int) ≤ 4000) = False := by simp only [eq_iff_iff,iff_false]; omega
   simp -implicitDefEqProofs (disch:=omega)[qb,h',h]
theorem qwR (s:List UInt8):PlV (qaw s).length (jQ (qaw s)):=by
 have:=qdg (qgh (s:=s)).1 (qaw s).length (Nat.le_refl _)
 rwa [List.take_length] at this
theorem qxp (s:List UInt8):DyI (qku s):=by
 unfold qku
 split
 · exact (qwR s).day.1.w.i
 · exact day0_V.w.i
theorem qwK {s : List UInt8} {ls : List (List UInt8)} (h : V0 s = 0) (hn : ∀ w ∈ ls,∀ b ∈ w,b ≠ 10) (h1 : s.length + (qwq ls).length ≤ 65536) (h2 : (qaw s).length + ls.length ≤ 400) :
 V0 (s++qwq ls)=0∧qmV (s++qwq ls)=(jQ (qaw s++ls)).errs∧qku (s++qwq ls)=qX (jQ (qaw s++ls)):=by
 obtain ⟨a,b⟩:=qxh h hn h1 h2
 unfold qmV qku
 rw [if_pos a,if_pos a,b]
 exact ⟨a,rfl,rfl⟩
theorem qxk {l:List (List UInt8)} {a b:List UInt8}:jQ (l++[a,b])=Ql (Ql (jQ l) a) b:=by
 rw [show l++[a,b]=(l++[a])++[b] by simp,qwC,qwC]
theorem qxn:(∀ b∈qdE,b≠10)∧(∀ b∈VX,b≠10):=by decide
theorem qxg {s t : List UInt8} (h : V0 s = 0) (h4 : s.length ≤ 3000) (h9 : (qaw s).length ≤ 390) (ht : t.length ≤ 200) (h8 : V0 (t ++ [10]) = 0) (h7 : (qaw (t ++ [10])).length = 1) :
 (V0 (s ++ t ++ [10]) = 0 ∧ ∃ e,qmV (s ++ t ++ [10]) = qmV s ++ [e] ∧ (jc t ≠ 0 → e = jc t) ∧ (e ≠ 0 → qku (s ++ t ++ [10]) = qku s) ∧
  (V0 (s ++ t ++ [10,98,97,99,107,10]) = 0 ∧ (qmV (s ++ t ++ [10,98,97,99,107,10])).length = (qaw s).length + 2 ∧
   (e=0→(zd t).kind≠5→(zd t).kind≠6→qmV (s++t++[10,98,97,99,107,10])=qmV s++[0,0]∧qku (s++t++[10,98,97,99,107,10])=qku s))) ∧
 (V0 (s ++ [98,97,99,107,10,97,103,97,105,110,10]) = 0 ∧
  ∃ x y,qmV (s ++ [98,97,99,107,10,97,103,97,105,110,10]) = qmV s ++ [x,y] ∧ (Jw (qaH s) = [] → x = 5) ∧
    (Jw (qaH s)≠[]→x=0∧y=0∧qku (s++[98,97,99,107,10,97,103,97,105,110,10])=qku s)) ∧
 (qmV s).length=(qaw s).length:=by
 have V:=qwR s
 have hD:qku s=qX (jQ (qaw s)):=by unfold qku;rw [if_pos h]
 have hE:qmV s=(jQ (qaw s)).errs:=by unfold qmV;rw [if_pos h]
 have hK:qaH s=(jQ (qaw s)).kept.take (jQ (qaw s)).at':=by unfold qaH;rw [if_pos h]
 have tn:=qxo h8 h7
 obtain ⟨bn,an⟩:=qxn
 have e1:s++t++[10]=s++qwq [t]:=by simp [qwq]
 have e2:s++t++[10,98,97,99,107,10]=s++qwq [t,qdE]:=by simp [qwq,qdE]
 have e3:s++[98,97,99,107,10,97,103,97,105,110,10]=s++qwq [qdE,VX]:=by simp [qwq,qdE,VX]
 have l1:(qwq [t]).length≤300:=by simp [qwq];omega
 have l2:(qwq [t,qdE]).length≤300:=by simp [qwq,qdE];omega
 have l3:(qwq [qdE,VX]).length≤300:=by decide
 obtain ⟨a1,a2,a3⟩ := qwK (ls := [t]) h (fun w hw => by
  have e:w=t:=by simpa using hw
  rw [e];exact tn) (by omega) (by simp;omega)
 obtain ⟨b1,b2,b3⟩ := qwK (ls := [t,qdE]) h (fun w hw => by
  rcases List.mem_cons.1 hw with rfl | hw
  · exact tn
  · obtain rfl : w = qdE := by simpa using hw
    exact bn) (by omega) (by simp;omega)
 obtain ⟨c1,c2,c3⟩ := qwK (ls := [qdE,VX]) h (fun w hw => by
  rcases List.mem_cons.1 hw with rfl | hw
  · exact bn
  · obtain rfl : w = VX := by simpa using hw
    exact an) (by omega) (by simp;omega)
 rw [qwC] at a2 a3
 rw [qxk] at b2 b3 c2 c3
 obtain ⟨e,s1,s2,s3⟩:=qw4 (q:=jQ (qaw s)) (s:=t)
 obtain ⟨e',s1',-,-⟩:=qw4 (q:=Ql (jQ (qaw s)) t) (s:=qdE)
 obtain ⟨k0,k1⟩:=qw6 V
 have hlen:(qmV s).length=(qaw s).length:=by rw [hE,V.errs]
 rw [e1,e2,e3]
 refine ⟨⟨a1,e,by rw [a2,s1,hE],s2,fun he=>by rw [a3,hD];exact s3 he,b1,?_,fun he h5 h6=>?_⟩,⟨c1,?_⟩,hlen⟩
 · rw [b2,s1',s1];simp [V.errs]
 · subst he
   obtain ⟨p1,p2⟩:=qxe V s1 h5 h6
   exact ⟨by rw [b2,p2,hE],by rw [b3,p1,hD]⟩
 · by_cases h0 : (jQ (qaw s)).at' = 0
   · refine ⟨5,_,by rw [c2,k0 h0,hE],fun _ => rfl,fun hne => ?_⟩
     exact absurd (by rw [hK,h0];rfl) hne
   · obtain ⟨m1,m2⟩ := k1 h0
     refine ⟨0,0,by rw [c2,m1,hE],fun hne=>?_,fun _=>⟨rfl,rfl,by rw [c3,m2,hD]⟩⟩
     exfalso
     have hl:(qaH s).length=(jQ (qaw s)).at':=by rw [hK,List.length_take];have:=V.at';have:=V.kept;omega
     cases hk:qaH s with
     | nil=>rw [hk] at hl;simp at hl;omega
     | cons w r=>rw [hk] at hne;simp [Jw] at hne
theorem qw3 {l:List Int} {i:Nat} {v:Int} (h:l[i]?=some v):YO (fl qjb l) i=some (I v):=by
 obtain ⟨h1,h2⟩:=List.getElem?_eq_some_iff.1 h
 rw [qo3 h1,h2]
theorem qwz (s t:List UInt8) (htl:t.length≤281474976710656):qC Tryz.prog 11 [S s,S t] (B true):=by
 refine qT (qjr Tryz.func11 qwx (by kernel_rfl) (by show 2≤_;decide) ?_)
 unfold qwr
 refine zV ?_
 simp -implicitDefEqProofs (disch:=omega)[qb]
 refine zV ?_
 simp -implicitDefEqProofs (disch:=omega)[qb]
 refine qg (ys:=[S s]) (ids:=[]) rfl (qwy s) ?_
 simp -implicitDefEqProofs (disch:=omega)[qb,AV.scalar]
 have ha:t.length+([10]:List UInt8).length≤9223372036854775807:=by simp;omega
 refine zV ?_
 simp -implicitDefEqProofs (disch:=omega)[qb,Z5 ha]
 refine qg (ys:=[S (t++[10])]) (ids:=[]) rfl (qwy (t++[10])) ?_
 simp -implicitDefEqProofs (disch:=omega)[qb,AV.scalar]
 refine zV ?_
 simp -implicitDefEqProofs (disch:=omega)[qb]
 refine qg (ys:=[S s]) (ids:=[]) rfl (qw7 s) ?_
 by_cases hf:s.length≤4000∧V0 s=0
 case neg =>
  have e:(decide (s.length≤4000)&&decide (V0 s=0))=false:=by
   rw [Bool.and_eq_false_iff]
   by_cases h:s.length≤4000
   · exact .inr (decide_eq_false fun h2=>hf ⟨h,h2⟩)
   · exact .inl (decide_eq_false h)
  rw [e]
  simp -implicitDefEqProofs (disch:=omega)[qb,AV.scalar]
  refine qg (ys:=[]) (ids:=[]) rfl qqz ?_
  simp -implicitDefEqProofs (disch:=omega)[qb,AV.scalar]
 obtain ⟨f1,f2⟩:=hf
 have e:(decide (s.length≤4000)&&decide (V0 s=0))=true:=by rw [decide_eq_true f1,decide_eq_true f2];rfl
 rw [e]
 by_cases h4:3000<s.length
 case pos =>
  have e4:(3000<(s.length:Int))=True:=by simp only [eq_iff_iff,iff_true];omega
  simp -implicitDefEqProofs (disch:=omega)[qb,AV.scalar,e4]
  refine qg (ys:=[]) (ids:=[]) rfl qqz ?_
  simp -implicitDefEqProofs (disch:=omega)[qb,AV.scalar]
 have e4:(3000<(s.length:Int))=False:=by simp only [eq_iff_iff,iff_false];omega
 by_cases h9:390<(qaw s).length
 case pos =>
  have e9:(390<((qaw s).length:Int))=True:=by simp only [eq_iff_iff,iff_true];omega
  simp -implicitDefEqProofs (disch:=omega)[qb,AV.scalar,e4,e9]
  refine qg (ys:=[]) (ids:=[]) rfl qqz ?_
  simp -implicitDefEqProofs (disch:=omega)[qb,AV.scalar]
 have e9:(390<((qaw s).length:Int))=False:=by simp only [eq_iff_iff,iff_false];omega
 by_cases h2:200<t.length
 case pos =>
  have e2:(200<(t.length:Int))=True:=by simp only [eq_iff_iff,iff_true];omega
  simp -implicitDefEqProofs (disch:=omega)[qb,AV.scalar,e4,e9,e2]
  refine qg (ys:=[]) (ids:=[]) rfl qqz ?_
  simp -implicitDefEqProofs (disch:=omega)[qb,AV.scalar]
 have e2:(200<(t.length:Int))=False:=by simp only [eq_iff_iff,iff_false];omega
 by_cases h8:V0 (t++[10])=0
 case neg =>
  have e8:(V0 (t++[10]) != 0)=true:=by rw [bne_iff_ne];exact h8
  simp -implicitDefEqProofs (disch:=omega)[qb,AV.scalar,e4,e9,e2,e8]
  refine qg (ys:=[]) (ids:=[]) rfl qqz ?_
  simp -implicitDefEqProofs (disch:=omega)[qb,AV.scalar]
 have e8:(V0 (t++[10]) != 0)=false:=by rw [h8];rfl
 by_cases h7:(qaw (t++[10])).length=1
 case neg =>
  have e7:(((qaw (t++[10])).length:Int) != 1)=true:=by rw [bne_iff_ne];omega
  simp -implicitDefEqProofs (disch:=omega)[qb,AV.scalar,e4,e9,e2,e8,e7]
  refine qg (ys:=[]) (ids:=[]) rfl qqz ?_
  simp -implicitDefEqProofs (disch:=omega)[qb,AV.scalar]
 have e7:(((qaw (t++[10])).length:Int) != 1)=false:=by rw [h7];rfl
 simp -implicitDefEqProofs (disch:=omega)[qb,AV.scalar,e4,e9,e2,e8,e7]
 obtain ⟨⟨a1,e',a2,a3,a4,a5,a6,a7⟩,⟨b1,x,y,b2,b3,b4⟩,hlen⟩:=qxg f2 (by omega) (by omega) (by omega) h8 h7
 generalize hX:s++t++[10]=X at a1 a2 a4
 generalize hY:s++t++[10,98,97,99,107,10]=Y at a5 a6 a7
 generalize hZ:s++[98,97,99,107,10,97,103,97,105,110,10]=Z at b1 b2 b4
 rw [List.append_assoc] at hX hY
 have lX:X.length≤1000000:=by rw [←hX];simp;omega
 have lY:Y.length≤1000000:=by rw [←hY];simp;omega
 have lZ:Z.length≤1000000:=by rw [←hZ];simp;omega
 have dI:=qxp s
 generalize hD:qku s=D at dI a4 a7 b4
 generalize hE:qmV s=E at hlen a2 a7 b2
 have ed:[Bks D.rc,I D.bath,I D.laid,Pts D.pat,Shs D.sh]=dyC D:=rfl
 have edX:[Bks (qku X).rc,I (qku X).bath,I (qku X).laid,Pts (qku X).pat,Shs (qku X).sh]=dyC (qku X):=rfl
 have edY:[Bks (qku Y).rc,I (qku Y).bath,I (qku Y).laid,Pts (qku Y).pat,Shs (qku Y).sh]=dyC (qku Y):=rfl
 have edZ:[Bks (qku Z).rc,I (qku Z).bath,I (qku Z).laid,Pts (qku Z).pat,Shs (qku Z).sh]=dyC (qku Z):=rfl
 refine zV ?_
 simp -implicitDefEqProofs (disch:=omega)[qb]
 refine qg (ys:=[S s]) (ids:=[]) rfl (qhs s (by omega)) ?_
 rw [hD,hE,f2]
 simp -implicitDefEqProofs (disch:=omega)[qb,AV.scalar,dyC]
 simp only [ed]
 refine zV ?_
 simp -implicitDefEqProofs (disch:=omega)[qb]
 refine qg (ys:=[S s]) (ids:=[]) rfl (qjW s (by omega)) ?_
 rw [f2]
 generalize hk:Jw (qaH s)=k at b3 b4
 simp -implicitDefEqProofs (disch:=omega)[qb,AV.scalar]
 refine zV ?_
 have j1:s.length+t.length≤9223372036854775807:=by omega
 have j2:(s++t).length+([10]:List UInt8).length≤9223372036854775807:=by simp;omega
 have j3:(s++t).length+([10,98,97,99,107,10]:List UInt8).length≤9223372036854775807:=by simp;omega
 have j4:s.length+([98,97,99,107,10,97,103,97,105,110,10]:List UInt8).length≤9223372036854775807:=by simp;omega
 simp -implicitDefEqProofs (disch:=omega)[qb,Z5 j1,Z5 j2,hX]
 refine qg (ys:=[S X]) (ids:=[]) rfl (qhs X lX) ?_
 rw [a1,a2]
 simp -implicitDefEqProofs (disch:=omega)[qb,AV.scalar,dyC]
 simp only [ed,edX]
 refine zV ?_
 simp -implicitDefEqProofs (disch:=omega)[qb,Z5 j1,Z5 j3,hY]
 refine qg (ys:=[S Y]) (ids:=[]) rfl (qhs Y lY) ?_
 rw [a5]
 simp -implicitDefEqProofs (disch:=omega)[qb,AV.scalar,dyC]
 simp only [ed,edX,edY]
 refine zV ?_
 simp -implicitDefEqProofs (disch:=omega)[qb,Z5 j4,hZ]
 refine qg (ys:=[S Z]) (ids:=[]) rfl (qhs Z lZ) ?_
 rw [b1,b2]
 simp -implicitDefEqProofs (disch:=omega)[qb,AV.scalar,dyC]
 simp only [ed,edX,edY,edZ]
 have hXl:(E++[e']).length=(qaw s).length+1:=by simp;omega
 have hXn:(E++[e'])[(qaw s).length]?=some e':=by rw [List.getElem?_append_right (by omega)];simp [hlen]
 have hZl:(E++[x,y]).length=(qaw s).length+2:=by simp;omega
 have hZn:(E++[x,y])[(qaw s).length]?=some x:=by rw [List.getElem?_append_right (by omega)];simp [hlen]
 have hZm:(E++[x,y])[(qaw s).length+1]?=some y:=by rw [List.getElem?_append_right (by omega)];simp [hlen]
 generalize E++[e']=EX at hXl hXn
 generalize E++[x,y]=EZ at hZl hZn hZm
 have hYm : e' = 0 → (zd t).kind ≠ 5 → (zd t).kind ≠ 6 → (qmV Y)[(qaw s).length + 1]? = some 0 := fun h1 h2 h3 => by
  rw [(a7 h1 h2 h3).1,List.getElem?_append_right (by omega)];simp [hlen]
 generalize qmV Y=EY at a6 a7 hYm
 have hN:(qaw s).length≤390:=by omega
 generalize hNN:qaw s=L at hXl hXn hZl hZn hZm hYm a6 hN
 obtain ⟨N2,hN2⟩:∃ m,m=L.length+1:=⟨_,rfl⟩
 rw [←hN2] at hZm
 have hYm':e'=0→(zd t).kind≠5→(zd t).kind≠6→EY[N2]?=some 0:=by rw [hN2];exact hYm
 have kX:L.length<EX.length:=by omega
 have kZ:L.length<EZ.length:=by omega
 have kZ':N2<EZ.length:=by omega
 have kY':N2<EY.length:=by omega
 have ix:((L.length:Int)+1)=(N2:Int):=by omega
 have zX:=qw3 hXn
 have zZ:=qw3 hZn
 have zZ':=qw3 hZm
 have q1:((EX.length:Int) != (N2:Int))=false:=by rw [bne_eq_false_iff_eq];omega
 have q2:((EY.length:Int) != (L.length:Int)+2)=false:=by rw [bne_eq_false_iff_eq];omega
 have q3:((EZ.length:Int) != (L.length:Int)+2)=false:=by rw [bne_eq_false_iff_eq];omega
 have hsd:decide (D=D)=true:=decide_eq_true rfl
 have fin:∀ (xs fr:List (Nat × AV)) (u v:AV) (o1 o2:HObj) (r:List HObj),(fr=(5,qqK L)::(9,.ref 0 0)::(12,S k)::(20,.ref 3 0)::(21,qqH EZ)::xs∨fr=(5,qqK L)::(9,.ref 0 0)::(12,S k)::(17,u)::(18,v)::(20,.ref 3 0)::(21,qqH EZ)::xs)→AWS Tryz.prog (.seq (.seq (.rgn [⟨none,[(.mv 186 (.t 12)),(.bin 187 .eql (.t 186) (.k (.v (.string ⟨#[]⟩))))]⟩] [5,9,20,21,187]) (.cond (.t 187) (.seq (.rgn [⟨none,[(.mv 188 (.t 21)),(.mv 189 (.t 5)),(.len 190 (.t 189)),(.ia 191 1 (.t 188) (.t 190)),(.ld 192 false 1 (.t 191)),(.bin 193 .eql (.t 192) (.k (I 5))),(.mv 194 (.t 193))]⟩,⟨(some (194,true)),[(.call 195 18 [])]⟩,⟨none,[(.pick 196 (.t 194) (.t 195) (.k (B false))),(.mv 4 (.t 196))]⟩] [4]) .ret) .skip)) (.seq (.rgn [⟨none,[(.mv 197 (.t 21)),(.mv 198 (.t 5)),(.len 199 (.t 198)),(.ia 200 1 (.t 197) (.t 199)),(.ld 201 false 1 (.t 200)),(.bin 202 .eql (.t 201) (.k (I 0))),(.mv 203 (.t 202))]⟩,⟨(some (203,true)),[(.mv 204 (.t 21)),(.mv 205 (.t 5)),(.len 206 (.t 205)),(.bin 207 .add (.t 206) (.k (I 1))),(.ia 208 1 (.t 204) (.t 207)),(.ld 209 false 1 (.t 208)),(.bin 210 .eql (.t 209) (.k (I 0)))]⟩,⟨none,[(.pick 211 (.t 203) (.t 210) (.k (B false))),(.mv 212 (.t 211))]⟩,⟨(some (212,true)),[(.ld 213 true 5 (.t 9)),(.ld 214 true 5 (.t 20)),(.call 215 28 [(.t 213),(.t 214)])]⟩,⟨none,[(.pick 216 (.t 212) (.t 215) (.k (B false))),(.mv 217 (.t 216))]⟩,⟨(some (217,true)),[(.call 218 18 [])]⟩,⟨none,[(.pick 219 (.t 217) (.t 218) (.k (B false))),(.mv 4 (.t 219))]⟩] [4]) .ret)) ⟨fr,.cells (dyC D)::o1::o2 :: .cells (dyC (qku Z))::r⟩ (qfB [4] (Out (B true))):=by
  intro xs fr u v o1 o2 r hfr
  rcases hfr with rfl | rfl
  all_goals
   by_cases hk0:k=[]
   · have hb : (k == []) = true := by rw [beq_iff_eq]; exact hk0
     rw [b3 hk0] at zZ
     refine zV ?_
     simp -implicitDefEqProofs (disch:=omega)[qb,hb,hk0,zZ,kZ,qwB]
     refine qg (ys:=[]) (ids:=[]) rfl qqz ?_
     simp -implicitDefEqProofs (disch:=omega)[qb,AV.scalar]
   · have hb : (k == []) = false := by rw [beq_eq_false_iff_ne]; exact hk0
     obtain ⟨u1,u2,u3⟩:=b4 hk0
     rw [u1] at zZ
     rw [u2] at zZ'
     refine zV ?_
     simp -implicitDefEqProofs (disch:=omega)[qb,hb,hk0]
     refine zV ?_
     simp -implicitDefEqProofs (disch:=omega)[qb,zZ,zZ',kZ,kZ',qwB,ix,qf,dyC]
     simp only [ed,edZ]
     rw [u3]
     refine qg (ys:=[DyV D,DyV D]) (ids:=[]) rfl (qeZ D D dI.s) ?_
     rw [hsd]
     simp -implicitDefEqProofs (disch:=omega)[qb,AV.scalar]
     refine qg (ys:=[]) (ids:=[]) rfl qqz ?_
     simp -implicitDefEqProofs (disch:=omega)[qb,AV.scalar]
     refine qnu ?_
     simp -implicitDefEqProofs (disch:=omega)[qb]
 refine zV ?_
 simp -implicitDefEqProofs (disch:=omega)[qb,q1,q2,q3,ix]
 have el:[I (zd t).kind,S (zd t).name,Wds (zd t).words,I (zd t).num]=lnC (zd t):=rfl
 refine zV ?_
 simp -implicitDefEqProofs (disch:=omega)[qb]
 refine qg (ys:=[S t]) (ids:=[]) rfl (qw8 t (by omega)) ?_
 simp -implicitDefEqProofs (disch:=omega)[qb,AV.scalar,lnC]
 simp only [el]
 refine zV ?_
 simp -implicitDefEqProofs (disch:=omega)[qb,zX,kX,qwB]
 have key:∀ {P:Prop},((jc t != 0)=false→(0:Nat)=0→P)→((jc t != 0)=true→(e' != jc t)=false→P)→P:=by
  intro P p1 p2
  by_cases hp:jc t=0
  · exact p1 (by rw [hp];rfl) rfl
  · exact p2 (by rw [bne_iff_ne];exact hp) (by rw [a3 hp];exact bne_self_eq_false _)
 refine key (fun u1 u2=>?_) (fun u1 u2=>?_)
 all_goals
  refine zV ?_
  simp -implicitDefEqProofs (disch:=omega)[qb,u1,u2]
  by_cases he:e'=0
  case neg =>
   have hb:(e' != 0)=true:=by rw [bne_iff_ne];exact he
   refine zV ?_
   simp -implicitDefEqProofs (disch:=omega)[qb,hb,qf,dyC]
   simp only [ed,edX,edY,edZ]
   rw [a4 he]
   refine qg (ys:=[DyV D,DyV D]) (ids:=[]) rfl (qeZ D D dI.s) ?_
   rw [hsd]
   simp -implicitDefEqProofs (disch:=omega)[qb,AV.scalar]
   exact fin _ _ .any .any _ _ _ (.inl rfl)
  have hb:(e' != 0)=false:=by rw [he];rfl
  by_cases h5:(zd t).kind=5
  · have g5 : ((zd t).kind != 5) = false := by rw [h5]; rfl
    refine zV ?_
    simp -implicitDefEqProofs (disch:=omega)[qb,hb,lnC,g5]
    simp only [el]
    exact fin _ _ _ _ _ _ _ (.inr rfl)
  have g5:((zd t).kind != 5)=true:=by rw [bne_iff_ne];exact h5
  by_cases h6:(zd t).kind=6
  · have g6 : ((zd t).kind != 6) = false := by rw [h6]; rfl
    refine zV ?_
    simp -implicitDefEqProofs (disch:=omega)[qb,hb,lnC,g5,g6]
    simp only [el]
    exact fin _ _ _ _ _ _ _ (.inr rfl)
  have g6:((zd t).kind != 6)=true:=by rw [bne_iff_ne];exact h6
  have zY:=qw3 (hYm' he h5 h6)
  obtain ⟨-,a7d⟩:=a7 he h5 h6
  refine zV ?_
  simp -implicitDefEqProofs (disch:=omega)[qb,hb,lnC,g5,g6,zY,kY',qwB,ix,qf,dyC]
  simp only [ed,edX,edY,edZ,el]
  rw [a7d]
  refine qg (ys:=[DyV D,DyV D]) (ids:=[]) rfl (qeZ D D dI.s) ?_
  rw [hsd]
  simp -implicitDefEqProofs (disch:=omega)[qb,AV.scalar]
  exact fin _ _ .any .any _ _ _ (.inl rfl)
end Go.AM
