/-
  KxL2: texts joined: FmNR Ns2 Ns3 Ns4 Ns5 Ns6 Ns13 FmNL Lx7. Own work.
-/
import Derived.Test.YtopelhnmgjkneaaGreatDoorKxL1
import Derived.Test.YtopelhnmgjkneaaGreatDoorProg
set_option linter.all false
set_option linter.unusedSimpArgs false
set_option linter.unusedVariables false
set_option linter.unusedSectionVars false

set_option maxRecDepth 100000
set_option maxHeartbeats 0
namespace Go.AM
open Go.RowKit Go.Proofs
def qwr:AC:=Subtype.val (p:=fun g=>qo Tryz.prog Tryz.f20 [2,3]=some g) (by refine ⟨?g,?h⟩;case h=>conv=>lhs;reduce;simp only[qwo,qwp,UInt8.reduceOfNat,Int.reduceOfNat,Int.reduceNegSucc])
theorem qwN:qo Tryz.prog Tryz.f20 [2,3]=some qwr:=by kernel_rfl
theorem qwR:ZR Tryz.prog Tryz.f20.results.toList=some [(2,some (true,4)),(3,none)]:=by kernel_rfl
def qwL:AC:=Subtype.val (p:=fun g=>qo Tryz.prog Tryz.f22 [2,3]=some g) (by refine ⟨?g,?h⟩;case h=>conv=>lhs;reduce)
theorem qwO:qo Tryz.prog Tryz.f22 [2,3]=some qwL:=by kernel_rfl
def qwx:AC:=(.seq (.rgn [⟨none,[.box 2 4 (.t 0),.box 3 4 (.t 1),.mv 4 (.k (B false))]⟩] [2,3]) (.seq (.seq (.rgn [⟨none,[.fa 6 (.t 2) 0,.ld 7 false 1 (.t 6),.fa 8 (.t 3) 0,.ld 9 false 1 (.t 8),.bin 10 .neq (.t 7) (.t 9),.mv 11 (.t 10)]⟩,⟨some (11,false),[.fa 12 (.t 2) 1,.ld 13 false 1 (.t 12),.fa 14 (.t 3) 1,.ld 15 false 1 (.t 14),.bin 16 .neq (.t 13) (.t 15)]⟩,⟨none,[.pick 17 (.t 11) (.k (B true)) (.t 16),.mv 18 (.t 17)]⟩,⟨some (18,false),[.fa 19 (.t 2) 3,.ld 20 false 1 (.t 19),.fa 21 (.t 3) 3,.ld 22 false 1 (.t 21),.bin 23 .neq (.t 20) (.t 22)]⟩,⟨none,[.pick 24 (.t 18) (.k (B true)) (.t 23),.mv 25 (.t 24)]⟩,⟨some (25,false),[.fa 26 (.t 2) 2,.ld 27 false 1 (.t 26),.len 28 (.t 27),.fa 29 (.t 3) 2,.ld 30 false 1 (.t 29),.len 31 (.t 30),.bin 32 .neq (.t 28) (.t 31)]⟩,⟨none,[.pick 33 (.t 25) (.k (B true)) (.t 32)]⟩] [2,3,33]) (.cond (.t 33) (.seq (.rgn [⟨none,[.mv 4 (.k (B false))]⟩] [4]) .ret) .skip)) (.seq (.seq (.rgn [⟨none,[.mv 5 (.k (I 0))]⟩] [2,3,5]) (.block 0 (.loop (.seq (.seq (.rgn [⟨none,[.mv 34 (.t 5),.fa 35 (.t 2) 2,.ld 36 false 1 (.t 35),.len 37 (.t 36),.bin 38 .lss (.t 34) (.t 37)]⟩] [2,3,5,38]) (.cond (.t 38) .skip (.exit 0))) (.seq (.block 1 (.seq (.drw [⟨none,[.fa 41 (.t 2) 2,.ld 42 false 1 (.t 41),.mv 43 (.t 5),.ia 44 3 (.t 42) (.t 43),.ld 45 true 3 (.t 44),.fa 46 (.t 3) 2,.ld 47 false 1 (.t 46),.mv 48 (.t 5),.ia 49 3 (.t 47) (.t 48),.ld 50 true 3 (.t 49),.eqk 51 true (true,[.int,.str,.int]) (.t 45) (.t 50)]⟩] [(1,6),(4,6),(1,9),(4,9)] [2,3,5,51]) (.cond (.t 51) (.seq (.rgn [⟨none,[.mv 4 (.k (B false))]⟩] [4]) .ret) .skip))) (.rgn [⟨none,[.mv 39 (.t 5),.bin 40 .add (.t 39) (.k (I 1)),.mv 5 (.t 40)]⟩] [2,3,5])))))) (.seq (.rgn [⟨none,[.mv 4 (.k (B true))]⟩] [4]) .ret))))
theorem qwA:qo Tryz.prog Tryz.f23 [4]=some qwx:=by kernel_rfl
def qwM:AC:=Subtype.val (p:=fun g=>qo Tryz.prog Tryz.f59 [2]=some g) (by refine ⟨?g,?h⟩;case h=>conv=>lhs;reduce)
theorem qwP:qo Tryz.prog Tryz.f59 [2]=some qwM:=by kernel_rfl
def qwG:AC:=Subtype.val (p:=fun g=>qo Tryz.prog Tryz.f61 [6,7]=some g) (by refine ⟨?g,?h⟩;case h=>conv=>lhs;reduce)
theorem qwK:qo Tryz.prog Tryz.f61 [6,7]=some qwG:=by kernel_rfl
def qwY:AC:=Subtype.val (p:=fun g=>qo Tryz.prog Tryz.f62 [2,3]=some g) (by refine ⟨?g,?h⟩;case h=>conv=>lhs;reduce)
theorem qwU:qo Tryz.prog Tryz.f62 [2,3]=some qwY:=by kernel_rfl
theorem qwX:ZR Tryz.prog Tryz.f62.results.toList=some [(2,some (true,3)),(3,none)]:=by kernel_rfl
def qwF:AC:=Subtype.val (p:=fun g=>qo Tryz.prog Tryz.f66 [2]=some g) (by refine ⟨?g,?h⟩;case h=>conv=>lhs;reduce;simp only[qwo,qwp,UInt8.reduceOfNat,Int.reduceOfNat,Int.reduceNegSucc])
theorem qwJ:qo Tryz.prog Tryz.f66 [2]=some qwF:=by kernel_rfl
def qww:AC:=Subtype.val (p:=fun g=>qo Tryz.prog Tryz.f112 [2]=some g) (by refine ⟨?g,?h⟩;case h=>conv=>lhs;reduce)
theorem qwu:qo Tryz.prog Tryz.f112 [2]=some qww:=by kernel_rfl
def qwz:AC:=Subtype.val (p:=fun g=>qo Tryz.prog Tryz.f113 [2]=some g) (by refine ⟨?g,?h⟩;case h=>conv=>lhs;reduce;simp only[qwo,qwp,UInt8.reduceOfNat,Int.reduceOfNat,Int.reduceNegSucc])
theorem qwD:qo Tryz.prog Tryz.f113 [2]=some qwz:=by kernel_rfl
theorem qw0 (a b:Nat):(a:Int).tmod b=((a % b:Nat):Int):=by rw [Int.tmod_eq_emod_of_nonneg (by omega)];rfl
theorem qxb (a b:Nat):(a:Int).tdiv b=((a / b:Nat):Int):=by rw [Int.tdiv_eq_ediv_of_nonneg (by omega)];rfl
theorem qwB:∀ (k n:Nat),k≤18→n<10 ^ (k+1)→qC Tryz.prog 112 [I (n:Int)] (S (X0 n)):=by
 intro k
 induction k with
 | zero =>
   intro n hk hn
   have hn:n<10:=by simpa using hn
   have e1:((n:Int).tmod 10)=(n:Int):=by rw [show (10:Int)=((10:Nat):Int) from rfl,qw0 n 10,Nat.mod_eq_of_lt hn]
   have e2:UInt8.ofNat (48+(n:Int)).toNat=UInt8.ofNat (48+n):=by congr 1
   have e3:decide ((n:Int)<10)=true:=by simp;omega
   refine qT (walk Tryz.func112 qwu (by kernel_rfl) (by show 1≤_;decide) ?_)
   simp -implicitDefEqProofs (disch:=omega)[qww,qb,qgP,e1]
   refine zq (ys:=[U (48+n)]) (ids:=[]) rfl rfl ?_
   simp -implicitDefEqProofs (disch:=omega)[qb,qgP,e1,zP,e3,qqV,e2]
   rw [ZY hn];simp
 | succ k ih =>
   intro n hk hn
   have m10:n % 10<10:=Nat.mod_lt _ (by decide)
   have e1:((n:Int).tmod 10)=((n % 10:Nat):Int):=by rw [show (10:Int)=((10:Nat):Int) from rfl,qw0 n 10]
   have e4:((n:Int).tdiv 10)=((n / 10:Nat):Int):=by rw [show (10:Int)=((10:Nat):Int) from rfl,qxb n 10]
   have e2:UInt8.ofNat (48+((n % 10:Nat):Int)).toNat=UInt8.ofNat (48+n % 10):=by congr 1
   have h18:10 ^ (k+1+1)≤10 ^ 19:=Nat.pow_le_pow_right (by decide) (by omega)
   have e18:(10:Nat) ^ 19=10000000000000000000:=by decide
   have hq:n / 10<10 ^ (k+1):=by rw [Nat.pow_succ] at hn;omega
   have hl:=j8 k (n / 10) hq
   generalize hq10:n / 10=q at *
   generalize hr10:n % 10=r at *
   refine qT (walk Tryz.func112 qwu (by kernel_rfl) (by show 1≤_;decide) ?_)
   simp -implicitDefEqProofs (disch:=omega)[qww,qb,qgP,e1]
   refine zq (ys:=[U (48+r)]) (ids:=[]) rfl rfl ?_
   simp -implicitDefEqProofs (disch:=omega)[qb,qgP,e1,zP,e2]
   refine qP (fun hc=>?_) (fun hc=>?_)
   · have hc : n < 10 := by simp at hc; omega
     simp -implicitDefEqProofs (disch:=omega)[qb]
     rw [ZY hc]
     rw [show r=n by omega];simp
   · have hc : ¬ n < 10 := by simp at hc; omega
     simp -implicitDefEqProofs (disch:=omega)[qb,e4]
     refine qg rfl (ih q (by omega) hq) ?_
     simp -implicitDefEqProofs (disch:=omega)[qb,e4]
     rw [Z5 (by simp;omega)]
     simp -implicitDefEqProofs (disch:=omega)[qb]
     rw [Jq hc,hq10,hr10];simp
def qxa (s:List UInt8):Int:=if qnx s then (Vq s:Int) else 0
theorem qwC (s:List UInt8) (lo hi:Int) (hs:s.length≤1000000):qC Tryz.prog 61 [S s, I lo, I hi] (.tup [I (qxa s), B (qaB s lo hi)]):=by
 have hN:qnx s=false→qaB s lo hi=false∧qxa s=0:=fun h=>by simp [qaB,qxa,h]
 refine qT (walk Tryz.func61 qwK (by kernel_rfl) (by show 3≤_;decide) ?_)
 simp -implicitDefEqProofs (disch:=omega)[qwG,qb]
 cases s with
 | nil =>
   have:=hN rfl
   rw [this.1,this.2]
   simp -implicitDefEqProofs (disch:=omega)[qb]
   exact qnH (is:=[]) rfl
 | cons c r =>
   simp only [List.length_cons] at hs
   have l1:((r.length:Int)+1<1)=False:=by simp only [eq_iff_iff,iff_false];omega
   have hb:=UInt8.toNat_lt c
   by_cases h1:r.length≤12
   case neg =>
    have h1':(13<(r.length:Int)+1)=True:=by simp only [eq_iff_iff,iff_true];omega
    have:=hN (by simp [qnx,h1])
    rw [this.1,this.2]
    simp -implicitDefEqProofs (disch:=omega)[qb,l1,h1,h1']
    exact qnH (is:=[]) rfl
   case pos =>
    have h1':(13<(r.length:Int)+1)=False:=by simp only [eq_iff_iff,iff_false];omega
    cases h2:((c.toNat:Int)==48) with
    | true =>
      have := hN (by have : c.toNat = 48 := by rw [beq_iff_eq] at h2; omega
                     simp [qnx,this])
      rw [this.1,this.2]
      simp -implicitDefEqProofs (disch:=omega)[qb,l1,h1,h1',h2]
      exact qnH (is:=[]) rfl
    | false =>
      have h2':c.toNat≠48:=by rw [beq_eq_false_iff_ne] at h2;omega
      have hC:qnx (c::r)=(c::r).all qfQ:=by simp [qnx,h1,h2']
      simp -implicitDefEqProofs (disch:=omega)[qb,l1,h1,h1',h2]
      have hl:(c::r).length≤13:=by simp;omega
      generalize c::r=s at *
      refine qO (fun i:Nat=>⟨[(0,S s),(1,I lo),(2,I hi),(8,I ((Vq (s.take i):Nat):Int)),(9,I (i:Int))],[]⟩) (fun i=>i≤s.length∧(s.take i).all qfQ=true) (fun i=>s.length - i) 0 ⟨Nat.zero_le _,rfl⟩ rfl ?_
      rintro i ⟨c1,c2⟩
      refine qW fun K0 hK0=>?_
      simp -implicitDefEqProofs (disch:=omega)[qb]
      refine qP (fun hc=>?_) (fun hc=>?_)
      · have hi : i < s.length := by simp at hc; omega
        have ix:((i:Int)+1)=((i+1:Nat):Int):=by omega
        have hb:=UInt8.toNat_lt s[i]
        have hv:=qjz (acc:=0) c2
        have h10:(10:Nat) ^ (s.take i).length≤10 ^ 12:=Nat.pow_le_pow_right (by decide) (by rw [List.length_take];omega)
        have e12:(10:Nat) ^ 12=1000000000000:=by decide
        have hv2:Vq (s.take i)<1000000000000:=by unfold Vq;omega
        have hstep:Vq (s.take (i+1))=Vq (s.take i)*10+(s[i].toNat - 48):=by
         rw [List.take_succ_eq_append_getElem hi]
         unfold Vq;rw [qcz];rfl
        have hd:qfQ s[i]=(decide (48≤s[i].toNat)&&decide (s[i].toNat≤57)):=rfl
        have hm:qnx s=true→qfQ s[i]=true:=fun h=>List.all_eq_true.1 (qfI h).2.1 _ (List.getElem_mem hi)
        simp -implicitDefEqProofs (disch:=omega)[qb,hi]
        by_cases a1:48≤s[i].toNat
        case neg =>
         have a1':((s[i].toNat:Int)<48)=True:=by simp only [eq_iff_iff,iff_true];omega
         have := hN (by
          cases h:qnx s with
          | false=>rfl
          | true=>have:=hm h;rw [hd] at this;simp [a1] at this)
         rw [hK0,this.1,this.2]
         simp -implicitDefEqProofs (disch:=omega)[qb,a1,a1']
         exact qnH (is:=[]) rfl
        case pos =>
         have a1':((s[i].toNat:Int)<48)=False:=by simp only [eq_iff_iff,iff_false];omega
         by_cases a2:s[i].toNat≤57
         case neg =>
          have a2':(57<(s[i].toNat:Int))=True:=by simp only [eq_iff_iff,iff_true];omega
          have := hN (by
           cases h:qnx s with
           | false=>rfl
           | true=>have:=hm h;rw [hd] at this;simp [a1,a2] at this)
          rw [hK0,this.1,this.2]
          simp -implicitDefEqProofs (disch:=omega)[qb,a1,a1',a2,a2',hi]
          exact qnH (is:=[]) rfl
         case pos =>
          have a2':(57<(s[i].toNat:Int))=False:=by simp only [eq_iff_iff,iff_false];omega
          simp -implicitDefEqProofs (disch:=omega)[qb,a1,a1',a2,a2',hi,qgP]
          rw [hK0]
          refine qz (i+1) ⟨by omega,?_⟩ (by omega) ?_
          · rw [List.take_succ_eq_append_getElem hi,List.all_append,c2]
            simp [hd,a1,a2]
          · have : (10 * ((Vq (s.take i) : Nat) : Int) + ((s[i].toNat : Int) - 48)) = ((Vq (s.take (i + 1)) : Nat) : Int) := by rw [hstep]; omega
            simp only [ix,this]
      · have hi : i = s.length := by simp at hc; omega
        subst hi
        rw [List.take_length] at c2
        subst hK0
        have hcan:qnx s=true:=by rw [hC,c2]
        simp -implicitDefEqProofs (disch:=omega)[qb,List.take_length]
        have hV:qxa s=(Vq s:Int):=by simp [qxa,hcan]
        have hK:qaB s lo hi=(decide (lo≤(Vq s:Int))&&decide ((Vq s:Int)≤hi)):=by simp [qaB,hcan]
        rw [hV,hK]
        by_cases a1:lo≤(Vq s:Int)
        · simp -implicitDefEqProofs (disch := omega) [qb,a1]
          exact qnH (is:=[]) rfl
        · simp -implicitDefEqProofs (disch := omega) [qb,a1]
          exact qnH (is:=[]) rfl
theorem qw4 {hp x} {l:List (List UInt8)} (h:AccG hp x 1 l.length (fl WJ l)):qi7 (qqK l) x hp:=by
 obtain ⟨ids,h1,_⟩:=h.pur
 exact qG h1 .slf
theorem qwZ {s:List UInt8} {fr i:Nat} (h:fr≤i) (hi:i<s.length):s.drop fr=(s.drop fr).take (i - fr)++s[i]::s.drop (i+1):=by
 conv=>lhs;rw [←List.take_append_drop (i - fr) (s.drop fr)]
 rw [List.drop_drop,show fr+(i - fr)=i by omega,List.drop_eq_getElem_cons hi]
theorem WdJ.word {s i fr acc} (h:WdJ s i fr acc) (hi:i<s.length) (hb:s[i]=32):WdJ s (i+1) (i+1) (acc++[(s.drop fr).take (i - fr)]) :=
 ⟨Nat.le_refl _,hi,by simp,by
  have e1:qM 32 (s.drop fr)=(s.drop fr).take (i - fr)::qM 32 (s.drop (i+1)):=by
   conv=>lhs;rw [qwZ h.le hi,hb,qfs h.no]
  rw [h.sp,e1]
  simp,by have:=h.ln;have:=h.le;simp;omega⟩
theorem qw3 (s:List UInt8) (hs:s.length≤1000000):qC Tryz.prog 59 [S s] (qqK (qM 32 s)):=by
 refine zO (walk Tryz.func59 qwP (by kernel_rfl) (by show 1≤_;decide) ?_)
 simp -implicitDefEqProofs (disch:=omega)[qwM,qb]
 refine qkg (fun q : Nat × Nat × List (List UInt8) × AV × List HObj => ⟨[(0,S s),(3,q.2.2.2.1),(4,I (q.2.1 : Int)),(5,I (q.1 : Int))],q.2.2.2.2⟩)
  (fun q=>(WdJ s q.1 q.2.1 q.2.2.1∨q.1=s.length+1∧q.2.2.1=qM 32 s)∧q.2.2.1.length≤1000001∧AccG q.2.2.2.2 q.2.2.2.1 1 q.2.2.1.length (fl WJ q.2.2.1)) (fun q=>s.length+1 - q.1) (0,0,[],.sl true 0 [],[]) ⟨.inl (.zero s),Nat.zero_le _,.nil⟩ (St.le.rfl' _) ?_
 rintro ⟨i,fr,acc,x,H⟩ ⟨c1,c2,c3⟩
 simp only at c1 c2 c3 ⊢
 refine qW fun K0 hK0=>?_
 simp -implicitDefEqProofs (disch:=omega)[qb]
 refine qP (fun hc=>?_) (fun hc=>?_)
 · have hi : i ≤ s.length := by simp at hc; omega
   have ix:((i:Int)+1)=((i+1:Nat):Int):=by omega
   have J:WdJ s i fr acc:=by
    rcases c1 with h | ⟨h,_⟩
    · exact h
    · omega
   have hle:=J.le
   have hln:=J.ln
   by_cases hl:i=s.length
   case pos =>
    subst hl
    simp -implicitDefEqProofs (disch:=omega)[qb]
    refine zq (ys:=[S ((s.drop fr).take (s.length - fr))]) (ids:=[]) rfl rfl ?_
    simp -implicitDefEqProofs (disch:=omega)[qb,zP]
    refine Q5 (ys:=[S ((s.drop fr).take (s.length - fr))]) c3 (by omega) (by decide) rfl rfl fun ws w1 w2 w3=>?_
    simp -implicitDefEqProofs (disch:=omega)[qb,zP]
    rw [hK0]
    have e:=J.last
    refine qz (s.length+1,s.length+1,acc++[(s.drop fr).take (s.length - fr)],.ms H.length 0 (acc.length+1) 1,qH H ws) ⟨.inr ⟨rfl,e.symm⟩,by simp;omega,?_⟩ (by simp only;omega) (by simp only [ix])
    simp only [List.length_append,List.length_singleton,jr]
    exact w3
   case neg =>
    have hlt:i<s.length:=by omega
    have hne:((i:Int)==(s.length:Int))=false:=by rw [beq_eq_false_iff_ne];omega
    simp -implicitDefEqProofs (disch:=omega)[qb,hne,hlt]
    cases hb:((s[i].toNat:Int)==32) with
    | true =>
      have hb':s[i]=32:=by rw [beq_iff_eq] at hb;exact UInt8.toNat_inj.1 (by show s[i].toNat=32;omega)
      simp -implicitDefEqProofs (disch:=omega)[qb]
      refine zq (ys:=[S ((s.drop fr).take (i - fr))]) (ids:=[]) rfl rfl ?_
      simp -implicitDefEqProofs (disch:=omega)[qb,zP]
      refine Q5 (ys:=[S ((s.drop fr).take (i - fr))]) c3 (by omega) (by decide) rfl rfl fun ws w1 w2 w3=>?_
      simp -implicitDefEqProofs (disch:=omega)[qb,zP]
      rw [hK0]
      refine qz (i+1,i+1,acc++[(s.drop fr).take (i - fr)],.ms H.length 0 (acc.length+1) 1,qH H ws) ⟨.inl (J.word hlt hb'),by simp;omega,?_⟩ (by simp only;omega) (by simp only [ix])
      simp only [List.length_append,List.length_singleton,jr]
      exact w3
    | false =>
      have hb':s[i]≠32:=by rw [beq_eq_false_iff_ne] at hb;exact fun e=>hb (by rw [e];rfl)
      simp -implicitDefEqProofs (disch:=omega)[qb]
      rw [hK0]
      exact qz (i+1,fr,acc,x,H) ⟨.inl (J.step hlt hb'),c2,c3⟩ (by simp only;omega) (by simp only [ix])
 · have hi : ¬ i ≤ s.length := by simp at hc; omega
   have e:acc=qM 32 s:=by
    rcases c1 with h | ⟨_,h⟩
    · exact absurd h.li hi
    · exact h
   subst hK0
   subst e
   simp -implicitDefEqProofs (disch:=omega)[qb]
   exact qw4 c3
structure StarP (s a:List UInt8) (t:Option (List UInt8)):Prop where
 cut:JX 42 s=(a,t)
 le:a.length≤s.length
 no:∀ j (h:j<a.length) (h':j<s.length),s[j]≠42
 at':∀ h:a.length<s.length,s[a.length]=42∧t=some (s.drop (a.length+1))
 eq:¬ a.length<s.length→t=none
 tk:s.take a.length=a
theorem qxd (s:List UInt8):∃ a t,StarP s a t:=by
 rcases qbM 42 s with ⟨a,h1,rfl,h3⟩ | ⟨a,r,h1,rfl,h3⟩
 · exact ⟨s,none,h3,Nat.le_refl _,fun j h h'=>h1 _ (List.getElem_mem h),fun h=>absurd h (Nat.lt_irrefl _),fun _=>rfl,List.take_length⟩
 · refine ⟨a,some r,h3,by simp,fun j h h' => ?_,fun h => ⟨?_,?_⟩,fun h => absurd (by simp) h,by simp⟩
   · rw [List.getElem_append_left h];exact h1 _ (List.getElem_mem h)
   · rw [List.getElem_append_right (Nat.le_refl _)];simp
   · rw [←List.drop_drop];simp
theorem qw7 (s:List UInt8) (hs:s.length≤1000000):qC Tryz.prog 62 [S s] (.tup [.agg (wdC (jX s).1),B (jX s).2]):=by
 obtain ⟨a,t,hp⟩:=qxd s
 have hW : jX s = (match JA t with
  | none=>((0,[],0),false)
  | some k=>match qbI a with
    | some c=>((c,[],k),true)
    | none=>((0,a,k),QW a)):=by unfold jX;rw [hp.cut];rfl
 have hle:=hp.le
 refine qT (zj Tryz.func62 qwU qwX (by show 1≤_;decide) ?_)
 simp -implicitDefEqProofs (disch:=omega)[qwY,qb]
 refine qO (fun i:Nat=>⟨[(0,S s),(2,.ref 0 0),(4,I ((if i≤a.length then s.length else a.length:Nat):Int)),(5,I (i:Int))],[.cells [U 0,S [],I 0]]⟩) (fun i=>i≤s.length) (fun i=>s.length - i) 0 (Nat.zero_le _) (by simp) ?_
 intro i c1
 refine qW fun K0 hK0=>?_
 simp -implicitDefEqProofs (disch:=omega)[qb]
 refine qP (fun hc=>?_) (fun hc=>?_)
 · have hi : i < s.length := by simp at hc; omega
   have ix:((i:Int)+1)=((i+1:Nat):Int):=by omega
   simp -implicitDefEqProofs (disch:=omega)[qb,hi]
   by_cases hb:s[i]=42
   · have e1 : ((s[i].toNat : Int) == 42) = true := by rw [hb]; rfl
     have hge:a.length≤i:=Nat.le_of_not_lt fun h=>hp.no i h hi hb
     by_cases hia:i=a.length
     · have e2 : (if i ≤ a.length then s.length else a.length) = s.length := if_pos (by omega)
       have e3:(if i+1≤a.length then s.length else a.length)=i:=by rw [if_neg (by omega)];exact hia.symm
       rw [e2]
       simp -implicitDefEqProofs (disch:=omega)[qb,e1]
       rw [hK0]
       exact qz (i+1) (by omega) (by omega) (by simp only [ix,e3])
     · have e2 : (if i ≤ a.length then s.length else a.length) = a.length := if_neg (by omega)
       have e3:(if i+1≤a.length then s.length else a.length)=a.length:=if_neg (by omega)
       have e4:((a.length:Int)==(s.length:Int))=false:=by rw [beq_eq_false_iff_ne];omega
       rw [e2]
       simp -implicitDefEqProofs (disch:=omega)[qb,e1,e4]
       rw [hK0]
       exact qz (i+1) (by omega) (by omega) (by simp only [ix,e3])
   · have e1:((s[i].toNat:Int)==42)=false:=by
      rw [beq_eq_false_iff_ne];intro h;exact hb (UInt8.toNat_inj.1 (by show s[i].toNat=42;omega))
     have hne : i ≠ a.length := fun h => by
      subst h
      exact hb (hp.at' hi).1
     have e3:(if i+1≤a.length then s.length else a.length)=(if i≤a.length then s.length else a.length):=by
      by_cases h:i+1≤a.length
      · rw [if_pos h,if_pos (by omega)]
      · rw [if_neg h,if_neg (by omega)]
     simp -implicitDefEqProofs (disch:=omega)[qb,e1]
     rw [hK0]
     exact qz (i+1) (by omega) (by omega) (by simp only [ix,e3])
 · have hi : i = s.length := by simp at hc; omega
   subst hi
   subst hK0
   have e2:(if s.length≤a.length then s.length else a.length)=a.length:=by
    by_cases h:s.length≤a.length
    · rw [if_pos h];omega
    · rw [if_neg h]
   rw [e2]
   have tkn:List.take (a.length:Int).toNat s=a:=by rw [Int.toNat_natCast];exact hp.tk
   have nm:=qgu a (by omega)
   by_cases hlt:a.length<s.length
   case' neg =>
    have hte:=hp.eq hlt
    subst hte
    have hlt':((a.length:Int)<(s.length:Int))=False:=by simp only [eq_iff_iff,iff_false];omega
    simp -implicitDefEqProofs (disch:=omega)[qb,hlt,hlt']
    obtain ⟨k,hk⟩:∃ k:Int,JA none=some k:=⟨1,rfl⟩
    have hkv:([AV.v (Value.int .u8 0),AV.v (.string ⟨#[]⟩),I 1]:List AV)=[AV.v (Value.int .u8 0),AV.v (.string ⟨#[]⟩),I k]:=by cases hk;rfl
    rw [hkv]
   case' pos =>
    obtain ⟨hst,hte⟩:=hp.at' hlt
    subst hte
    have hlt':((a.length:Int)<(s.length:Int))=True:=by simp only [eq_iff_iff,iff_true];omega
    have nn:=qwC (s.drop (a.length+1)) 2 1000 (by simp;omega)
    simp -implicitDefEqProofs (disch:=omega)[qb,hlt,hlt']
    refine qg rfl nn ?_
    simp -implicitDefEqProofs (disch:=omega)[qb]
    by_cases hnb:qaB (s.drop (a.length+1)) 2 1000=true
    case neg =>
     have hnb:qaB (s.drop (a.length+1)) 2 1000=false:=by simpa using hnb
     have:jX s=((0,[],0),false):=by rw [hW];simp [JA,hnb]
     rw [this,hnb]
     simp -implicitDefEqProofs (disch:=omega)[qb]
     exact qK (id:=0) (off:=0) (cs:=[U 0,S [],I 0]) rfl rfl (by simp) (qnH (is:=[]) rfl)
    have hcan:qnx (s.drop (a.length+1))=true:=by
     unfold qaB at hnb
     simp only [Bool.and_eq_true] at hnb
     exact hnb.1.1
    obtain ⟨k,hk⟩:∃ k:Int,JA (some (s.drop (a.length+1)))=some k:=⟨_,by simp only [JA,hnb];rfl⟩
    have hkv:qxa (s.drop (a.length+1))=k:=by simp only [JA,hnb,if_true] at hk;cases hk;simp [qxa,hcan]
    rw [hkv,hnb]
    simp -implicitDefEqProofs (disch:=omega)[qb]
   all_goals
    rw [hk] at hW
    by_cases h1:a.length=1
    case pos =>
     obtain ⟨c,rfl⟩:=List.length_eq_one_iff.1 h1
     have hb:=UInt8.toNat_lt c
     have s0:∃ r,s=c::r:=by
      cases s with
      | nil=>simp at hle
      | cons b r=>have:=hp.tk;simp at this;exact ⟨r,by rw [this]⟩
     obtain ⟨r,rfl⟩:=s0
     have l1:1≤(c::r).length:=by simp
     simp only [List.length_cons,List.length_nil] at *
     simp -implicitDefEqProofs (disch:=omega)[qb]
     refine qg rfl (qb7 _) ?_
     rw [qcl]
     cases hl:YN c with
     | true =>
       have:jX (c::r)=(((c.toNat:Int),[],k),true):=by rw [hW];simp [qbI,hl]
       rw [this]
       simp -implicitDefEqProofs (disch:=omega)[qb]
       exact qK (id:=0) (off:=0) (cs:=wdC ((c.toNat:Int),[],k)) rfl rfl (by simp [wdC]) (qnH (is:=[]) rfl)
     | false =>
       have:jX (c::r)=((0,[c],k),QW [c]):=by rw [hW];simp [qbI,hl]
       rw [this]
       simp -implicitDefEqProofs (disch:=omega)[qb]
       try rw [qsq (l:=c::r) (j:=1) (by omega) (by simp;omega)]
       try simp -implicitDefEqProofs (disch:=omega)[qb]
       refine qQ rfl nm ?_
       simp -implicitDefEqProofs (disch:=omega)[qb,zW,zJ,zE]
       exact qK (id:=0) (off:=0) (cs:=wdC (0,[c],k)) rfl rfl (by simp [wdC]) (qnH (is:=[]) rfl)
    case neg =>
     have h1':((a.length:Int)==1)=false:=by rw [beq_eq_false_iff_ne];omega
     have hA:qbI a=none:=by
      rcases a with _ | ⟨c,_ | ⟨d,r⟩⟩
      · rfl
      · simp at h1
      · rfl
     have:jX s=((0,a,k),QW a):=by rw [hW];simp [hA]
     rw [this]
     simp -implicitDefEqProofs (disch:=omega)[qb,h1']
     rw [hp.tk]
     refine qQ rfl nm ?_
     simp -implicitDefEqProofs (disch:=omega)[qb,zW,zJ,zE]
     exact qK (id:=0) (off:=0) (cs:=wdC (0,a,k)) rfl rfl (by simp [wdC]) (qnH (is:=[]) rfl)
def qws:AC:=match qwr with
 | .seq _ (.seq _ (.seq _ (.seq _ (.seq _ t))))=>t
 | x=>x
theorem qwH (k : Int) (nm : List UInt8) (WS : List (List UInt8)) (f : Bool) (hl : WS.length ≤ 1000000) (hw : ∀ w ∈ WS,w.length ≤ 1000000) :
 AWP Tryz.prog (E1 Tryz.prog) qws ⟨[(2,.ref 0 0),(4,qjl f WS),(5,.ref 1 0)],[.cells [I 0,S [],.sl true 0 [],I 0],.cells [I k,S nm,.sl true 0 [],I 0]]⟩
  (qh5 [(2,some (true,4)),(3,none)] (qi7 (.tup [LnV (((zg WS).map fun w=>(⟨k,nm,w,0⟩:Ln)).getD ln0),I (if (zg WS).isSome then 0 else 8)]))):=by
 simp -implicitDefEqProofs (disch:=omega)[qws,qwr,qb]
 refine qO (fun q : Nat × List Wd × AV × List HObj => ⟨[(2,.ref 0 0),(4,qjl f WS),(5,.ref 1 0),(8,I (q.1 : Int))],q.2.2.2⟩)
  (fun q=>q.1≤WS.length∧zg (WS.take q.1)=some q.2.1∧qr q.2.2.2 0=some (.cells [I 0,S [],.sl true 0 [],I 0])∧qr q.2.2.2 1=some (.cells [I k,S nm,q.2.2.1,I 0])∧AccG q.2.2.2 q.2.2.1 3 q.1 (fl wdC q.2.1)∧∀ j,rid q.2.2.1=some j→2≤j)
  (fun q=>WS.length - q.1) (0,[],.sl true 0 [],_) ⟨Nat.zero_le _,rfl,rfl,rfl,.nil,by simp [rid]⟩ rfl ?_
 rintro ⟨i,ws,x,H⟩ ⟨c1,c2,c3,c4,c5,c6⟩
 simp only at c1 c2 c3 c4 c5 c6 ⊢
 refine qW fun K0 hK0=>?_
 simp -implicitDefEqProofs (disch:=omega)[qb]
 refine qP (fun hc=>?_) (fun hc=>?_)
 · have hi : i < WS.length := by simpa using hc
   have ix:((i:Int)+1)=((i+1:Nat):Int):=by omega
   have st:=qgO hi c2
   have hh:=hw _ (List.getElem_mem hi)
   simp -implicitDefEqProofs (disch:=omega)[qb,hi]
   refine qg rfl (qw7 _ hh) ?_
   generalize jX WS[i]=R at *
   obtain ⟨w,ok⟩:=R
   simp only at st
   have l1:=qj c4
   have hn:=Qn (H:=H) (o:=HObj.cells [U w.1,S w.2.1,I w.2.2])
   have d3:qr (H++[HObj.cells [U w.1,S w.2.1,I w.2.2]]) 0=some (.cells [I 0,S [],.sl true 0 [],I 0]):=(qk (by omega)).trans c3
   have d4:qr (H++[HObj.cells [U w.1,S w.2.1,I w.2.2]]) 1=some (.cells [I k,S nm,x,I 0]):=(qk (by omega)).trans c4
   have d5:AccG (H++[HObj.cells [U w.1,S w.2.1,I w.2.2]]) x 3 i (fl wdC ws):=c5.mono fun j hj=>qk (c5.lt hj)
   have d6:∀ j,rid x=some j→j<H.length:=fun j hj=>c5.lt hj
   have d7:(H++[HObj.cells [U w.1,S w.2.1,I w.2.2]]).length=H.length+1:=by simp
   simp -implicitDefEqProofs (disch:=omega)[qb,wdC]
   generalize H++[HObj.cells [U w.1,S w.2.1,I w.2.2]]=H1 at *
   generalize H.length=L at *
   have p0:0<H1.length:=by omega
   have p1:1<H1.length:=by omega
   cases ok with
   | false =>
     have hnone:zg WS=none:=qgN (i:=i+1) (by rw [st];rfl)
     rw [hK0,hnone]
     simp -implicitDefEqProofs (disch:=omega)[qb,d3,qt,p0]
     refine qK (id:=0) (off:=0) (cs:=[I 0,S [],.sl true 0 [],I 0]) rfl (qi (by omega)) (by simp) ?_
     refine qG (r' := .tup [.agg [I 0,S [],.sl true 0 [],I 0],I 8]) (is:=[]) rfl ?_
     exact .tupL (.cons (.aggL (.cons (.refl _) (.cons (.refl _) (.cons .slf (.cons (.refl _) .nil))))) (.cons (.refl _) .nil))
   | true =>
     simp -implicitDefEqProofs (disch:=omega)[qb,d4,qf,hn]
     refine zq (ys:=[.agg (wdC w)]) (ids:=[]) rfl rfl ?_
     simp -implicitDefEqProofs (disch:=omega)[qb,zP,wdC]
     refine Q5 (ys:=wdC w) d5 (by omega) (by decide) rfl rfl fun vs w1 w2 w3=>?_
     have u4:qr (qH H1 vs) 1=some (.cells [I k,S nm,x,I 0]):=(w1 1 (by omega) (fun h=>by have:=c6 1 h;omega)).trans d4
     have u3:qr (qH H1 vs) 0=some (.cells [I 0,S [],.sl true 0 [],I 0]):=(w1 0 (by omega) (fun h=>by have:=c6 0 h;omega)).trans d3
     have p2:1<(qH H1 vs).length:=by omega
     simp -implicitDefEqProofs (disch:=omega)[qb,u4,qt,p2]
     rw [hK0]
     refine qz (i+1,ws++[w],.ms H1.length 0 (i+1) 3,(qH H1 vs).set 1 (.cells [I k,S nm,.ms H1.length 0 (i+1) 3,I 0])) ⟨by simp only;omega,by rw [st];rfl,(qh (by omega)).trans u3,qi (by omega),?_,fun j hj=>?_⟩ (by simp only;omega) (by simp only [ix])
     · rw [jr]
       exact w3.mono fun j hj=>qh (by simp only [rid] at hj;injection hj;omega)
     · simp only [rid] at hj;injection hj;omega
 · have hi : i = WS.length := by simp at hc; omega
   subst hi
   rw [List.take_length] at c2
   subst hK0
   have l1:=qj c4
   rw [c2]
   have p0:0<H.length:=by omega
   simp -implicitDefEqProofs (disch:=omega)[qb,c3,c4,qf,qt,p0]
   refine ⟨by rcases c5 with ⟨rfl,_⟩ | ⟨_,rfl,_⟩ <;> rfl,?_⟩
   refine qK (id:=0) (off:=0) (cs:=[I k,S nm,x,I 0]) rfl (qi p0) (by simp) ?_
   have c7:AccG (H.set 0 (.cells [I k,S nm,x,I 0])) x 3 WS.length (fl wdC ws):=c5.mono fun j hj=>qh (by have:=c6 j hj;omega)
   exact c7.line (YJ c2).symm
theorem qwS {c : UInt8} : ∀ {s : List UInt8},(qM c s).length ≤ s.length + 1 ∧ ∀ w ∈ qM c s,w.length ≤ s.length
 | []=>⟨by simp [qM],by simp [qM]⟩
 | b::r=>by
   obtain ⟨h1,h2⟩:=qwS (c:=c) (s:=r)
   unfold qM
   split
   · refine ⟨by simp; omega,fun w hw => ?_⟩
     rcases List.mem_cons.1 hw with rfl | hw
     · simp
     · have:=h2 w hw;simp;omega
   · split
     · rename_i x xs e
       rw [e] at h1 h2
       refine ⟨by simp at h1 ⊢;omega,fun w hw=>?_⟩
       rcases List.mem_cons.1 hw with rfl | hw
       · have:=h2 x (by simp);simp;omega
       · have:=h2 w (by simp [hw]);simp;omega
     · exact ⟨by simp,fun w hw=>by simp at hw;subst hw;simp⟩
theorem qw8 {s:List UInt8} (hs:s.length≤200):(qM 32 s).length≤1000000∧∀ w∈qM 32 s,w.length≤1000000:=by
 obtain ⟨h1,h2⟩:=qwS (c:=32) (s:=s)
 exact ⟨by omega,fun w hw=>by have:=h2 w hw;omega⟩
theorem qwI (s:List UInt8) (hs:s.length≤1000000):qC Tryz.prog 20 [S s] (.tup [LnV (zd s), I (jc s)]):=by
 refine zO (zj Tryz.func20 qwN qwR (by show 1≤_;decide) ?_)
 have wk0:∀ (e:Int) (H:List HObj),qi7 (.tup [LnV ln0,I e]) (.tup [.agg [I 0,S [],.sl true 0 [],I 0],I e]) H:=fun e H =>
  qG (r' := .tup [.agg [I 0,S [],.sl true 0 [],I 0],I e]) (is:=[]) rfl (.tupL (.cons (.aggL (.cons (.refl _) (.cons (.refl _) (.cons .slf (.cons (.refl _) .nil))))) (.cons (.refl _) .nil)))
 have wk1:∀ (k n e:Int) (H:List HObj),qi7 (.tup [LnV ⟨k,[],[],n⟩,I e]) (.tup [.agg [I k,S [],.sl true 0 [],I n],I e]) H:=fun k n e H =>
  qG (r' := .tup [.agg [I k,S [],.sl true 0 [],I n],I e]) (is:=[]) rfl (.tupL (.cons (.aggL (.cons (.refl _) (.cons (.refl _) (.cons .slf (.cons (.refl _) .nil))))) (.cons (.refl _) .nil)))
 simp -implicitDefEqProofs (disch:=omega)[qwr,qb]
 by_cases h200:s.length≤200
 case neg =>
  have h200':(200<(s.length:Int))=True:=by simp only [eq_iff_iff,iff_true];omega
  have e1:zd s=ln0:=if_neg h200
  have e2:jc s=7:=if_neg h200
  rw [e1,e2]
  simp -implicitDefEqProofs (disch:=omega)[qb,h200']
  exact qK (id:=0) (off:=0) (cs:=[I 0,S [],.sl true 0 [],I 0]) rfl rfl (by simp) (wk0 7 _)
 have h200':(200<(s.length:Int))=False:=by simp only [eq_iff_iff,iff_false];omega
 have e1:zd s=(WY s).getD ln0:=if_pos h200
 have e2:jc s=if (WY s).isSome then 0 else 8:=if_pos h200
 rw [e1,e2]
 simp -implicitDefEqProofs (disch:=omega)[qb,h200']
 refine qg rfl (qw3 s hs) ?_
 have hbath:∀ x xs,qM 32 s=x::xs→xs=[]→s=x:=qch 32 s
 have hpl:WY s=qhF (qM 32 s):=rfl
 have hlen:(qM 32 s).length≤1000000∧∀ w∈qM 32 s,w.length≤1000000:=qw8 h200
 have hjoin:∀ t:List UInt8,(∀ b∈t,b≠32)→s=t→qM 32 s=[t]:=fun t h e=>by rw [e];exact YD h
 rw [hpl]
 obtain ⟨a,l,hL⟩:∃ a l,qM 32 s=a::l:=by
  cases h:qM 32 s with
  | nil=>exact absurd h (Jz _ _)
  | cons a l=>exact ⟨a,l,rfl⟩
 rw [hL] at hlen hbath hjoin ⊢
 obtain ⟨hl1,hl2⟩:=hlen
 simp only [List.length_cons] at hl1
 have ha:=hl2 a (by simp)
 have hl5:∀ w∈l,w.length≤1000000:=fun w hw=>hl2 w (by simp [hw])
 clear hl2
 have hls:((a::l).length:Int)=(l.length:Int)+1:=by simp
 simp -implicitDefEqProofs (disch:=omega)[qb,hls,Qi,WJ]
 by_cases r1:a=Zd
 case pos =>
  subst r1
  simp -implicitDefEqProofs (disch:=omega)[qb,hls,Qi,WJ]
  have fail:∀ l,qhF (Zd::l)=none→((qhF (Zd::l)).getD ln0=ln0∧(if (qhF (Zd::l)).isSome=true then (0:Int) else 8)=8):=fun l h=>by rw [h];exact ⟨rfl,rfl⟩
  rcases l with _ | ⟨n,_ | ⟨w,ws⟩⟩
  · have hn : qhF [Zd] = none := rfl
    rw [(fail _ hn).1,(fail _ hn).2]
    simp -implicitDefEqProofs (disch:=omega)[qb]
    exact qK (id:=0) (off:=0) (cs:=[I 0,S [],.sl true 0 [],I 0]) rfl rfl (by simp) (wk0 8 _)
  · have hn : qhF [Zd,n] = none := by simp [qhF]
    rw [(fail _ hn).1,(fail _ hn).2]
    simp -implicitDefEqProofs (disch:=omega)[qb]
    exact qK (id:=0) (off:=0) (cs:=[I 0,S [],.sl true 0 [],I 0]) rfl rfl (by simp) (wk0 8 _)
  · have hnl := hl5 n (by simp)
    have hl3:∀ x∈w::ws,x.length≤1000000:=fun x hx=>hl5 x (List.mem_cons_of_mem _ hx)
    have hl4:(w::ws).length≤1000000:=by simp at hl1 ⊢;omega
    clear hl5 hl1
    have d3:((ws.length:Int)+1+1+1<3)=False:=by simp only [eq_iff_iff,iff_false];omega
    by_cases h10:ws.length≤7
    case neg =>
     have d10:(10<(ws.length:Int)+1+1+1)=True:=by simp only [eq_iff_iff,iff_true];omega
     have hn:qhF (Zd::n::w::ws)=none:=by simp [qhF,h10]
     rw [(fail _ hn).1,(fail _ hn).2]
     simp -implicitDefEqProofs (disch:=omega)[qb,d3,d10]
     exact qK (id:=0) (off:=0) (cs:=[I 0,S [],.sl true 0 [],I 0]) rfl rfl (by simp) (wk0 8 _)
    case pos =>
     have d10:(10<(ws.length:Int)+1+1+1)=False:=by simp only [eq_iff_iff,iff_false];omega
     simp -implicitDefEqProofs (disch:=omega)[qb,d3,d10,Qi,WJ]
     refine ⟨by omega,?_⟩
     refine qg rfl (qgu n hnl) ?_
     cases hnb:QW n with
     | false =>
       have hn:qhF (Zd::n::w::ws)=none:=by simp [qhF,h10,hnb]
       rw [(fail _ hn).1,(fail _ hn).2]
       simp -implicitDefEqProofs (disch:=omega)[qb]
       exact qK (id:=0) (off:=0) (cs:=[I 0,S [],.sl true 0 [],I 0]) rfl rfl (by simp) (wk0 8 _)
     | true =>
       have hn:qhF (Zd::n::w::ws)=(zg (w::ws)).map fun x=>(⟨1,n,x,0⟩:Ln):=by simp [qhF,h10,hnb]
       have hs':(qhF (Zd::n::w::ws)).isSome=(zg (w::ws)).isSome:=by rw [hn];simp
       rw [hs',hn]
       have t:=qwH 1 n (w::ws) false hl4 hl3
       simp -implicitDefEqProofs (disch:=omega)[qb,Qi,WJ,qk7]
       simp -implicitDefEqProofs (disch:=omega)[qb,Qi,WJ,qk7,qws,qwr] at t
       exact ⟨by omega,by omega,t⟩
 case neg =>
  have n1:(a==Zd)=false:=by rw [beq_eq_false_iff_ne];exact r1
  have fail:∀ l,qhF (a::l)=none→((qhF (a::l)).getD ln0=ln0∧(if (qhF (a::l)).isSome=true then (0:Int) else 8)=8):=fun l h=>by rw [h];exact ⟨rfl,rfl⟩
  by_cases r2:a=tDo
  case pos =>
   subst r2
   simp -implicitDefEqProofs (disch:=omega)[qb,n1]
   rcases l with _ | ⟨w,_ | ⟨x,ws⟩⟩
   · have hn : qhF [tDo] = none := rfl
     rw [(fail _ hn).1,(fail _ hn).2]
     simp -implicitDefEqProofs (disch:=omega)[qb]
     exact qK (id:=0) (off:=0) (cs:=[I 0,S [],.sl true 0 [],I 0]) rfl rfl (by simp) (wk0 8 _)
   · have hn : qhF [tDo,w] = (zg [w]).map fun x => (⟨3,[],x,0⟩ : Ln) := rfl
     have hs':(qhF [tDo,w]).isSome=(zg [w]).isSome:=by rw [hn];simp
     rw [hs',hn]
     have t:=qwH 3 [] [w] false (by simp) (fun x hx=>hl5 x hx)
     simp -implicitDefEqProofs (disch:=omega)[qb,Qi,YY,WJ,qk7]
     simp -implicitDefEqProofs (disch:=omega)[qb,Qi,YY,WJ,qk7,qws,qwr] at t
     exact t
   · have d3 : ((ws.length : Int) + 1 + 1 + 1 != 2) = true := by rw [bne_iff_ne]; omega
     have hn:qhF (tDo::w::x::ws)=none:=rfl
     rw [(fail _ hn).1,(fail _ hn).2]
     simp -implicitDefEqProofs (disch:=omega)[qb,d3]
     exact qK (id:=0) (off:=0) (cs:=[I 0,S [],.sl true 0 [],I 0]) rfl rfl (by simp) (wk0 8 _)
  case neg =>
   have n2:(a==tDo)=false:=by rw [beq_eq_false_iff_ne];exact r2
   by_cases r3:a=qje
   case pos =>
    subst r3
    simp -implicitDefEqProofs (disch:=omega)[qb,n1,n2]
    rcases l with _ | ⟨w,_ | ⟨x,ws⟩⟩
    · have hn : qhF [qje] = none := rfl
      rw [(fail _ hn).1,(fail _ hn).2]
      simp -implicitDefEqProofs (disch:=omega)[qb]
      exact qK (id:=0) (off:=0) (cs:=[I 0,S [],.sl true 0 [],I 0]) rfl rfl (by simp) (wk0 8 _)
    · have hn : qhF [qje,w] = if qaB w 1 QM then some ⟨4,[],[],Vq w⟩ else none := rfl
      have hwl:=hl5 w (by simp)
      simp -implicitDefEqProofs (disch:=omega)[qb,Qi,YY,WJ]
      refine qg rfl (qwC w 1 QM hwl) ?_
      simp -implicitDefEqProofs (disch:=omega)[qb]
      cases hnb:qaB w 1 QM with
      | false =>
        rw [hnb] at hn
        rw [(fail _ hn).1,(fail _ hn).2]
        simp -implicitDefEqProofs (disch:=omega)[qb]
        exact qK (id:=0) (off:=0) (cs:=[I 0,S [],.sl true 0 [],I 0]) rfl rfl (by simp) (wk0 8 _)
      | true =>
        have hcan:qnx w=true:=by
         unfold qaB at hnb
         simp only [Bool.and_eq_true] at hnb
         exact hnb.1.1
        rw [hnb] at hn
        have hv:qxa w=(Vq w:Int):=by simp [qxa,hcan]
        rw [hn,hv]
        simp -implicitDefEqProofs (disch:=omega)[qb]
        exact qK (id:=0) (off:=0) (cs:=[I 4,S [],.sl true 0 [],I (Vq w:Int)]) rfl rfl (by simp) (wk1 _ _ _ _)
    · have d3 : ((ws.length : Int) + 1 + 1 + 1 != 2) = true := by rw [bne_iff_ne]; omega
      have hn:qhF (qje::w::x::ws)=none:=rfl
      rw [(fail _ hn).1,(fail _ hn).2]
      simp -implicitDefEqProofs (disch:=omega)[qb,d3]
      exact qK (id:=0) (off:=0) (cs:=[I 0,S [],.sl true 0 [],I 0]) rfl rfl (by simp) (wk0 8 _)
   case neg =>
    have n3:(a==qje)=false:=by rw [beq_eq_false_iff_ne];exact r3
    have hP:qhF (a::l)=if l=[] then (if a=tBath then some ⟨2,[],[],0⟩ else if a=qdE then some ⟨5,[],[],0⟩ else if a=VX then some ⟨6,[],[],0⟩ else none) else none:=by
     simp only [qhF]
     rw [if_neg r1,if_neg r2,if_neg r3]
    simp -implicitDefEqProofs (disch:=omega)[qb,n1,n2,n3]
    have key:∀ t:List UInt8,(∀ b∈t,b≠32)→(s=t↔a=t∧l=[]):=fun t ht=>⟨fun e=>by have:=hjoin t ht e;cases this;exact ⟨rfl,rfl⟩,fun ⟨h1,h2⟩=>(hbath _ _ rfl h2).trans h1⟩
    by_cases s1:s=tBath
    case pos =>
     have:=(key tBath (by decide)).1 s1
     rw [hP,this.1,this.2,s1]
     simp -implicitDefEqProofs (disch:=omega)[qb]
     exact qK (id:=0) (off:=0) (cs:=[I 2,S [],.sl true 0 [],I 0]) rfl rfl (by simp) (wk1 _ _ _ _)
    case neg =>
     have m1:(s==tBath)=false:=by rw [beq_eq_false_iff_ne];exact s1
     by_cases s2:s=qdE
     case pos =>
      have:=(key qdE (by decide)).1 s2
      rw [hP,this.1,this.2,s2]
      simp -implicitDefEqProofs (disch:=omega)[qb]
      exact qK (id:=0) (off:=0) (cs:=[I 5,S [],.sl true 0 [],I 0]) rfl rfl (by simp) (wk1 _ _ _ _)
     case neg =>
      have m2:(s==qdE)=false:=by rw [beq_eq_false_iff_ne];exact s2
      by_cases s3:s=VX
      case pos =>
       have:=(key VX (by decide)).1 s3
       rw [hP,this.1,this.2,s3]
       simp -implicitDefEqProofs (disch:=omega)[qb]
       exact qK (id:=0) (off:=0) (cs:=[I 6,S [],.sl true 0 [],I 0]) rfl rfl (by simp) (wk1 _ _ _ _)
      case neg =>
       have m3:(s==VX)=false:=by rw [beq_eq_false_iff_ne];exact s3
       have hn:qhF (a::l)=none:=by
        rw [hP]
        by_cases hl:l=[]
        · rw [if_pos hl,if_neg (fun e=>s1 ((key tBath (by decide)).2 ⟨e,hl⟩)),if_neg (fun e=>s2 ((key qdE (by decide)).2 ⟨e,hl⟩)),if_neg (fun e=>s3 ((key VX (by decide)).2 ⟨e,hl⟩))]
        · rw [if_neg hl]
       rw [(fail _ hn).1,(fail _ hn).2]
       simp -implicitDefEqProofs (disch:=omega)[qb,m1,m2,m3]
       exact qK (id:=0) (off:=0) (cs:=[I 0,S [],.sl true 0 [],I 0]) rfl rfl (by simp) (wk0 8 _)
theorem qwQ (w:Wd) (h:WdI w):qC Tryz.prog 113 [.agg (wdC w)] (S (qjf w)):=by
 obtain ⟨c,nm,t⟩:=w
 obtain ⟨⟨h1,h2⟩,h3,h4⟩:=h
 simp only [i64] at h1 h2 h3 h4
 have hd:=qwB 18 (max 0 t).toNat (by decide) (by have e:(10:Nat) ^ (18+1)=10000000000000000000:=(by decide);omega)
 have hdl:=j8 18 (max 0 t).toNat (by have e:(10:Nat) ^ (18+1)=10000000000000000000:=(by decide);omega)
 have em:(((max 0 t).toNat:Nat):Int)=max 0 t:=by omega
 rw [em] at hd
 refine qT (walk Tryz.func113 qwD (by kernel_rfl) (by show 1≤_;decide) ?_)
 simp -implicitDefEqProofs (disch:=omega)[qwz,qb,wdC]
 by_cases hn:nm=[]
 case' pos =>
  subst hn
  simp -implicitDefEqProofs (disch:=omega)[qb,wdC]
  refine zq (ys:=[U c]) (ids:=[]) rfl rfl ?_
  simp -implicitDefEqProofs (disch:=omega)[qb,zP]
  have hw:qjf (c,[],t)=[UInt8.ofNat c.toNat]++(if t=1 then [] else 42::X0 (max 0 t).toNat):=rfl
 case' neg =>
  have hn':nm.isEmpty=false:=by rw [←Bool.not_eq_true,List.isEmpty_iff];exact hn
  simp -implicitDefEqProofs (disch:=omega)[qb,wdC,hn',hn]
  have hw:qjf (c,nm,t)=nm++(if t=1 then [] else 42::X0 (max 0 t).toNat):=by unfold qjf;rw [if_neg hn]
 all_goals
  by_cases ht:t=1
  case pos =>
   subst ht
   rw [hw]
   simp -implicitDefEqProofs (disch:=omega)[qb]
  case neg =>
   have ht':(t==1)=false:=by rw [beq_eq_false_iff_ne];exact ht
   simp -implicitDefEqProofs (disch:=first | omega | (simp only [List.length_append,List.length_cons,List.length_nil];omega)) [qb,ht']
   refine qg rfl hd ?_
   simp -implicitDefEqProofs (disch:=omega)[qb]
   rw [Z5 (by simp only [List.length_append,List.length_cons,List.length_nil];omega)]
   simp -implicitDefEqProofs (disch:=omega)[qb]
   rw [hw,if_neg ht]
   try simp
theorem qw5 {α β:Type} {f:α→List β} {l:List α} {i:Nat} (h:i<l.length):(l.take (i+1)).flatMap f=(l.take i).flatMap f++f l[i]:=by
 rw [List.take_succ_eq_append_getElem h,List.flatMap_append];simp
theorem qwT {l:List Wd} (h:∀ w∈l,WdI w):(l.flatMap fun w=>32::qjf w).length≤l.length*100031:=by
 induction l with
 | nil=>simp
 | cons w l ih =>
   have h1:=qw9 (h w (by simp))
   have h2:=ih fun x hx=>h x (by simp [hx])
   rw [List.flatMap_cons,List.length_append,List.length_cons,List.length_cons,Nat.add_mul]
   omega
theorem qwW (l:Ln) (h:LnI l):qC Tryz.prog 66 [LnV l] (S (qp2 l)):=by
 obtain ⟨k,nm,ws,n⟩:=l
 obtain ⟨h1,h2,h3,h4,h5⟩:=h
 simp only [i64] at h1 h2 h3 h4 h5
 have hd:=qwB 18 (max 0 n).toNat (by decide) (by have e:(10:Nat) ^ (18+1)=10000000000000000000:=(by decide);omega)
 have hdl:=j8 18 (max 0 n).toNat (by have e:(10:Nat) ^ (18+1)=10000000000000000000:=(by decide);omega)
 have em:(((max 0 n).toNat:Nat):Int)=max 0 n:=by omega
 rw [em] at hd
 refine qT (walk Tryz.func66 qwJ (by kernel_rfl) (by show 1≤_;decide) ?_)
 simp -implicitDefEqProofs (disch:=omega)[qwF,qb,lnC]
 by_cases k2:k=2
 case pos=>subst k2;simp -implicitDefEqProofs (disch:=omega)[qb,qp2]
 by_cases k5:k=5
 case pos=>subst k5;simp -implicitDefEqProofs (disch:=omega)[qb,qp2]
 by_cases k6:k=6
 case pos=>subst k6;simp -implicitDefEqProofs (disch:=omega)[qb,qp2]
 have e2:(k==2)=false:=by rw [beq_eq_false_iff_ne];exact k2
 have e5:(k==5)=false:=by rw [beq_eq_false_iff_ne];exact k5
 have e6:(k==6)=false:=by rw [beq_eq_false_iff_ne];exact k6
 by_cases k4:k=4
 case pos =>
  subst k4
  simp -implicitDefEqProofs (disch:=omega)[qb,e2,e5,e6]
  refine qg rfl hd ?_
  simp -implicitDefEqProofs (disch:=omega)[qb]
  rw [Z5 (by simp only [List.length_append,List.length_cons,List.length_nil];omega)]
  simp -implicitDefEqProofs (disch:=omega)[qb,qp2]
 have e4:(k==4)=false:=by rw [beq_eq_false_iff_ne];exact k4
 simp -implicitDefEqProofs (disch:=omega)[qb,e2,e5,e6,e4]
 obtain ⟨hd0,hhd,hhl⟩:∃ hd0:List UInt8,(if k=1 then Zd++32::nm else tDo)=hd0∧hd0.length≤100010:=by
  refine ⟨_,rfl,?_⟩
  split
  · simp;omega
  · simp
 have hst : qp2 ⟨k,nm,ws,n⟩ = hd0 ++ ws.flatMap fun w => 32 :: qjf w := by
  unfold qp2
  rw [if_neg k2,if_neg k5,if_neg k6,if_neg k4,hhd]
 by_cases k1:k=1
 case' pos =>
  have e1:(k==1)=true:=by rw [beq_iff_eq];exact k1
  simp -implicitDefEqProofs (disch:=first | omega | (simp only [List.length_append,List.length_cons,List.length_nil];omega)) [qb,qf,e1]
  rw [if_pos k1] at hhd
  have hhd':[114,101,99,105,112,101,32]++nm=hd0:=hhd
 case' neg =>
  have e1:(k==1)=false:=by rw [beq_eq_false_iff_ne];exact k1
  simp -implicitDefEqProofs (disch:=omega)[qb,e1]
  rw [if_neg k1] at hhd
  have hhd':[100,111]=hd0:=hhd
 all_goals
  refine qO (fun i:Nat=>⟨[(1,.ref 0 0),(3,S (hd0++(ws.take i).flatMap fun w=>32::qjf w)),(4,I (i:Int))],[.cells [I k,S nm,Wds ws,I n]]⟩) (fun i=>i≤ws.length) (fun i=>ws.length - i) 0 (Nat.zero_le _) (by rw [←hhd'];simp) ?_
  intro i c1
  refine qW fun K0 hK0=>?_
  simp -implicitDefEqProofs (disch:=omega)[qb]
  refine qP (fun hc=>?_) (fun hc=>?_)
  · have hi : i < ws.length := by simpa using hc
    have ix:((i:Int)+1)=((i+1:Nat):Int):=by omega
    have hI:=h3 _ (List.getElem_mem hi)
    have l1:=qw9 hI
    have l2:=qwT (l:=ws.take i) fun w hw=>h3 w (List.mem_of_mem_take hw)
    have l3:(ws.take i).length≤100000:=by rw [List.length_take];omega
    have l4:(ws.take i).length*100031≤100000*100031:=Nat.mul_le_mul_right _ l3
    have ft:=qw5 (f:=fun w=>32::qjf w) hi
    generalize ((ws.take i).flatMap fun w=>32::qjf w)=X at *
    simp -implicitDefEqProofs (disch:=first | omega | (simp only [List.length_append,List.length_cons,List.length_nil];omega)) [qb,hi]
    refine qg rfl (qwQ _ hI) ?_
    simp -implicitDefEqProofs (disch:=omega)[qb]
    rw [Z5 (by simp only [List.length_append,List.length_cons,List.length_nil];omega)]
    simp -implicitDefEqProofs (disch:=omega)[qb]
    rw [hK0]
    refine qz (i+1) (by omega) (by omega) ?_
    simp only [ix,ft]
    try simp
  · have hi : i = ws.length := by simp at hc; omega
    subst hi
    subst hK0
    rw [List.take_length]
    simp -implicitDefEqProofs (disch:=omega)[qb,hst]
theorem qwv (a b:Ln) (hl:a.words.length≤1000000):qC Tryz.prog 23 [LnV a,LnV b] (B (decide (a=b))):=by
 obtain ⟨k,nm,ws,n⟩:=a
 obtain ⟨k',nm',ws',n'⟩:=b
 simp only at hl
 refine qT (walk Tryz.func23 qwA (by kernel_rfl) (by show 2≤_;decide) ?_)
 simp -implicitDefEqProofs (disch:=omega)[qwx,qb,lnC]
 by_cases h1:k=k'
 case neg =>
  have e1:(k != k')=true:=by rw [bne_iff_ne];exact h1
  simp -implicitDefEqProofs (disch:=omega)[qb,e1,h1]
 by_cases h2:nm=nm'
 case neg =>
  have e1:(k != k')=false:=by rw [h1];exact bne_self_eq_false _
  have e2:(nm==nm')=false:=by rw [beq_eq_false_iff_ne];exact h2
  simp -implicitDefEqProofs (disch:=omega)[qb,e1,h1,e2,h2]
 by_cases h3:n=n'
 case neg =>
  have e1:(k != k')=false:=by rw [h1];exact bne_self_eq_false _
  have e2:(nm==nm')=true:=by rw [beq_iff_eq];exact h2
  have e3:(n != n')=true:=by rw [bne_iff_ne];exact h3
  simp -implicitDefEqProofs (disch:=omega)[qb,e1,h1,e2,h2,e3,h3]
 subst h1 h2 h3
 by_cases h4:ws.length=ws'.length
 case neg =>
  have e4:((ws.length:Int) != (ws'.length:Int))=true:=by rw [bne_iff_ne];omega
  have h5:ws≠ws':=fun e=>h4 (by rw [e])
  simp -implicitDefEqProofs (disch:=omega)[qb,e4,h5]
 have e4:((ws.length:Int) != (ws'.length:Int))=false:=by rw [h4];exact bne_self_eq_false _
 have hT:decide ((⟨k,nm,ws,n⟩:Ln)=⟨k,nm,ws',n⟩)=decide (ws=ws'):=by simp
 try rw [hT]
 try simp only [true_and,and_true]
 simp -implicitDefEqProofs (disch:=omega)[qb,e4]
 refine qO (fun i:Nat=>⟨[(2,.ref 0 0),(3,.ref 1 0),(5,I (i:Int))],[.cells [I k,S nm,Wds ws,I n],.cells [I k,S nm,Wds ws',I n]]⟩) (fun i=>i≤ws.length∧ws.take i=ws'.take i) (fun i=>ws.length - i) 0 ⟨Nat.zero_le _,rfl⟩ rfl ?_
 rintro i ⟨c1,c2⟩
 refine qW fun K0 hK0=>?_
 simp -implicitDefEqProofs (disch:=omega)[qb]
 refine qP (fun hc=>?_) (fun hc=>?_)
 · have hi : i < ws.length := by simpa using hc
   have hj:i<ws'.length:=by omega
   have ix:((i:Int)+1)=((i+1:Nat):Int):=by omega
   simp -implicitDefEqProofs (disch:=omega)[qb,hi,hj,zW,zJ,zE,qnz]
   by_cases h:ws[i]=ws'[i]
   · simp -implicitDefEqProofs (disch := omega) [qb,h]
     rw [hK0]
     refine qz (i+1) ⟨by omega,?_⟩ (by omega) (by simp only [ix])
     rw [List.take_succ_eq_append_getElem hi,List.take_succ_eq_append_getElem hj,c2,h]
   · have hne : ws ≠ ws' := fun e => h (by subst e; rfl)
     rw [hK0]
     simp -implicitDefEqProofs (disch:=omega)[qb,h,hne]
 · have hi : i = ws.length := by simp at hc; omega
   subst hi
   subst hK0
   have he:ws=ws':=by
    rw [List.take_length,h4,List.take_length] at c2
    exact c2
   simp -implicitDefEqProofs (disch:=omega)[qb,he]
theorem qxc {l:Ln} (h:LnI l) (h8:l.words.length≤8):(qp2 l).length≤1000000:=by
 have h1:=qwT h.words
 have h2:l.words.length*100031≤8*100031:=Nat.mul_le_mul_right _ h8
 have h3:=h.name
 have h4:=h.num
 simp only [i64] at h4
 have hdl:=j8 18 (max 0 l.num).toNat (by have e:(10:Nat) ^ (18+1)=10000000000000000000:=(by decide);omega)
 unfold qp2
 split
 · simp
 split
 · simp
 split
 · simp
 split
 · simp;omega
 · rw [List.length_append]
   split
   · simp only [List.length_append,List.length_cons,List.length_nil];omega
   · simp only [List.length_cons,List.length_nil];omega
theorem qwV {L:List (List UInt8)} {l:Ln} (h:qhF L=some l):l.words.length≤8:=by
 unfold qhF at h
 split at h
 · cases h
 · split at h
   · split at h
     · cases h
     · split at h
       · rename_i hc
         rw [Option.map_eq_some_iff] at h
         obtain ⟨w,hw,rfl⟩:=h
         have:=YJ hw
         simp only;omega
       · cases h
   · split at h
     · split at h
       · rw [Option.map_eq_some_iff] at h
         obtain ⟨w,hw,rfl⟩:=h
         have:=YJ hw
         simp at this ⊢;omega
       · cases h
     · split at h
       · split at h
         · split at h
           · cases h;simp
           · cases h
         · cases h
       · split at h
         · split at h
           · cases h;simp
           · split at h
             · cases h;simp
             · split at h
               · cases h;simp
               · cases h
         · cases h
theorem qw1 (s:List UInt8):(zd s).words.length≤8:=by
 unfold zd
 split
 · cases h:WY s with
   | none=>simp [ln0]
   | some l=>exact qwV h
 · simp [ln0]
theorem qw2 (l:Ln) (h:LnI l):qC Tryz.prog 22 [LnV l] (.tup [S (qni l),I (qnh l)]):=by
 have hst:=qwW l h
 have hw:Xi l=(decide (l.words.length≤8)&&decide (jc (qp2 l)=0)&&decide (zd (qp2 l)=l)):=rfl
 have hsl:l.words.length≤8→(qp2 l).length≤1000000:=fun h8=>qxc h h8
 have hp:=fun h8=>qwI (qp2 l) (hsl h8)
 have hs:=qwv (zd (qp2 l)) l (by have:=qw1 (qp2 l);omega)
 refine qT (walk Tryz.func22 qwO (by kernel_rfl) (by show 1≤_;decide) ?_)
 simp -implicitDefEqProofs (disch:=omega)[qwL,qb,lnC]
 by_cases h8:l.words.length≤8
 case neg =>
  have h8':(8<(l.words.length:Int))=True:=by simp only [eq_iff_iff,iff_true];omega
  have:Xi l=false:=by rw [hw];simp [h8]
  simp -implicitDefEqProofs (disch:=omega)[qb,h8',qni,qnh,this]
  exact qnH (is:=[]) rfl
 have h8':(8<(l.words.length:Int))=False:=by simp only [eq_iff_iff,iff_false];omega
 simp -implicitDefEqProofs (disch:=omega)[qb,h8']
 refine qg rfl hst ?_
 simp -implicitDefEqProofs (disch:=omega)[qb]
 refine qg rfl (hp h8) ?_
 simp -implicitDefEqProofs (disch:=omega)[qb,lnC]
 by_cases hE:jc (qp2 l)=0
 case neg =>
  have hE':(jc (qp2 l) != 0)=true:=by rw [bne_iff_ne];exact hE
  have:Xi l=false:=by rw [hw];simp [hE]
  simp -implicitDefEqProofs (disch:=omega)[qb,hE',qni,qnh,this]
  exact qnH (is:=[]) rfl
 simp -implicitDefEqProofs (disch:=omega)[qb,hE]
 refine qg (ys:=[LnV (zd (qp2 l)),LnV l]) (ids:=[]) rfl hs ?_
 by_cases hP:zd (qp2 l)=l
 case neg =>
  have:Xi l=false:=by rw [hw];simp [hP]
  simp -implicitDefEqProofs (disch:=omega)[qb,hP,qni,qnh,this]
  exact qnH (is:=[]) rfl
 have:Xi l=true:=by rw [hw];simp [hP,hE,h8]
 simp -implicitDefEqProofs (disch:=omega)[qb,hP,qni,qnh,this]
 exact qnH (is:=[]) rfl
theorem PcJ.word {c s i fr acc} (h:PcJ c s i fr acc) (hi:i<s.length) (hb:s[i]=c):PcJ c s (i+1) (i+1) (acc++[(s.drop fr).take (i - fr)]) :=
 ⟨Nat.le_refl _,hi,by simp,by
  have e1:qM c (s.drop fr)=(s.drop fr).take (i - fr)::qM c (s.drop (i+1)):=by
   conv=>lhs;rw [qwZ h.le hi,hb,qfs h.no]
  rw [h.sp,e1]
  simp,by have:=h.ln;have:=h.le;simp;omega⟩
end Go.AM

set_option maxRecDepth 100000
namespace Go.AM
open Go.RowKit Go.Proofs
def qwt:AC:=Subtype.val (p:=fun g=>qo Tryz.prog Tryz.f3 [4]=some g) (by refine ⟨?g,?h⟩;case h=>conv=>lhs;reduce)
theorem qwy:qo Tryz.prog Tryz.f3 [4]=some qwt:=by kernel_rfl
theorem qw6 (s:List UInt8):(zd s).words.length≤1000000:=by
 by_cases h:jc s=0
 · have := (WB h).len
   omega
 · have e:zd s=ln0:=by
    unfold jc at h
    unfold zd
    split
    · rename_i h1
      rw [if_pos h1] at h
      cases e:WY s with
      | none=>rfl
      | some x=>exact absurd (by rw [e];rfl) h
    · rfl
   rw [e];decide
theorem qwE (s:List UInt8) (l:Ln) (hl:LnT l):qC Tryz.prog 3 [S s,LnV l] (B true):=by
 refine qT (qjr Tryz.func3 qwy (by kernel_rfl) (by show 2≤_;decide) ?_)
 unfold qwt
 have el:[I l.kind,S l.name,Wds l.words,I l.num]=lnC l:=rfl
 refine zV ?_
 simp -implicitDefEqProofs (disch:=omega)[qb,lnC]
 by_cases h1:300<s.length
 case pos =>
  have e1:(300<(s.length:Int))=True:=by simp only [eq_iff_iff,iff_true];omega
  refine zV ?_
  simp -implicitDefEqProofs (disch:=omega)[qb,e1]
  refine qg (ys:=[]) (ids:=[]) rfl qqz ?_
  simp -implicitDefEqProofs (disch:=omega)[qb,AV.scalar]
 have e1:(300<(s.length:Int))=False:=by simp only [eq_iff_iff,iff_false];omega
 by_cases h2:20<l.words.length
 case pos =>
  have e2:(20<(l.words.length:Int))=True:=by simp only [eq_iff_iff,iff_true];omega
  refine zV ?_
  simp -implicitDefEqProofs (disch:=omega)[qb,e1,e2]
  refine qg (ys:=[]) (ids:=[]) rfl qqz ?_
  simp -implicitDefEqProofs (disch:=omega)[qb,AV.scalar]
 have e2:(20<(l.words.length:Int))=False:=by simp only [eq_iff_iff,iff_false];omega
 by_cases h3:300<l.name.length
 case pos =>
  have e3:(300<(l.name.length:Int))=True:=by simp only [eq_iff_iff,iff_true];omega
  refine zV ?_
  simp -implicitDefEqProofs (disch:=omega)[qb,e1,e2,e3]
  refine qg (ys:=[]) (ids:=[]) rfl qqz ?_
  simp -implicitDefEqProofs (disch:=omega)[qb,AV.scalar]
 have e3:(300<(l.name.length:Int))=False:=by simp only [eq_iff_iff,iff_false];omega
 have fin:∀ x:List (Nat × AV),(∀ w∈l.words,w.2.1.length≤300)→AWS Tryz.prog (.seq (.rgn [⟨none,[(.mv 47 (.t 0)),(.call 48 19 [(.t 47)]),(.mv 46 (.t 48)),(.ext 49 (.t 46) 0),(.ext 50 (.t 46) 1),(.al 6 [(I 0),(.v (.string ⟨#[]⟩)),(.sl true 0 []),(I 0)]),(.st 4 (.t 6) (.t 49)),(.mv 7 (.t 50))]⟩] [0,3,6,7]) (.seq (.rgn [⟨none,[(.mv 52 (.t 0)),(.call 53 20 [(.t 52)]),(.mv 51 (.t 53)),(.ext 54 (.t 51) 0),(.ext 55 (.t 51) 1),(.al 8 [(I 0),(.v (.string ⟨#[]⟩)),(.sl true 0 []),(I 0)]),(.st 4 (.t 8) (.t 54)),(.mv 9 (.t 55))]⟩] [3,6,7,8,9]) (.seq (.rgn [⟨none,[(.ld 57 true 4 (.t 3)),(.call 58 21 [(.t 57)]),(.mv 56 (.t 58)),(.ext 59 (.t 56) 0),(.ext 60 (.t 56) 1),(.mv 10 (.t 59)),(.mv 11 (.t 60))]⟩] [3,6,7,8,9,10,11]) (.seq (.rgn [⟨none,[(.ld 62 true 4 (.t 3)),(.call 63 22 [(.t 62)]),(.mv 61 (.t 63)),(.ext 64 (.t 61) 0),(.ext 65 (.t 61) 1),(.mv 12 (.t 64)),(.mv 13 (.t 65))]⟩] [6,7,8,9,10,11,12,13]) (.seq (.rgn [⟨none,[(.ld 66 true 4 (.t 6)),(.ld 67 true 4 (.t 8)),(.call 68 23 [(.t 66),(.t 67)]),(.mv 69 (.t 68))]⟩,⟨(some (69,true)),[(.mv 70 (.t 7)),(.mv 71 (.t 9)),(.bin 72 .eql (.t 70) (.t 71))]⟩,⟨none,[(.pick 73 (.t 69) (.t 72) (.k (B false))),(.mv 74 (.t 73))]⟩,⟨(some (74,true)),[(.mv 75 (.t 10)),(.mv 76 (.t 12)),(.bin 77 .eql (.t 75) (.t 76))]⟩,⟨none,[(.pick 78 (.t 74) (.t 77) (.k (B false))),(.mv 79 (.t 78))]⟩,⟨(some (79,true)),[(.mv 80 (.t 11)),(.mv 81 (.t 13)),(.bin 82 .eql (.t 80) (.t 81))]⟩,⟨none,[(.pick 83 (.t 79) (.t 82) (.k (B false))),(.mv 84 (.t 83))]⟩,⟨(some (84,true)),[(.call 85 18 [])]⟩,⟨none,[(.pick 86 (.t 84) (.t 85) (.k (B false))),(.mv 4 (.t 86))]⟩] [4]) .ret))))) ⟨(0,S s)::(3,.ref 0 0)::x,[.cells (lnC l)]⟩ (qfB [4] (Out (B true))):=by
  intro x c2
  have hI:LnI l:=⟨hl.kind,hl.num,fun w hw=>⟨(hl.words w hw).1,(hl.words w hw).2,by have:=c2 w hw;omega⟩,by omega,by omega⟩
  have es:[I (zd s).kind,S (zd s).name,Wds (zd s).words,I (zd s).num]=lnC (zd s):=rfl
  refine zV ?_
  simp -implicitDefEqProofs (disch:=omega)[qb]
  refine qg (ys:=[S s]) (ids:=[]) rfl (Yo s (by omega)) ?_
  simp -implicitDefEqProofs (disch:=omega)[qb,AV.scalar,lnC]
  simp only [es,el]
  refine zV ?_
  simp -implicitDefEqProofs (disch:=omega)[qb]
  refine qg (ys:=[S s]) (ids:=[]) rfl (qwI s (by omega)) ?_
  simp -implicitDefEqProofs (disch:=omega)[qb,AV.scalar,lnC]
  simp only [es,el]
  refine zV ?_
  simp -implicitDefEqProofs (disch:=omega)[qb,qf,lnC]
  simp only [es,el]
  refine qg (ys:=[LnV l]) (ids:=[]) rfl (qit l hI (by omega) (fun w hw=>by have:=c2 w hw;omega) (by omega)) ?_
  simp -implicitDefEqProofs (disch:=omega)[qb,AV.scalar]
  refine zV ?_
  simp -implicitDefEqProofs (disch:=omega)[qb,qf,lnC]
  simp only [es,el]
  refine qg (ys:=[LnV l]) (ids:=[]) rfl (qw2 l hI) ?_
  simp -implicitDefEqProofs (disch:=omega)[qb,AV.scalar]
  refine zV ?_
  simp -implicitDefEqProofs (disch:=omega)[qb,qf,lnC]
  simp only [es,el]
  refine qg (ys:=[LnV (zd s),LnV (zd s)]) (ids:=[]) rfl (qwv (zd s) (zd s) (qw6 s)) ?_
  have hd:decide (zd s=zd s)=true:=decide_eq_true rfl
  have hw:(qni l==qni l)=true:=by rw [beq_iff_eq]
  rw [hd]
  simp -implicitDefEqProofs (disch:=omega)[qb,AV.scalar,hw]
  refine qg (ys:=[]) (ids:=[]) rfl qqz ?_
  simp -implicitDefEqProofs (disch:=omega)[qb,AV.scalar]
  refine qnu ?_
  simp -implicitDefEqProofs (disch:=omega)[qb]
 refine zV ?_
 simp -implicitDefEqProofs (disch:=omega)[qb,e1,e2,e3]
 simp only [el]
 refine zV ?_
 simp -implicitDefEqProofs (disch:=omega)[qb]
 refine qW fun K9 hK9=>?_
 refine qO (fun i:Nat=>⟨[(0,S s),(3,.ref 0 0),(5,I (i:Int))],[.cells (lnC l)]⟩) (fun i=>i≤l.words.length∧∀ w∈l.words.take i,w.2.1.length≤300) (fun i=>l.words.length - i) 0 ⟨Nat.zero_le _,fun w h=>by simp at h⟩ rfl ?_
 rintro i ⟨c1,c2⟩
 refine qW fun K0 hK0=>?_
 simp -implicitDefEqProofs (disch:=omega)[qb,qf,lnC]
 refine qP (fun hc=>?_) (fun hc=>?_)
 · have hi : i < l.words.length := by simpa using hc
   have ix:((i:Int)+1)=((i+1:Nat):Int):=by omega
   by_cases hb:300<l.words[i].2.1.length
   · have hb' : (300 < (l.words[i].2.1.length : Int)) = True := by simp only [eq_iff_iff,iff_true]; omega
     simp -implicitDefEqProofs (disch:=omega)[qb,hi,qf,lnC,hb']
     refine qg (ys:=[]) (ids:=[]) rfl qqz ?_
     rw [hK0,hK9]
     simp -implicitDefEqProofs (disch:=omega)[qb,AV.scalar]
   · have hb' : (300 < (l.words[i].2.1.length : Int)) = False := by simp only [eq_iff_iff,iff_false]; omega
     simp -implicitDefEqProofs (disch:=omega)[qb,hi,qf,lnC,hb']
     rw [hK0]
     refine qz (i+1) ⟨by omega,fun w hw=>?_⟩ (by omega) (by simp only [ix,lnC])
     rw [List.take_succ_eq_append_getElem hi] at hw
     rcases List.mem_append.1 hw with hw | hw
     · exact c2 w hw
     · obtain rfl : w = l.words[i] := by simpa using hw
       omega
 · have hi : i = l.words.length := by simp at hc; omega
   subst hi
   rw [List.take_length] at c2
   subst hK0
   simp -implicitDefEqProofs (disch:=omega)[qb]
   subst hK9
   simp only [el]
   exact fin _ c2
end Go.AM
