/-
  KxP2: texts joined: FmNR Ns3 Ns13 FmNL Lk1 Lk3 Lx4 Lx10 Lx11. Own work.
-/
import Derived.Test.YtopelhnmgjkneaaGreatDoorKxP1
import Derived.Test.YtopelhnmgjkneaaGreatDoorProg
set_option linter.all false
set_option linter.unusedSimpArgs false
set_option linter.unusedVariables false
set_option linter.unusedSectionVars false

set_option maxRecDepth 100000
set_option maxHeartbeats 0
namespace Go.AM
open Go.RowKit Go.Proofs
def qwr:AC:=Subtype.val (p:=fun g=>qo Tryz.prog Tryz.f51 [2,3]=some g) (by refine ⟨?g,?h⟩;case h=>conv=>lhs;reduce)
theorem qwE:qo Tryz.prog Tryz.f51 [2,3]=some qwr:=by kernel_rfl
theorem qwL {s:List UInt8} {fr i:Nat} (h:fr≤i) (hi:i<s.length):s.drop fr=(s.drop fr).take (i - fr)++s[i]::s.drop (i+1):=by
 conv=>lhs;rw [←List.take_append_drop (i - fr) (s.drop fr)]
 rw [List.drop_drop,show fr+(i - fr)=i by omega,List.drop_eq_getElem_cons hi]
theorem WdJ.word {s i fr acc} (h:WdJ s i fr acc) (hi:i<s.length) (hb:s[i]=32):WdJ s (i+1) (i+1) (acc++[(s.drop fr).take (i - fr)]) :=
 ⟨Nat.le_refl _,hi,by simp,by
  have e1:qM 32 (s.drop fr)=(s.drop fr).take (i - fr)::qM 32 (s.drop (i+1)):=by
   conv=>lhs;rw [qwL h.le hi,hb,qfs h.no]
  rw [h.sp,e1]
  simp,by have:=h.ln;have:=h.le;simp;omega⟩
theorem PcJ.word {c s i fr acc} (h:PcJ c s i fr acc) (hi:i<s.length) (hb:s[i]=c):PcJ c s (i+1) (i+1) (acc++[(s.drop fr).take (i - fr)]) :=
 ⟨Nat.le_refl _,hi,by simp,by
  have e1:qM c (s.drop fr)=(s.drop fr).take (i - fr)::qM c (s.drop (i+1)):=by
   conv=>lhs;rw [qwL h.le hi,hb,qfs h.no]
  rw [h.sp,e1]
  simp,by have:=h.ln;have:=h.le;simp;omega⟩
theorem qwQ {hp x} {e:Int} {l:List (List UInt8)} (h:AccG hp x 1 l.length (fl WJ l)):qi7 (.tup [qqK l,I e]) (.tup [x,I e]) hp:=by
 obtain ⟨ids,h1,_⟩:=h.pur
 rcases h with ⟨rfl,h0,_⟩ | ⟨id,rfl,_⟩
 · obtain rfl : l = [] := List.eq_nil_of_length_eq_zero h0
   exact qG (r' := .tup [.sl true 0 [],I e]) (is:=[]) rfl (.tupL (.cons .slf (.cons (.refl _) .nil)))
 · have h2 : ze (hpf hp) (.ms id 0 l.length 1) = some (.sl (decide (l.length = 0)) l.length (fl WJ l),ids) := h1
   refine qG (r' := .tup [.sl (decide (l.length=0)) l.length (fl WJ l),I e]) (is:=ids) ?_ (.tupL (.cons .slf (.cons (.refl _) .nil)))
   simp only [qU,Qq,zu,QT,h2]
   simp [ze]
def qws:AC:=match qwr with
 | .seq _ (.seq _ (.seq _ t))=>t
 | x=>x
theorem qwC (s : List UInt8) (hs : s.length ≤ 1000000) (h1 : ¬ 65536 < s.length) (h2 : qpi s = false) (fr : List (Nat × AV)) :
 AWP Tryz.prog (E1 Tryz.prog) qws ⟨(0,S s)::fr,[]⟩ (qfB [2,3] (qi7 (.tup [qqK (qaw s),I (V0 s)]))):=by
 simp -implicitDefEqProofs (disch:=omega)[qws,qwr,qb]
 refine qkg (fun q : Nat × Nat × List (List UInt8) × AV × List HObj => ⟨[(0,S s),(4,q.2.2.2.1),(5,I (q.2.1 : Int)),(6,I (q.1 : Int))],q.2.2.2.2⟩)
  (fun q=>PcJ 10 s q.1 q.2.1 q.2.2.1∧AccG q.2.2.2.2 q.2.2.2.1 1 q.2.2.1.length (fl WJ q.2.2.1)) (fun q=>s.length - q.1) (0,0,[],.sl true 0 [],[]) ⟨.zero 10 s,.nil⟩ (St.le.rfl' _) ?_
 rintro ⟨i,fr,acc,x,H⟩ ⟨J,c3⟩
 simp only at J c3 ⊢
 refine qW fun K0 hK0=>?_
 simp -implicitDefEqProofs (disch:=omega)[qb]
 have hle:=J.le
 have hln:=J.ln
 have hli:=J.li
 refine qP (fun hc=>?_) (fun hc=>?_)
 · have hi : i < s.length := by simpa using hc
   have ix:((i:Int)+1)=((i+1:Nat):Int):=by omega
   simp -implicitDefEqProofs (disch:=omega)[qb,hi]
   cases hb:((s[i].toNat:Int)==10) with
   | true =>
     have hb':s[i]=10:=by rw [beq_iff_eq] at hb;exact UInt8.toNat_inj.1 (by show s[i].toNat=10;omega)
     simp -implicitDefEqProofs (disch:=omega)[qb]
     refine zq (ys:=[S ((s.drop fr).take (i - fr))]) (ids:=[]) rfl rfl ?_
     simp -implicitDefEqProofs (disch:=omega)[qb,zP]
     refine Q5 (ys:=[S ((s.drop fr).take (i - fr))]) c3 (by omega) (by decide) rfl rfl fun ws w1 w2 w3=>?_
     simp -implicitDefEqProofs (disch:=omega)[qb,zP]
     rw [hK0]
     refine qz (i+1,i+1,acc++[(s.drop fr).take (i - fr)],.ms H.length 0 (acc.length+1) 1,qH H ws) ⟨J.word hi hb',?_⟩ (by simp only;omega) (by simp only [ix])
     simp only [List.length_append,List.length_singleton,jr]
     exact w3
   | false =>
     have hb':s[i]≠10:=by rw [beq_eq_false_iff_ne] at hb;exact fun e=>hb (by rw [e];rfl)
     simp -implicitDefEqProofs (disch:=omega)[qb]
     rw [hK0]
     exact qz (i+1,fr,acc,x,H) ⟨J.step hi hb',c3⟩ (by simp only;omega) (by simp only [ix])
 · have hi : i = s.length := by simp at hc; omega
   subst hi
   have e:=J.last
   subst hK0
   have hsp:(qM 10 s).dropLast=acc:=e.symm
   by_cases b:400<acc.length
   case pos =>
    have b':(400<(acc.length:Int))=True:=by simp only [eq_iff_iff,iff_true];omega
    have hE:V0 s=6:=by unfold V0;rw [if_neg h1,h2,hsp];simp [b]
    have hL:qaw s=[]:=by unfold qaw;rw [hE];rfl
    rw [hE,hL]
    simp -implicitDefEqProofs (disch:=omega)[qb,c3.lenW,b']
    exact qG (r' := .tup [.sl true 0 [],I 6]) (is:=[]) rfl (.tupL (.cons .slf (.cons (.refl _) .nil)))
   have b':(400<(acc.length:Int))=False:=by simp only [eq_iff_iff,iff_false];omega
   have hE:V0 s=0:=by unfold V0;rw [if_neg h1,h2,hsp];simp [b]
   have hL:qaw s=acc:=by unfold qaw;rw [hE,hsp];rfl
   rw [hE,hL]
   simp -implicitDefEqProofs (disch:=omega)[qb,c3.lenW,b']
   exact qwQ c3
theorem qwJ (s:List UInt8):qC Tryz.prog 51 [S s] (.tup [qqK (qaw s),I (V0 s)]):=by
 refine zO (walk Tryz.func51 qwE (by kernel_rfl) (by show 1≤_;decide) ?_)
 simp -implicitDefEqProofs (disch:=omega)[qwr,qb]
 have bad : ∀ (e : Int) (H : List HObj) (h : V0 s = e) (h0 : e ≠ 0),qi7 (.tup [qqK (qaw s),I (V0 s)]) (.tup [.sl true 0 [],I e]) H := fun e H h h0 => by
  have:qaw s=[]:=if_neg (by rw [h];exact h0)
  rw [this,h]
  exact qG (r' := .tup [.sl true 0 [],I e]) (is:=[]) rfl (.tupL (.cons .slf (.cons (.refl _) .nil)))
 by_cases hbig:65536<s.length
 case pos =>
  have hbig':(65536<(s.length:Int))=True:=by simp only [eq_iff_iff,iff_true];omega
  simp -implicitDefEqProofs (disch:=omega)[qb,hbig']
  exact bad 7 _ (if_pos hbig) (by decide)
 have hs:s.length≤1000000:=by omega
 have hbig':(65536<(s.length:Int))=False:=by simp only [eq_iff_iff,iff_false];omega
 simp -implicitDefEqProofs (disch:=omega)[qb,hbig']
 cases hs0:s with
 | nil =>
   subst hs0
   have t:=qwC [] hs hbig rfl []
   simp -implicitDefEqProofs (disch:=omega)[qb]
   simp -implicitDefEqProofs (disch:=omega)[qb,qws,qwr] at t
   exact t
 | cons b r =>
   rw [←hs0]
   have hpos:0<s.length:=by rw [hs0];simp
   have hlt:s.length - 1<s.length:=by omega
   have ho:=qwU hlt
   have sx:((s.length:Int) - 1)=((s.length - 1:Nat):Int):=by omega
   simp -implicitDefEqProofs (disch:=omega)[qb,hpos,sx,hlt]
   by_cases hb:s[s.length - 1]=10
   · have hb' : ((s[s.length - 1].toNat : Int) != 10) = false := by rw [hb]; rfl
     have t:=qwC s hs hbig (by rw [ho];simpa using hb) []
     simp -implicitDefEqProofs (disch:=omega)[qb,hb']
     simp -implicitDefEqProofs (disch:=omega)[qb,qws,qwr] at t
     exact t
   · have hb':((s[s.length - 1].toNat:Int) != 10)=true:=by
      rw [bne_iff_ne];intro h;exact hb (UInt8.toNat_inj.1 (by show s[s.length - 1].toNat=10;omega))
     have hO:qpi s=true:=by rw [ho];simpa using hb
     simp -implicitDefEqProofs (disch:=omega)[qb,hb']
     exact bad 8 _ (by unfold V0;rw [if_neg hbig,hO];rfl) (by decide)
end Go.AM

set_option maxRecDepth 100000
namespace Go.AM
open Go.RowKit Go.Proofs
def qwt:AC:=Subtype.val (p:=fun g=>qo Tryz.prog Tryz.f10 [2]=some g) (by refine ⟨?g,?h⟩;case h=>conv=>lhs;reduce)
theorem qwv:qo Tryz.prog Tryz.f10 [2]=some qwt:=by kernel_rfl
def qwK:AC:=Subtype.val (p:=fun g=>qo Tryz.prog Tryz.f50 [2]=some g) (by refine ⟨?g,?h⟩;case h=>conv=>lhs;reduce)
theorem qwG:qo Tryz.prog Tryz.f50 [2]=some qwK:=by kernel_rfl
theorem qwR {l:List Int}:(fl qjb l).length=l.length:=by rw [J9 qms,Nat.mul_one]
theorem qwM (s:List UInt8):qC Tryz.prog 50 [S s] (B (decide (s.length≤4000)&&decide (V0 s=0))):=by
 refine qT (walk Tryz.func50 qwG (by kernel_rfl) (by show 1≤_;decide) ?_)
 simp -implicitDefEqProofs (disch:=omega)[qwK,qb]
 refine qg (ys:=[S s]) (ids:=[]) rfl (qwJ s) ?_
 simp -implicitDefEqProofs (disch:=omega)[qb,AV.scalar]
 by_cases h:s.length≤4000
 · have h' : ((s.length : Int) ≤ 4000) = True := by simp only [eq_iff_iff,iff_true]; omega
   by_cases e:V0 s=0
   · have e' : (V0 s == 0) = true := by rw [beq_iff_eq]; exact e
     simp -implicitDefEqProofs (disch:=omega)[qb,h',h,e',e]
   · have e' : (V0 s == 0) = false := by rw [beq_eq_false_iff_ne]; exact e
     simp -implicitDefEqProofs (disch:=omega)[qb,h',h,e',e]
 · have h' : ((s.length : Int) ≤ 4000) = False := by simp only [eq_iff_iff,iff_false]; omega
   simp -implicitDefEqProofs (disch:=omega)[qb,h',h]
theorem qww (s:List UInt8):PlV (qaw s).length (jQ (qaw s)):=by
 have:=qdg (qgh (s:=s)).1 (qaw s).length (Nat.le_refl _)
 rwa [List.take_length] at this
theorem qwX (s:List UInt8):DyI (qku s):=by
 unfold qku
 split
 · exact (qww s).day.1.w.i
 · exact day0_V.w.i
theorem qwP (s:List UInt8):(qmV s).length≤1000000:=by
 unfold qmV
 split
 · rw [(qww s).errs];have:=(qgh (s:=s)).1;omega
 · simp
theorem qwI:Jw=qwq:=rfl
theorem qwN {s:List UInt8} (h:V0 s=0):(Jw (qaH s)).length≤s.length∧V0 (Jw (qaH s))=0∧qku (Jw (qaH s))=qku s∧qaH (Jw (qaH s))=qaH s∧qmV (Jw (qaH s))=List.replicate (qaH s).length 0∧(qaH s).length≤(qmV s).length:=by
 have hl:=(qgh (s:=s)).1
 have V:=qww s
 have R:PlR (jQ (qaw s)):=by
  have:=qpp hl (qaw s).length (Nat.le_refl _)
  rwa [List.take_length] at this
 have hK:qaH s=(jQ (qaw s)).kept.take (jQ (qaw s)).at':=by unfold qaH;rw [if_pos h]
 have hD:qku s=qX (jQ (qaw s)):=by unfold qku;rw [if_pos h]
 have hE:qmV s=(jQ (qaw s)).errs:=by unfold qmV;rw [if_pos h]
 have h1:=V.at'
 have h2:=V.kept
 have h3:=V.len
 have hlen:(qaH s).length=(jQ (qaw s)).at':=by rw [hK,List.length_take];omega
 obtain ⟨kl,km⟩:=qwS (l:=qaw s) (qaw s).length (Nat.le_refl _)
 rw [List.take_length] at kl km
 have k1:(qwq (qaH s)).length≤s.length:=by
  rw [hK]
  have a:=qwz (l:=(jQ (qaw s)).kept) (i:=(jQ (qaw s)).at')
  rw [qwT h] at kl
  omega
 have s64:s.length≤65536:=by
  unfold V0 at h
  split at h
  · exact absurd h (by decide)
  · omega
 have kn : ∀ w ∈ qaH s,∀ b ∈ w,b ≠ 10 := fun w hw => by
  rw [hK] at hw
  exact qwY w (km w (List.mem_of_mem_take hw))
 obtain ⟨l1,l2⟩:=qwZ kn (by omega) (by omega)
 have rp:=qw0 R V (jQ (qaw s)).at' h1
 rw [←hK] at rp
 rw [qwI]
 refine ⟨k1,l1,?_,?_,?_,?_⟩
 · unfold qku
   rw [if_pos l1,l2,rp,if_pos h]
   exact qeW (Nat.le_refl _) h1
 · show (if V0 (qwq (qaH s)) = 0 then (jQ (qaw (qwq (qaH s)))).kept.take (jQ (qaw (qwq (qaH s)))).at' else []) = qaH s
   rw [if_pos l1,l2,rp]
   show (qaH s).take (jQ (qaw s)).at'=qaH s
   rw [List.take_of_length_le (by omega)]
 · unfold qmV
   rw [if_pos l1,l2,rp,hlen]
 · rw [hlen,hE,V.errs];omega
theorem qwW (s:List UInt8):Wh (qku s)=0:=by
 have h:DayV (qku s):=by
  unfold qku
  split
  · exact (qww s).day.1
  · exact day0_V
 unfold Wh
 rw [if_pos (jw.2 h)]
theorem qwx (s:List UInt8):qC Tryz.prog 10 [S s] (B true):=by
 refine qT (qjr Tryz.func10 qwv (by kernel_rfl) (by show 1≤_;decide) ?_)
 unfold qwt
 refine zV ?_
 simp -implicitDefEqProofs (disch:=omega)[qb]
 refine zV ?_
 simp -implicitDefEqProofs (disch:=omega)[qb]
 refine qg (ys:=[S s]) (ids:=[]) rfl (qwM s) ?_
 by_cases hf:s.length≤4000∧V0 s=0
 case neg =>
  have e:(decide (s.length≤4000)&&decide (V0 s=0))=false:=by
   rw [Bool.and_eq_false_iff]
   by_cases h:s.length≤4000
   · exact .inr (decide_eq_false fun h2=>hf ⟨h,h2⟩)
   · exact .inl (decide_eq_false h)
  rw [e]
  simp -implicitDefEqProofs (disch:=omega)[qb,AV.scalar]
  refine qg (ys:=[]) (ids:=[]) rfl qqz ?_
  simp -implicitDefEqProofs (disch:=omega)[qb,AV.scalar]
 obtain ⟨f1,f2⟩:=hf
 have e:(decide (s.length≤4000)&&decide (V0 s=0))=true:=by rw [decide_eq_true f1,decide_eq_true f2];rfl
 rw [e]
 simp -implicitDefEqProofs (disch:=omega)[qb,AV.scalar]
 obtain ⟨r1,r2,r3,r4,r5,r6⟩:=qwN f2
 have dI:=qwX s
 have d0:=qwW s
 have ed:[Bks (qku s).rc,I (qku s).bath,I (qku s).laid,Pts (qku s).pat,Shs (qku s).sh]=dyC (qku s):=rfl
 have hsd:decide (qku s=qku s)=true:=decide_eq_true rfl
 refine zV ?_
 simp -implicitDefEqProofs (disch:=omega)[qb]
 refine qg (ys:=[S s]) (ids:=[]) rfl (qhs s (by omega)) ?_
 rw [f2]
 simp -implicitDefEqProofs (disch:=omega)[qb,AV.scalar,dyC]
 simp only [ed]
 refine zV ?_
 simp -implicitDefEqProofs (disch:=omega)[qb]
 refine qg (ys:=[S s]) (ids:=[]) rfl (qjW s (by omega)) ?_
 rw [f2]
 generalize hk:Jw (qaH s)=k at r1 r2 r3 r4 r5
 simp -implicitDefEqProofs (disch:=omega)[qb,AV.scalar]
 have k1:((s.length:Int)<(k.length:Int))=False:=by simp only [eq_iff_iff,iff_false];omega
 refine zV ?_
 simp -implicitDefEqProofs (disch:=omega)[qb,k1,qf,dyC]
 simp only [ed]
 refine qg (ys:=[DyV (qku s)]) (ids:=[]) rfl (qcW (qku s) dI) ?_
 rw [d0]
 simp -implicitDefEqProofs (disch:=omega)[qb,AV.scalar,qf,dyC]
 simp only [ed]
 refine qg (ys:=[DyV (qku s)]) (ids:=[]) rfl (qdl (qku s) dI) ?_
 rw [d0]
 simp -implicitDefEqProofs (disch:=omega)[qb,AV.scalar]
 refine zV ?_
 simp -implicitDefEqProofs (disch:=omega)[qb]
 refine qg (ys:=[S k]) (ids:=[]) rfl (qhs k (by omega)) ?_
 rw [r2,r3,r5]
 simp -implicitDefEqProofs (disch:=omega)[qb,AV.scalar,dyC]
 simp only [ed]
 refine zV ?_
 simp -implicitDefEqProofs (disch:=omega)[qb]
 refine qg (ys:=[S k]) (ids:=[]) rfl (qjW k (by omega)) ?_
 rw [r2,r4,hk]
 have hkk:(k != k)=false:=bne_self_eq_false _
 have k2:(((qmV s).length:Int)<((qaH s).length:Int))=False:=by simp only [eq_iff_iff,iff_false];omega
 simp -implicitDefEqProofs (disch:=omega)[qb,AV.scalar]
 refine zV ?_
 simp -implicitDefEqProofs (disch:=omega)[qb,hkk,qf,dyC]
 simp only [ed]
 refine qg (ys:=[DyV (qku s),DyV (qku s)]) (ids:=[]) rfl (qeZ (qku s) (qku s) dI.s) ?_
 rw [hsd]
 generalize hn:(qaH s).length=n at k2
 simp -implicitDefEqProofs (disch:=omega)[qb,AV.scalar,k2]
 have fin:∀ (x:List (Nat × AV)) (H:List HObj),AWS Tryz.prog (.seq (.rgn [⟨none,[(.call 96 18 []),(.mv 2 (.t 96))]⟩] [2]) .ret) ⟨x,H⟩ (qfB [2] (Out (B true))):=by
  intro x H
  refine zV ?_
  simp -implicitDefEqProofs (disch:=omega)[qb]
  refine qg (ys:=[]) (ids:=[]) rfl qqz ?_
  simp -implicitDefEqProofs (disch:=omega)[qb,AV.scalar]
  refine qnu ?_
  simp -implicitDefEqProofs (disch:=omega)[qb]
 generalize hz:List.replicate n (0:Int)=zs
 have hzl:zs.length=n:=by rw [←hz,List.length_replicate]
 have hzm:zs.length≤1000000:=by have:=qwP s;omega
 have hz0:∀ (i:Nat) (h:i<zs.length),zs[i]=0:=by subst hz;intro i h;rw [List.getElem_replicate]
 generalize [HObj.cells (dyC (qku s)),HObj.cells (dyC (qku s))]=H
 refine zV ?_
 simp -implicitDefEqProofs (disch:=omega)[qb]
 refine qW fun K9 hK9=>?_
 refine qO (fun i:Nat=>⟨[(9,qqH zs),(11,I (i:Int))],H⟩) (fun i=>i≤zs.length) (fun i=>zs.length - i) 0 (Nat.zero_le _) rfl ?_
 intro i c1
 refine qW fun K0 hK0=>?_
 simp -implicitDefEqProofs (disch:=omega)[qb]
 refine qP (fun hc=>?_) (fun hc=>?_)
 · have hi : i < zs.length := by simpa using hc
   have ix:((i:Int)+1)=((i+1:Nat):Int):=by omega
   have h0:=hz0 i hi
   simp -implicitDefEqProofs (disch:=omega)[qb,hi,qo3 hi,qwR,h0]
   rw [hK0]
   exact qz (i+1) (by omega) (by omega) (by simp only [ix])
 · have hi : i = zs.length := by simp at hc; omega
   subst hi
   subst hK0
   simp -implicitDefEqProofs (disch:=omega)[qb]
   subst hK9
   exact fin _ _
end Go.AM
