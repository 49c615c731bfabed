/-
  KxU1: texts joined: Nt13 Nt14 FmNL Lk3 Nt30 Nt31 Lx16 Lx17 Lx18. Own work.
-/
import Derived.Test.YtopelhnmgjkneaaGreatDoorKn7
import Derived.Test.YtopelhnmgjkneaaGreatDoorProg
set_option linter.all false
set_option linter.unusedSimpArgs false
set_option linter.unusedVariables false
set_option linter.unusedSectionVars false

set_option maxHeartbeats 0
namespace Go.AM
open Go.RowKit
structure TbOK (w:List UInt8) (to found:List (List Int)) (n:Nat):Prop where
 tl:to.length=n
 fl:found.length=n
 tr:∀ i (h:i<to.length),to[i].length=9
 fr:∀ i (h:i<found.length),found[i].length=9
 tv:∀ i s,i<n→s≤w.length→0≤atT to (i:Int) s∧atT to (i:Int) s≤w.length
 fv:∀ i s,i<n→s≤w.length→0≤atT found (i:Int) s∧atT found (i:Int) s≤QM
theorem qxD {w:List UInt8} {to found:List (List Int)} {n:Nat} (h:TbOK w to found n) {p:Pt} (hp:qI n p=true) {x:Nat × Int} (hx:x.1≤w.length):(qqA w to found p x).1≤w.length∧x.2≤(qqA w to found p x).2∧(qqA w to found p x).2≤x.2+QM:=by
 have hm:QM=1099511627776:=rfl
 unfold qqA
 by_cases e:0≤p.2.1
 · rw [if_pos e]
   have hi:p.2.1.toNat<n:=by
    rcases zk hp with ⟨h,_⟩ | ⟨_,_,h⟩ <;> omega
   have a:=h.tv _ x.1 hi hx
   have b:=h.fv _ x.1 hi hx
   have e2:((p.2.1.toNat:Nat):Int)=p.2.1:=by omega
   rw [e2] at a b
   refine ⟨?_,?_,?_⟩ <;> simp only <;> omega
 · rw [if_neg e]
   have:=qcA w x.1 p.1
   refine ⟨this,?_,?_⟩ <;> simp only <;> split <;> omega
theorem qwJ {w : List UInt8} {to found : List (List Int)} {n : Nat} (h : TbOK w to found n) {p : Pt} (hp : qI n p = true) {x : Nat × Int} (hx : x.1 ≤ w.length) : ∀ k : Nat,(qiD w to found p k x).1 ≤ w.length ∧ x.2 ≤ (qiD w to found p k x).2 ∧ (qiD w to found p k x).2 ≤ x.2 + k * QM
 | 0=>⟨hx,Int.le_refl _,by simp [qiD]⟩
 | k+1=>by
   have ih:=qwJ h hp hx k
   have o:=qxD h hp ih.1
   have e:((k+1:Nat):Int)*QM=k*QM+QM:=by
    rw [show ((k+1:Nat):Int)=(k:Int)+1 by omega,Int.add_mul,Int.one_mul]
   refine ⟨o.1,?_,?_⟩
   · exact Int.le_trans ih.2.1 o.2.1
   · rw [e];show (qqA w to found p (qiD w to found p k x)).2≤_;omega
theorem qxy {w:List UInt8} {to found:List (List Int)} {n:Nat} (h:TbOK w to found n) {st:Nat} (hs:st≤w.length) {l:List Pt} (hp:∀ p∈l,qI n p=true):∀ i,i≤l.length→(qqC w to found (l.take i) st).1≤w.length∧0≤(qqC w to found (l.take i) st).2∧(qqC w to found (l.take i) st).2≤(i:Int)*1099511627776000:=by
 intro i
 induction i with
 | zero=>intro _;exact ⟨hs,Int.le_refl _,Int.le_refl _⟩
 | succ i ih =>
   intro hi
   have ih:=ih (by omega)
   have hpi:=hp _ (List.getElem_mem (show i<l.length by omega))
   have m:=qwJ h hpi ih.1 l[i].2.2.toNat
   have t:=Qd hpi
   have b:(l[i].2.2.toNat:Int)*QM≤1099511627776000:=by
    have:(l[i].2.2.toNat:Int)≤1000:=by omega
    exact Int.le_trans (Int.mul_le_mul_of_nonneg_right this (by decide)) (by decide)
   rw [qne (by omega)]
   refine ⟨m.1,by omega,by omega⟩
structure TbL (w:List UInt8) (to found:List (List Int)) (long:List Int):Prop where
 ok:TbOK w to found long.length
 le:∀ i s,i<long.length→s≤w.length→atT found (i:Int) s≤long.getD i 0
theorem qxC {w:List UInt8} {to found:List (List Int)} {long:List Int} (h:TbL w to found long) {p:Pt} (hp:qI long.length p=true) {x:Nat × Int} (hx:x.1≤w.length):(qqA w to found p x).2≤x.2+ja long p:=by
 unfold qqA ja
 by_cases e:0≤p.2.1
 · rw [if_pos e,if_pos e]
   have hi:p.2.1.toNat<long.length:=by
    rcases zk hp with ⟨h,_⟩ | ⟨_,_,h⟩ <;> omega
   have b:=h.le _ x.1 hi hx
   have e2:((p.2.1.toNat:Nat):Int)=p.2.1:=by omega
   rw [e2] at b
   simp only;omega
 · rw [if_neg e,if_neg e]
   simp only;split <;> omega
theorem qwX {w : List UInt8} {to found : List (List Int)} {long : List Int} (h : TbL w to found long) {p : Pt} (hp : qI long.length p = true) {x : Nat × Int} (hx : x.1 ≤ w.length) : ∀ k : Nat,(qiD w to found p k x).2 ≤ x.2 + ja long p * k
 | 0=>by simp [qiD]
 | k+1=>by
   have ih:=qwX h hp hx k
   have o:=qxC h hp (qwJ h.ok hp hx k).1
   have e:ja long p*((k+1:Nat):Int)=ja long p*k+ja long p:=by
    rw [show ((k+1:Nat):Int)=(k:Int)+1 by omega,Int.mul_add,Int.mul_one]
   rw [e]
   show (qqA w to found p (qiD w to found p k x)).2≤_
   omega
theorem qxG {w:List UInt8} {to found:List (List Int)} {long:List Int} (h:TbL w to found long) {p:Pt} (hp:qI long.length p=true):0≤ja long p:=by
 unfold ja
 split
 · rename_i e
   have hi:p.2.1.toNat<long.length:=by
    rcases zk hp with ⟨h,_⟩ | ⟨_,_,h⟩ <;> omega
   exact Int.le_trans (h.ok.fv _ 0 hi (Nat.zero_le _)).1 (h.le _ 0 hi (Nat.zero_le _))
 · decide
theorem qxI {w:List UInt8} {to found:List (List Int)} {long:List Int} (h:TbL w to found long) {st:Nat} (hs:st≤w.length) {l:List Pt} (hp:∀ p∈l,qI long.length p=true):∀ i,i≤l.length→min JS (qqC w to found (l.take i) st).2≤QZ long (l.take i):=by
 have hfar:JS=1125899906842624:=rfl
 intro i
 induction i with
 | zero=>intro _;show min JS 0≤0;omega
 | succ i ih =>
   intro hi
   have ih:=ih (by omega)
   have hlt:i<l.length:=by omega
   have hpi:=hp _ (List.getElem_mem hlt)
   have t:=qxy h.ok hs hp i (by omega)
   have m:=qwX h hpi t.1 l[i].2.2.toNat
   have tm:=Qd hpi
   have e:((l[i].2.2.toNat:Nat):Int)=l[i].2.2:=by omega
   rw [e] at m
   have o0:0≤ja long l[i]*l[i].2.2:=Int.mul_nonneg (qxG h hpi) (by omega)
   rw [qne hlt,show QZ long (l.take (i+1))=jU long (QZ long (l.take i)) l[i] from zI hlt]
   unfold jU
   omega
theorem qxr {w to found l}:(qvx w to found l).length=9:=by simp [qvx]
theorem qxs {w to found l}:(qvy w to found l).length=9:=by simp [qvy]
theorem qxg {α:Type} {l:List α} {a:α} {i:Nat} (h:i<(l++[a]).length) {P:α→Prop} (h1:∀ i (h:i<l.length),P l[i]) (h2:P a):P (l++[a])[i]:=by
 rcases qjP h with ⟨h',e1,_⟩ | ⟨_,e1,_⟩
 · rw [e1];exact h1 i h'
 · rw [e1];exact h2
theorem qxz {w:List UInt8} (hw:w.length≤8) {l:List Bk} (hR:RecV l) (hm:∀ x∈qu l,x≤QM):∀ i,i≤l.length→TbL w (qik w (l.take i)).1 (qik w (l.take i)).2 (qu (l.take i)):=by
 intro i
 induction i with
 | zero =>
   intro _
   exact ⟨⟨rfl,rfl,fun i h=>by simp [qik] at h,fun i h=>by simp [qik] at h,fun i s h=>by simp [qu] at h,fun i s h=>by simp [qu] at h⟩,fun i s h=>by simp [qu] at h⟩
 | succ i ih =>
   intro hi
   have ih:=ih (by omega)
   have hlt:i<l.length:=by omega
   have hll:(qu (l.take i)).length=i:=by rw [zy,List.length_take];omega
   have hpv:∀ p∈l[i].2,qI (qu (l.take i)).length p=true:=by rw [hll];exact hR.1 i hlt
   have htm:QZ (qu (l.take i)) l[i].2≤QM:=by
    obtain ⟨r,hr⟩:=jz (l:=l) (i+1)
    rw [QL hlt] at hr
    exact hm _ (by rw [hr];simp)
   have hmx:QM=1099511627776:=rfl
   have hfar:JS=1125899906842624:=rfl
   rw [qil hlt,QL hlt]
   unfold qp1
   generalize qik w (l.take i)=T at *
   obtain ⟨to,found⟩:=T
   simp only at ih ⊢
   have tl:=ih.ok.tl
   have fl:=ih.ok.fl
   generalize hP:l[i].2=ps at *
   have thr : ∀ s,s ≤ w.length → (qqC w to found ps s).1 ≤ w.length ∧ 0 ≤ (qqC w to found ps s).2 ∧ (qqC w to found ps s).2 ≤ QZ (qu (l.take i)) ps := fun s hs => by
    have a:=qxy ih.ok hs hpv ps.length (Nat.le_refl _)
    have b:=qxI ih hs hpv ps.length (Nat.le_refl _)
    rw [List.take_length] at a b
    exact ⟨a.1,a.2.1,by omega⟩
   have ra:∀ s,s≤w.length→(qvx w to found ps).getD s 0=((qqC w to found ps s).1:Int):=fun s hs=>by unfold qvx;rw [qkD (by omega),if_pos hs]
   have rb:∀ s,s≤w.length→(qvy w to found ps).getD s 0=(qqC w to found ps s).2:=fun s hs=>by unfold qvy;rw [qkD (by omega),if_pos hs]
   refine ⟨⟨by simp;omega,by simp;omega,fun j hj=>qxg (P:=fun r=>r.length=9) hj ih.ok.tr qxr,fun j hj=>qxg (P:=fun r=>r.length=9) hj ih.ok.fr qxs,fun j s hj hs=>?_,fun j s hj hs=>?_⟩,fun j s hj hs=>?_⟩
   · rw [qnt]
     by_cases h:j<to.length
     · rw [if_pos h];exact ih.ok.tv j s (by omega) hs
     · rw [if_neg h,if_pos (by simp at hj; omega),ra s hs]
       have:=thr s hs;omega
   · rw [qnt]
     by_cases h:j<found.length
     · rw [if_pos h];exact ih.ok.fv j s (by omega) hs
     · rw [if_neg h,if_pos (by simp at hj; omega),rb s hs]
       have:=thr s hs;omega
   · rw [qnt,VF]
     by_cases h:j<found.length
     · rw [if_pos h,if_pos (by omega)];exact ih.le j s (by omega) hs
     · have e : j = found.length := by simp at hj; omega
       rw [if_neg h,if_pos e,if_neg (by omega),rb s hs,show j - (qu (l.take i)).length=0 by omega]
       exact (thr s hs).2.2
end Go.AM

set_option maxRecDepth 100000
namespace Go.AM
open Go.RowKit Go.Proofs
def qwr:AC:=Subtype.val (p:=fun g=>qo Tryz.prog Tryz.f14 [8]=some g) (by refine ⟨?g,?h⟩;case h=>conv=>lhs;reduce)
theorem qww:qo Tryz.prog Tryz.f14 [8]=some qwr:=by kernel_rfl
def qws:AC:=Subtype.val (p:=fun g=>qo Tryz.prog Tryz.f30 [2]=some g) (by refine ⟨?g,?h⟩;case h=>conv=>lhs;reduce)
theorem qwN:qo Tryz.prog Tryz.f30 [2]=some qws:=by kernel_rfl
def qwL:AC:=Subtype.val (p:=fun g=>qo Tryz.prog Tryz.f52 [2]=some g) (by refine ⟨?g,?h⟩;case h=>conv=>lhs;reduce)
theorem qwO:qo Tryz.prog Tryz.f52 [2]=some qwL:=by kernel_rfl
def qxa:AC:=Subtype.val (p:=fun g=>qo Tryz.prog Tryz.f53 [4]=some g) (by refine ⟨?g,?h⟩;case h=>conv=>lhs;reduce)
theorem qw3:qo Tryz.prog Tryz.f53 [4]=some qxa:=by kernel_rfl
theorem qw8:ZR Tryz.prog Tryz.f53.results.toList=some [(4,some (true,3))]:=by kernel_rfl
theorem qwV {α:Type} {f:α→Bool} {l:List α} {i:Nat} (h:i<l.length) (hn:(l.take i).any f=false) (hf:f l[i]=false):(l.take (i+1)).any f=false:=by
 rw [List.take_succ_eq_append_getElem h,List.any_append,hn];simp [hf]
theorem qxc {α:Type} {f:α→Bool} {l:List α} {i:Nat} (h:i<l.length) (hf:f l[i]=true):l.any f=true:=List.any_eq_true.2 ⟨_,List.getElem_mem h,hf⟩
theorem qxL {n:Nat} {k:Int} (h:k<n):(k<(n:Int))=True:=by simp only [eq_iff_iff,iff_true];exact h
theorem qxK {n:Nat} {k:Int} (h:¬ k<n):(k<(n:Int))=False:=by simp only [eq_iff_iff,iff_false];exact h
def qwt:AC:=match qws with
 | .seq _ (.seq _ (.seq _ t))=>t
 | x=>x
theorem qxA {d : Dy} (hs : d.sh.length ≤ 60) {H : List HObj} (h0 : qr H 0 = some (.cells (dyC d))) (fr : List (Nat × AV)) :
 AWP Tryz.prog (E1 Tryz.prog) qwt ⟨(1,.ref 0 0)::fr,H⟩ (qfB [2] (Out (B (d.sh.any qvt)))):=by
 simp -implicitDefEqProofs (disch:=omega)[qwt,qws,qb]
 refine qO (fun q:Nat × List HObj=>⟨[(1,.ref 0 0),(4,I (q.1:Int))],q.2⟩) (fun q=>q.1≤d.sh.length∧(d.sh.take q.1).any qvt=false∧q.2=H) (fun q=>d.sh.length - q.1) (0,H) ⟨Nat.zero_le _,rfl,rfl⟩ rfl ?_
 rintro ⟨i,H2⟩ ⟨c1,c2,rfl⟩
 simp only at c1 c2 ⊢
 refine qW fun K0 hK0=>?_
 simp -implicitDefEqProofs (disch:=omega)[qb,h0,qf,dyC]
 refine qP (fun hc=>?_) (fun hc=>?_)
 · have hi : i < d.sh.length := by simpa using hc
   have ix:((i:Int)+1)=((i+1:Nat):Int):=by omega
   by_cases hb:70<d.sh[i].pat.length
   · have hb' : (70 < (d.sh[i].pat.length : Int)) = True := by simp only [eq_iff_iff,iff_true]; omega
     have:=qxc (f:=qvt) hi (decide_eq_true hb)
     rw [hK0]
     simp -implicitDefEqProofs (disch:=omega)[qb,hi,h0,qf,dyC,hb',this]
   · have hb' : (70 < (d.sh[i].pat.length : Int)) = False := by simp only [eq_iff_iff,iff_false]; omega
     simp -implicitDefEqProofs (disch:=omega)[qb,hi,h0,qf,dyC,hb']
     rw [hK0]
     exact qz (i+1,H2) ⟨by simp only;omega,qwV hi c2 (decide_eq_false hb),rfl⟩ (by simp only;omega) (by simp only [ix])
 · have hi : i = d.sh.length := by simp at hc; omega
   subst hi
   rw [List.take_length] at c2
   rw [hK0]
   simp -implicitDefEqProofs (disch:=omega)[qb,c2]
theorem qw4 (d:Dy):qC Tryz.prog 30 [DyV d] (B (qjT d)):=by
 refine qT (walk Tryz.func30 qwN (by kernel_rfl) (by show 1≤_;decide) ?_)
 simp -implicitDefEqProofs (disch:=omega)[qws,qb,dyC]
 unfold qjT
 by_cases q1:40<d.rc.length
 case pos =>
  have e1:=qxL (n:=d.rc.length) (k:=40) (by omega)
  simp -implicitDefEqProofs (disch:=omega)[qb,e1,q1]
 have e1:=qxK (n:=d.rc.length) (k:=40) (by omega)
 simp -implicitDefEqProofs (disch:=omega)[qb,e1,q1]
 by_cases q2:70<d.pat.length
 case pos =>
  have e2:=qxL (n:=d.pat.length) (k:=70) (by omega)
  simp -implicitDefEqProofs (disch:=omega)[qb,e2,q2]
 have e2:=qxK (n:=d.pat.length) (k:=70) (by omega)
 simp -implicitDefEqProofs (disch:=omega)[qb,e2,q2]
 by_cases q3:60<d.sh.length
 case pos =>
  have e3:=qxL (n:=d.sh.length) (k:=60) (by omega)
  simp -implicitDefEqProofs (disch:=omega)[qb,e3,q3]
 have e3:=qxK (n:=d.sh.length) (k:=60) (by omega)
 simp -implicitDefEqProofs (disch:=omega)[qb,e3,q3]
 refine qO (fun q:Nat × List HObj=>⟨[(1,.ref 0 0),(3,I (q.1:Int))],q.2⟩) (fun q=>q.1≤d.rc.length∧(d.rc.take q.1).any qvs=false∧q.2=[.cells (dyC d)]) (fun q=>d.rc.length - q.1) (0,[.cells (dyC d)]) ⟨Nat.zero_le _,rfl,rfl⟩ rfl ?_
 rintro ⟨i,H2⟩ ⟨c1,c2,rfl⟩
 simp only at c1 c2 ⊢
 refine qW fun K0 hK0=>?_
 simp -implicitDefEqProofs (disch:=omega)[qb,qf,dyC]
 refine qP (fun hc=>?_) (fun hc=>?_)
 · have hi : i < d.rc.length := by simpa using hc
   have ix:((i:Int)+1)=((i+1:Nat):Int):=by omega
   by_cases hb:20<d.rc[i].2.length
   · have hb' : (20 < (d.rc[i].2.length : Int)) = True := by simp only [eq_iff_iff,iff_true]; omega
     have:=qxc (f:=qvs) hi (by unfold qvs;simp [hb])
     rw [hK0]
     simp -implicitDefEqProofs (disch:=omega)[qb,hi,qf,dyC,hb',this]
   have hb':(20<(d.rc[i].2.length:Int))=False:=by simp only [eq_iff_iff,iff_false];omega
   by_cases hc2:100<d.rc[i].1.length
   · have hc' : (100 < (d.rc[i].1.length : Int)) = True := by simp only [eq_iff_iff,iff_true]; omega
     have:=qxc (f:=qvs) hi (by unfold qvs;simp [hc2])
     rw [hK0]
     simp -implicitDefEqProofs (disch:=omega)[qb,hi,qf,dyC,hb',hc',this]
   have hc':(100<(d.rc[i].1.length:Int))=False:=by simp only [eq_iff_iff,iff_false];omega
   simp -implicitDefEqProofs (disch:=omega)[qb,hi,qf,dyC,hb',hc']
   rw [hK0]
   refine qz (i+1,[.cells (dyC d)]) ⟨by simp only;omega,qwV hi c2 (by unfold qvs;simp [hb,hc2]),rfl⟩ (by simp only;omega) (by simp only [ix,dyC])
 · have hi : i = d.rc.length := by simp at hc; omega
   subst hi
   rw [List.take_length] at c2
   rw [hK0]
   have t:=qxA (d:=d) (by omega) (H:=[.cells (dyC d)]) rfl [(3,I (d.rc.length:Int))]
   simp -implicitDefEqProofs (disch:=omega)[qwt,qws,qb,dyC,c2] at t ⊢
   exact t
theorem qw5 (d:Dy) (hd:DyT d):qC Tryz.prog 52 [DyV d] (B (!qjT d&&decide (Wh d=0))):=by
 refine qT (walk Tryz.func52 qwO (by kernel_rfl) (by show 1≤_;decide) ?_)
 simp -implicitDefEqProofs (disch:=omega)[qwL,qb,dyC]
 refine qg (ys:=[DyV d]) (ids:=[]) rfl (qw4 d) ?_
 simp -implicitDefEqProofs (disch:=omega)[qb,AV.scalar]
 cases hg:qjT d with
 | true=>simp -implicitDefEqProofs (disch:=omega)[qb]
 | false =>
   simp -implicitDefEqProofs (disch:=omega)[qb,qf]
   refine qg (ys:=[DyV d]) (ids:=[]) rfl (qdl d (hd.i hg)) ?_
   simp -implicitDefEqProofs (disch:=omega)[qb,AV.scalar]
   by_cases e:Wh d=0
   · have e' : (Wh d == 0) = true := by rw [beq_iff_eq]; exact e
     simp -implicitDefEqProofs (disch:=omega)[qb,e',e]
   · have e' : (Wh d == 0) = false := by rw [beq_eq_false_iff_ne]; exact e
     simp -implicitDefEqProofs (disch:=omega)[qb,e',e]
theorem qxp (c:Int) (t:Int):qC Tryz.prog 53 [U c,I t] (.agg (ptC (c,-1,t))):=by
 refine qT (zj Tryz.func53 qw3 qw8 (by show 2≤_;decide) ?_)
 simp -implicitDefEqProofs (disch:=omega)[qxa,qb]
 exact Q7 (id:=0) (off:=0) rfl rfl (by simp) ⟨[],rfl⟩
end Go.AM

namespace Go.AM
open Go.RowKit
def cnP (p : Nat → Bool) : Nat → Int
 | 0=>0
 | n+1=>cnP p n+if p n then 1 else 0
theorem qwz {s w : List UInt8} : ∀ {n : Nat},n ≤ s.length → n ≤ w.length → w.take (qet s w n) <:+ s ∧ qet s w n ≤ n ∧ ∀ k,qet s w n < k → k ≤ n → ¬ w.take k <:+ s
 | 0,_,_=>⟨by simp [qet],Nat.le_refl _,fun k h1 h2=>by omega⟩
 | n+1, h1, h2=>by
   have ih:=qwz (s:=s) (w:=w) (n:=n) (by omega) (by omega)
   have e:(s.drop (s.length - (n+1))=w.take (n+1))↔w.take (n+1) <:+ s:=by
    rw [List.suffix_iff_eq_drop,List.length_take,Nat.min_eq_left h2]
    exact eq_comm
   unfold qet
   by_cases h:s.drop (s.length - (n+1))=w.take (n+1)
   · rw [if_pos h]
     exact ⟨e.1 h,Nat.le_refl _,fun k k1 k2=>by omega⟩
   · rw [if_neg h]
     refine ⟨ih.1,by omega,fun k k1 k2=>?_⟩
     by_cases e2:k=n+1
     · subst e2;exact fun hh=>h (e.2 hh)
     · exact ih.2.2 k k1 (by omega)
theorem qw2 {s w:List UInt8} {n m:Nat} (h1:n≤s.length) (h2:n≤w.length) (a:w.take m <:+ s) (b:m≤n) (c:∀ k,m<k→k≤n→¬ w.take k <:+ s):qet s w n=m:=by
 obtain ⟨x,y,z⟩:=qwz h1 h2
 rcases Nat.lt_trichotomy (qet s w n) m with h | h | h
 · exact absurd a (z m h b)
 · exact h
 · exact absurd x (c _ h y)
def qwy (w x:List UInt8):Nat:=qet x w (min x.length w.length)
theorem qwv (w x:List UInt8):w.take (qwy w x) <:+ x∧qwy w x≤w.length∧qwy w x≤x.length∧∀ k,qwy w x<k→k≤w.length→k≤x.length→¬ w.take k <:+ x:=by
 obtain ⟨a,b,c⟩:=qwz (s:=x) (w:=w) (n:=min x.length w.length) (by omega) (by omega)
 exact ⟨a,by unfold qwy;omega,by unfold qwy;omega,fun k h1 h2 h3=>c k h1 (by omega)⟩
theorem qxe (w x:List UInt8):qwy w x=w.length↔w <:+ x:=by
 obtain ⟨a,b,c,d⟩:=qwv w x
 constructor
 · intro h;rw [h,List.take_length] at a;exact a
 · intro h
   refine Classical.byContradiction fun hn=>?_
   refine d w.length (by omega) (Nat.le_refl _) h.length_le ?_
   rw [List.take_length];exact h
theorem qwq {w x:List UInt8} {c:UInt8} {k:Nat} (hk:k<w.length):w.take (k+1) <:+ x++[c]↔w.take k <:+ x∧w[k]=c:=by
 rw [List.take_succ_eq_append_getElem hk,List.suffix_concat_iff]
 constructor
 · rintro (h | ⟨t,h1,h2⟩)
   · have hh := congrArg List.length h
     rw [List.length_append,List.length_singleton,List.length_nil] at hh
     omega
   · obtain ⟨e1,e2⟩ := List.append_inj' h1 rfl
     rw [e1]
     exact ⟨h2,by simpa using e2⟩
 · rintro ⟨h1,h2⟩
   exact .inr ⟨w.take k,by rw [h2],h1⟩
theorem qxf (w x:List UInt8) (c:UInt8):qwy w (x++[c])=qet (w.take (qwy w x)++[c]) w (min (qwy w x+1) w.length):=by
 obtain ⟨a,b,b2,d⟩:=qwv w x
 obtain ⟨a',b',b2',d'⟩:=qwv w (x++[c])
 have hl:(w.take (qwy w x)++[c]).length=qwy w x+1:=by simp;omega
 have sub : ∀ k,k ≤ qwy w x → (w.take k <:+ x ↔ w.take k <:+ w.take (qwy w x)) := fun k hk => by
  constructor
  · intro h
    exact List.suffix_of_suffix_length_le h a (by simp;omega)
  · intro h;exact h.trans a
 have key : ∀ k,k < w.length → k ≤ qwy w x → (w.take (k + 1) <:+ x ++ [c] ↔ w.take (k + 1) <:+ w.take (qwy w x) ++ [c]) := fun k hk hk2 => by
  rw [qwq hk,qwq hk,sub k hk2]
 have up : ∀ k,k < w.length → w.take (k + 1) <:+ x ++ [c] → k ≤ qwy w x := fun k hk h => by
  have h1:=((qwq hk).1 h).1
  refine Nat.le_of_not_lt fun hn=>?_
  exact d k hn (by omega) (by have:=h1.length_le;simp at this;omega) h1
 symm
 refine qw2 (by omega) (by omega) ?_ ?_ ?_
 · cases hm:qwy w (x++[c]) with
   | zero=>simp
   | succ m =>
     rw [hm] at a' b'
     exact (key m (by omega) (up m (by omega) a')).1 a'
 · cases hm:qwy w (x++[c]) with
   | zero=>omega
   | succ m =>
     rw [hm] at a' b'
     have:=up m (by omega) a'
     omega
 · intro k k1 k2 hk
   obtain ⟨m,rfl⟩:∃ m,k=m+1:=⟨k - 1,by omega⟩
   refine d' (m+1) k1 (by omega) ?_ ((key m (by omega) (by omega)).2 hk)
   have:=((qwq (w:=w) (x:=w.take (qwy w x)) (c:=c) (k:=m) (by omega)).1 hk).1.length_le
   simp at this
   simp;omega
def qwA (w:List UInt8) (s:Nat × Int) (c:UInt8):Nat × Int:=(qbb w s.1 (c.toNat:Int),if qbb w s.1 (c.toNat:Int)=w.length then s.2+1 else s.2)
def qwQ (w x:List UInt8) (s:Nat × Int):Nat × Int:=x.foldl (qwA w) s
theorem qwK (w x y:List UInt8) (s:Nat × Int):qwQ w (x++y) s=qwQ w y (qwQ w x s):=List.foldl_append
theorem qwU (w : List UInt8) : ∀ (x : List UInt8) (s : Nat × Int),s.1 ≤ w.length → (qwQ w x s).1 ≤ w.length
 | [],s,h=>h
 | c::x,s,h=>qwU w x (qwA w s c) (qcA _ _ _)
theorem qwZ (w : List UInt8) : ∀ (x : List UInt8) (s : Nat) (n m : Int),qwQ w x (s,n + m) = ((qwQ w x (s,n)).1,(qwQ w x (s,n)).2 + m)
 | [],s,n,m=>rfl
 | c::x,s,n,m=>by
   show qwQ w x (qwA w (s,n+m) c)=((qwQ w x (qwA w (s,n) c)).1,(qwQ w x (qwA w (s,n) c)).2+m)
   have e:qwA w (s,n+m) c=((qwA w (s,n) c).1,(qwA w (s,n) c).2+m):=by
    simp only [qwA,Prod.mk.injEq,true_and]
    split <;> omega
   rw [e,qwZ w x]
def qxn (w x:List UInt8) (i:Nat):Bool:=decide (w <:+ x.take (i+1))
def occ (w x:List UInt8):Int:=cnP (qxn w x) x.length
theorem qxt {w:List UInt8} (hw:w≠[]) (x:List UInt8):qwQ w x (0,0)=(qwy w x,occ w x):=by
 have key:∀ i,i≤x.length→qwQ w (x.take i) (0,0)=(qwy w (x.take i),cnP (qxn w x) i):=by
  intro i
  induction i with
  | zero =>
    intro _
    have:qwy w []=0:=by
     have:=(qwv w []).2.2.1
     simpa using this
    simp [qwQ,cnP,this]
  | succ i ih =>
    intro hi
    have hlt:i<x.length:=by omega
    rw [List.take_succ_eq_append_getElem hlt,qwK,ih (by omega)]
    show qwA w (qwy w (x.take i),cnP (qxn w x) i) x[i]=_
    have e:qbb w (qwy w (x.take i)) (x[i].toNat:Int)=qwy w (x.take i++[x[i]]):=by
     rw [qxf]
     unfold qbb
     simp
    simp only [qwA,e,Prod.mk.injEq,true_and,cnP]
    have e2:(qwy w (x.take i++[x[i]])=w.length)↔qxn w x i=true:=by
     rw [qxe]
     unfold qxn
     rw [decide_eq_true_iff,List.take_succ_eq_append_getElem hlt]
    by_cases h:qxn w x i=true
    · rw [if_pos (e2.2 h),if_pos h]
    · rw [if_neg (fun hh=>h (e2.1 hh)),if_neg h];omega
 have:=key x.length (Nat.le_refl _)
 rw [List.take_length] at this
 exact this
theorem qxB (c:UInt8) (x:List UInt8):occ [c] x=(x.count c:Nat):=by
 have key:∀ i,i≤x.length→cnP (qxn [c] x) i=((x.take i).count c:Nat):=by
  intro i
  induction i with
  | zero=>intro _;simp [cnP]
  | succ i ih =>
    intro hi
    have hlt:i<x.length:=by omega
    simp only [cnP]
    rw [ih (by omega),List.take_succ_eq_append_getElem hlt,List.count_append]
    have e:qxn [c] x i=true↔x[i]=c:=by
     unfold qxn
     rw [decide_eq_true_iff,List.take_succ_eq_append_getElem hlt,List.suffix_concat_iff]
     constructor
     · rintro (h | ⟨t,h1,h2⟩)
       · simp at h
       · have := (List.append_inj' (show ([] : List UInt8) ++ [c] = t ++ [x[i]] from h1) rfl).2
         simpa using this.symm
     · intro h;exact .inr ⟨[],by rw [h];rfl,List.nil_suffix⟩
    by_cases h:x[i]=c
    · rw [if_pos (e.2 h),List.count_singleton,if_pos (by simp [h])];omega
    · rw [if_neg (fun hh=>h (e.1 hh)),List.count_singleton,if_neg (by simp [h])];omega
 have:=key x.length (Nat.le_refl _)
 rw [List.take_length] at this
 exact this
def qxJ (w:List UInt8) (T:List (List UInt8)) (to found:List (List Int)) (n:Nat):Prop:=∀ i,i<n→∀ s,s≤w.length→qwQ w (T.getD i []) (s,0)=((atT to (i:Int) s).toNat,atT found (i:Int) s)
theorem qxd {T:List (List Int)} {r:Int} {s:Nat}:atT T ((r.toNat:Nat):Int) s=atT T r s:=by
 unfold atT;rw [Int.toNat_natCast]
theorem qxq {w:List UInt8} {T:List (List UInt8)} {to found:List (List Int)} {n:Nat} (h:qxJ w T to found n) {p:Pt} (hp:qI n p=true) {x:Nat × Int} (hx:x.1≤w.length):qqA w to found p x=qwQ w (qaD T p) x:=by
 obtain ⟨s,m⟩:=x
 unfold qqA qaD
 by_cases e:0≤p.2.1
 · rw [if_pos e,if_pos e]
   have hi:p.2.1.toNat<n:=by
    rcases zk hp with ⟨h,_⟩ | ⟨_,_,h⟩ <;> omega
   have k:=h _ hi s hx
   rw [qxd,qxd] at k
   have:=qwZ w (T.getD p.2.1.toNat []) s 0 m
   rw [Int.zero_add,k] at this
   rw [this]
   simp only [Prod.mk.injEq,true_and]
   omega
 · rw [if_neg e,if_neg e]
   have ha:VZ p.1=true:=by
    rcases zk hp with ⟨_,h⟩ | ⟨_,h,_⟩
    · exact h
    · exact absurd h e
   have hb:0≤p.1∧p.1≤255:=by unfold VZ at ha;simp only [Bool.and_eq_true,decide_eq_true_eq] at ha;omega
   show _=qwA w (s,m) (UInt8.ofNat p.1.toNat)
   unfold qwA
   simp only [qnf hb.1 hb.2]
theorem qwF {w : List UInt8} {T : List (List UInt8)} {to found : List (List Int)} {n : Nat} (h : qxJ w T to found n) {p : Pt} (hp : qI n p = true) {x : Nat × Int} (hx : x.1 ≤ w.length) : ∀ k : Nat,qiD w to found p k x = qwQ w (ZG T p k) x
 | 0=>rfl
 | k+1=>by
   rw [qgI,qwK,←qwF h hp hx k]
   refine qxq h hp ?_
   rw [qwF h hp hx k]
   exact qwU w _ _ hx
theorem qw1 {w:List UInt8} {T:List (List UInt8)} {to found:List (List Int)} {n:Nat} (h:qxJ w T to found n) {l:List Pt} (hl:∀ p∈l,qI n p=true) {s:Nat} (hs:s≤w.length):∀ i,i≤l.length→qqC w to found (l.take i) s=qwQ w (spell T (l.take i)) (s,0):=by
 intro i
 induction i with
 | zero=>intro _;rfl
 | succ i ih =>
   intro hi
   have hlt:i<l.length:=by omega
   rw [qne hlt,qcf hlt,qwK,ih (by omega)]
   exact qwF h (hl _ (List.getElem_mem hlt)) (qwU w _ _ hs) _
theorem qxH {w:List UInt8} (hw:w.length≤8) {l:List Bk} (hR:RecV l) (hm:∀ x∈qu l,x≤QM):∀ i,i≤l.length→qxJ w (spR (l.take i)) (qik w (l.take i)).1 (qik w (l.take i)).2 i:=by
 intro i
 induction i with
 | zero=>intro _ i h;omega
 | succ i ih =>
   intro hi
   have ih:=ih (by omega)
   have hlt:i<l.length:=by omega
   have hsl:(spR (l.take i)).length=i:=by rw [qkT,List.length_take];omega
   have ok:=(qxz hw hR hm i (by omega)).ok
   have hll:(qu (l.take i)).length=i:=by rw [zy,List.length_take];omega
   have tl:=ok.tl
   have fl:=ok.fl
   rw [hll] at tl fl
   intro j hj s hs
   rw [qil hlt,qhT hlt]
   unfold qp1
   rw [VG,hsl]
   simp only [qnt,tl,fl]
   by_cases h:j<i
   · rw [if_pos h,if_pos h,if_pos h];exact ih j h s hs
   · have e : j = i := by omega
     subst e
     rw [if_neg h,if_neg h,if_pos rfl,if_neg h,if_pos rfl,Nat.sub_self]
     have t:=qw1 ih (hR.1 j hlt) hs l[j].2.length (Nat.le_refl _)
     rw [List.take_length] at t
     unfold qvx qvy
     rw [qkD (by omega),qkD (by omega),if_pos hs,if_pos hs,t]
     simp
theorem qxo {d:Dy} {p:Pt} {w:List UInt8} (hw:w≠[]) (hw8:w.length≤8) (h:qbc d p w=0):qfT d p w=occ w (spell (spR d.rc) [p]):=by
 have hp:Zb d p=0:=by
  unfold qbc at h
  split at h
  · rename_i h2;exact h2
  · exact h
 obtain ⟨hb,hpp⟩:=VL.1 hp
 have V:=jw.1 hb
 unfold qfT
 rw [if_pos h]
 have tb:=qxH hw8 V.recV V.rm d.rc.length (Nat.le_refl _)
 rw [List.take_length] at tb
 have t:=qw1 tb (l:=[p]) (fun q hq=>by rw [List.mem_singleton] at hq;rw [hq];exact hpp) (s:=0) (Nat.zero_le _) 1 (Nat.le_refl _)
 rw [show [p].take 1=[p] from rfl] at t
 rw [t,qxt hw]
theorem qwu {T : List (List UInt8)} {p : Pt} {c : UInt8} : ∀ k : Nat,(ZG T p k).count c = k * (qaD T p).count c
 | 0=>by simp [ZG]
 | k+1=>by rw [qgI,List.count_append,qwu k,Nat.add_mul,Nat.one_mul]
theorem ofNat_inj {a b:Int} (ha:0≤a∧a≤255) (hb:0≤b∧b≤255):UInt8.ofNat a.toNat=UInt8.ofNat b.toNat↔a=b:=by
 constructor
 · intro h
   have h1:=qnf ha.1 ha.2
   have h2:=qnf hb.1 hb.2
   rw [h,h2] at h1
   exact h1.symm
 · rintro rfl;rfl
theorem qw7 {has:List Int} {T:List (List UInt8)} {act:Int} (ha:VZ act=true) {n:Nat} (hT:∀ i,i<n→has.getD i 0=((T.getD i []).count (UInt8.ofNat act.toNat):Nat)) {p:Pt} (hp:qI n p=true):qnI has act p=((qaD T p).count (UInt8.ofNat act.toNat):Nat):=by
 have h97:97≤act∧act≤122:=by unfold VZ at ha;simp only [Bool.and_eq_true,decide_eq_true_eq] at ha;omega
 unfold qnI qaD
 rcases zk hp with ⟨h1,h2⟩ | ⟨h1,h2,h3⟩
 · have hb : 97 ≤ p.1 ∧ p.1 ≤ 122 := by unfold VZ at h2; simp only [Bool.and_eq_true,decide_eq_true_eq] at h2; omega
   rw [if_neg (by omega:¬ 0≤p.2.1),if_neg (by omega:¬ 0≤p.2.1),List.count_singleton]
   have:=ofNat_inj (a:=p.1) (b:=act) (by omega) (by omega)
   by_cases e:p.1=act
   · rw [if_pos e,if_pos (by simp [this.2 e])];rfl
   · rw [if_neg e,if_neg (by simp;exact fun h=>e (this.1 h))];rfl
 · rw [if_neg (by omega : ¬ p.1 = act),if_pos h2,if_pos h2]
   exact hT _ (by omega)
theorem qwx {has : List Int} {T : List (List UInt8)} {act : Int} (ha : VZ act = true) {n : Nat} (hT : ∀ i,i < n → has.getD i 0 = ((T.getD i []).count (UInt8.ofNat act.toNat) : Nat)) : ∀ {l : List Pt} (m : Int),(∀ p ∈ l,qI n p = true) → l.foldl (qfD has act) m = m + ((spell T l).count (UInt8.ofNat act.toNat) : Nat)
 | [],m,_=>by simp [spell]
 | p::l,m,hl=>by
   have hp:=hl p (by simp)
   have tm:=Qd hp
   rw [List.foldl_cons,qwx ha hT _ fun q hq=>hl q (by simp [hq])]
   unfold qfD
   rw [qw7 ha hT hp]
   have e:spell T (p::l)=ZG T p p.2.2.toNat++spell T l:=by unfold spell;rw [List.flatMap_cons]
   rw [e,List.count_append,qwu]
   have e2:((p.2.2.toNat:Nat):Int)=p.2.2:=by omega
   rw [Int.natCast_add,Int.natCast_mul,e2,Int.mul_comm]
   omega
theorem qxh {act:Int} (ha:VZ act=true) {l:List Bk} (hR:RecV l):∀ i,i≤l.length→∀ j,j<i→(qiw act (l.take i)).getD j 0=(((spR (l.take i)).getD j []).count (UInt8.ofNat act.toNat):Nat):=by
 intro i
 induction i with
 | zero=>intro _ j h;omega
 | succ i ih =>
   intro hi j hj
   have hlt:i<l.length:=by omega
   have hhl:(qiw act (l.take i)).length=i:=by rw [qj2,List.length_take];omega
   have hsl:(spR (l.take i)).length=i:=by rw [qkT,List.length_take];omega
   rw [qhu hlt,qhT hlt,VF,VG,hhl,hsl]
   by_cases h:j<i
   · rw [if_pos h,if_pos h];exact ih (by omega) j h
   · have e : j = i := by omega
     subst e
     rw [if_neg h,if_neg h,Nat.sub_self]
     have:=qwx ha (ih (by omega)) (l:=l[j].2) 0 (hR.1 j hlt)
     rw [Int.zero_add] at this
     simpa [qa8] using this
theorem qw6 {d:Dy} {p:Pt} {act:Int} (h:qe3 d p act=0):qiC d p act=((spell (spR d.rc) [p]).count (UInt8.ofNat act.toNat):Nat):=by
 have hp:Zb d p=0∧VZ act=true:=by
  unfold qe3 at h
  split at h
  · rename_i h2
    refine ⟨h2,?_⟩
    cases ha:VZ act with
    | true=>rfl
    | false=>rw [ha] at h;cases h
  · rename_i h2;exact absurd h h2
 obtain ⟨hb,hpp⟩:=VL.1 hp.1
 have V:=jw.1 hb
 unfold qiC
 rw [if_pos h]
 have hc:=qxh hp.2 V.recV d.rc.length (Nat.le_refl _)
 rw [List.take_length] at hc
 have:=qwx hp.2 hc (l:=[p]) 0 (fun q hq=>by rw [List.mem_singleton] at hq;rw [hq];exact hpp)
 rw [Int.zero_add] at this
 exact this
def qxl (x:List UInt8):Prop:=∀ c∈x,97≤c.toNat∧c.toNat≤122
theorem qwI {T : List (List UInt8)} {p : Pt} (h : qxl (qaD T p)) : ∀ k,qxl (ZG T p k)
 | 0=>fun c hc=>by simp [ZG] at hc
 | k + 1 => fun c hc => by
   rw [qgI,List.mem_append] at hc
   rcases hc with hc | hc
   · exact qwI h k c hc
   · exact h c hc
theorem qwY {T:List (List UInt8)} {n:Nat} (hT:∀ i,i<n→qxl (T.getD i [])) {p:Pt} (hp:qI n p=true):qxl (qaD T p):=by
 unfold qaD
 rcases zk hp with ⟨h1,h2⟩ | ⟨h1,h2,h3⟩
 · rw [if_neg (by omega)]
   intro c hc
   rw [List.mem_singleton] at hc
   have hb:97≤p.1∧p.1≤122:=by unfold VZ at h2;simp only [Bool.and_eq_true,decide_eq_true_eq] at h2;omega
   have:=qnf (c:=p.1) (by omega) (by omega)
   rw [hc];omega
 · rw [if_pos h2];exact hT _ (by omega)
theorem qw9 {T:List (List UInt8)} {n:Nat} (hT:∀ i,i<n→qxl (T.getD i [])) {l:List Pt} (hl:∀ p∈l,qI n p=true):qxl (spell T l):=by
 intro c hc
 unfold spell at hc
 obtain ⟨p,hp,hc⟩:=List.mem_flatMap.1 hc
 exact qwI (qwY hT (hl p hp)) _ c hc
theorem qxu {l:List Bk} (hR:RecV l):∀ i,i≤l.length→∀ j,j<i→qxl ((spR (l.take i)).getD j []):=by
 intro i
 induction i with
 | zero=>intro _ j h;omega
 | succ i ih =>
   intro hi j hj
   have hlt:i<l.length:=by omega
   have hsl:(spR (l.take i)).length=i:=by rw [qkT,List.length_take];omega
   rw [qhT hlt,VG,hsl]
   by_cases h:j<i
   · rw [if_pos h];exact ih (by omega) j h
   · have e : j = i := by omega
     subst e
     rw [if_neg h,Nat.sub_self]
     exact qw9 (ih (by omega)) (hR.1 j hlt)
def qwR (x : List UInt8) : Nat → Nat
 | 0=>0
 | n+1=>qwR x n+x.count (UInt8.ofNat (97+n))
theorem qwS {c : UInt8} {x : List UInt8} : ∀ n,n ≤ 26 → qwR (c :: x) n = qwR x n + if 97 ≤ c.toNat ∧ c.toNat < 97 + n then 1 else 0
 | 0,_=>by simp only [qwR];rw [if_neg (by omega)]
 | n+1, h=>by
   simp only [qwR]
   rw [qwS n (by omega),List.count_cons]
   have e:(c==UInt8.ofNat (97+n))=decide (c.toNat=97+n):=by
    have hh:(UInt8.ofNat (97+n)).toNat=97+n:=by
     have:(UInt8.ofNat (97+n)).toNat=(97+n) % 256:=UInt8.toNat_ofNat'
     omega
    by_cases e:c=UInt8.ofNat (97+n)
    · rw [e,hh];simp
    · have : c.toNat ≠ 97 + n := fun h2 => e (UInt8.toNat_inj.1 (by rw [hh]; exact h2))
      rw [decide_eq_false this];exact beq_eq_false_iff_ne.2 e
   rw [e]
   by_cases h1:c.toNat=97+n
   · have a : ¬ (97 ≤ c.toNat ∧ c.toNat < 97 + n) := by omega
     have b:97≤c.toNat∧c.toNat<97+(n+1):=by omega
     rw [if_neg a,if_pos b,decide_eq_true h1,if_pos rfl];omega
   · by_cases h2 : 97 ≤ c.toNat ∧ c.toNat < 97 + n
     · have b : 97 ≤ c.toNat ∧ c.toNat < 97 + (n + 1) := by omega
       rw [if_pos h2,if_pos b,decide_eq_false h1,if_neg (by decide)];omega
     · have b : ¬ (97 ≤ c.toNat ∧ c.toNat < 97 + (n + 1)) := by omega
       rw [if_neg h2,if_neg b,decide_eq_false h1,if_neg (by decide)];omega
theorem qw0 : ∀ {x : List UInt8},qxl x → qwR x 26 = x.length
 | [],_=>rfl
 | c::x,h=>by
   rw [qwS 26 (Nat.le_refl _),qw0 fun b hb=>h b (by simp [hb]),if_pos (by have:=h c (by simp);omega)]
   rfl
theorem qwG {a : List UInt8} : ∀ {k i : Nat},i < k * a.length → (List.replicate k a).flatten[i]? = a[i % a.length]?
 | 0,i,h=>by simp at h
 | k+1,i,h=>by
   rw [List.replicate_succ,List.flatten_cons]
   by_cases e:i<a.length
   · rw [List.getElem?_append_left e,Nat.mod_eq_of_lt e]
   · rw [List.getElem?_append_right (by omega),qwG (by rw [Nat.add_mul,Nat.one_mul] at h;omega),←Nat.mod_eq_sub_mod (by omega)]
theorem qwH {T : List (List UInt8)} {long : List Int} (hS : qtx T long) : ∀ {l : List Pt} {i : Nat},(∀ p ∈ l,qI long.length p = true) → (spell T l).length ≤ 1099511627776 → i < (spell T l).length →
 ∃ j:Nat,(qdf long l i).1∈l∧(qdf long l i).2=(j:Int)∧j<(ZG T (qdf long l i).1 (qdf long l i).1.2.2.toNat).length∧(spell T l)[i]?=(ZG T (qdf long l i).1 (qdf long l i).1.2.2.toNat)[j]?
 | [],i,_,_,h=>by simp [spell] at h
 | p::l, i, hl, hm, h=>by
   have hfar:JS=1125899906842624:=rfl
   have hp:=hl p (by simp)
   have tm:=Qd hp
   have e:spell T (p::l)=ZG T p p.2.2.toNat++spell T l:=by unfold spell;rw [List.flatMap_cons]
   rw [e,List.length_append] at hm h
   have e1:spell T [p]=ZG T p p.2.2.toNat:=by unfold spell;simp
   have tg:=qaW hS (l:=[p]) (fun q hq=>by rw [List.mem_singleton] at hq;rw [hq];omega)
   rw [e1] at tg
   have tg2:QZ long [p]=((ZG T p p.2.2.toNat).length:Int):=by omega
   unfold qdf
   rw [tg2]
   by_cases hlt:i<(ZG T p p.2.2.toNat).length
   · rw [if_pos (by omega)]
     exact ⟨i,by simp,rfl,hlt,by rw [e,List.getElem?_append_left hlt]⟩
   · rw [if_neg (by omega)]
     have e3:(i:Int) - ((ZG T p p.2.2.toNat).length:Int)=((i - (ZG T p p.2.2.toNat).length:Nat):Int):=by omega
     rw [e3]
     obtain ⟨j,h1,h2,h3,h4⟩:=qwH hS (l:=l) (i:=i - (ZG T p p.2.2.toNat).length) (fun q hq=>hl q (by simp [hq])) (by omega) (by omega)
     exact ⟨j,by simp [h1],h2,h3,by rw [e,List.getElem?_append_right (by omega)];exact h4⟩
theorem qxm {rc : List Bk} (hR : RecV rc) (hm : ∀ x ∈ qu rc, x ≤ QM) : ∀ (n : Nat) (p : Pt) (i : Nat), qI rc.length p = true → p.2.1 < (n : Int) → i < (ZG (spR rc) p p.2.2.toNat).length →
 ∃ c,(ZG (spR rc) p p.2.2.toNat)[i]?=some c∧atF (qu rc) rc (n+1) p i=(c.toNat:Int):=by
 have hmx:QM=1099511627776:=rfl
 have hfar:JS=1125899906842624:=rfl
 have hS:=quD hR hm rc.length (Nat.le_refl _)
 rw [List.take_length] at hS
 intro n
 induction n with
 | zero =>
   intro p i hp hn hi
   have hact:VZ p.1=true∧p.2.1<0:=by
    rcases zk hp with ⟨h1,h2⟩ | ⟨h1,h2,h3⟩
    · exact ⟨h2,by omega⟩
    · omega
   have hb:97≤p.1∧p.1≤122:=by have:=hact.1;unfold VZ at this;simp only [Bool.and_eq_true,decide_eq_true_eq] at this;omega
   refine ⟨UInt8.ofNat p.1.toNat,?_,?_⟩
   · have eo : qaD (spR rc) p = [UInt8.ofNat p.1.toNat] := if_neg (by omega)
     unfold ZG at hi ⊢
     rw [qwG (by simpa using hi),eo]
     simp [Nat.mod_one]
   · unfold atF
     rw [if_pos hact.2]
     exact (qnf (by omega) (by omega)).symm
 | succ n ih =>
   intro p i hp hn hi
   by_cases hneg:p.2.1<0
   · have hact:VZ p.1=true:=by
      rcases zk hp with ⟨h1,h2⟩ | ⟨h1,h2,h3⟩
      · exact h2
      · omega
     have hb:97≤p.1∧p.1≤122:=by have:=hact;unfold VZ at this;simp only [Bool.and_eq_true,decide_eq_true_eq] at this;omega
     refine ⟨UInt8.ofNat p.1.toNat,?_,?_⟩
     · have eo : qaD (spR rc) p = [UInt8.ofNat p.1.toNat] := if_neg (by omega)
       unfold ZG at hi ⊢
       rw [qwG (by simpa using hi),eo]
       simp [Nat.mod_one]
     · unfold atF
       rw [if_pos hneg]
       exact (qnf (by omega) (by omega)).symm
   · have hr:p.2.1.toNat<rc.length:=by
      rcases zk hp with ⟨h1,h2⟩ | ⟨h1,h2,h3⟩ <;> omega
     have eo:qaD (spR rc) p=spell (spR rc) rc[p.2.1.toNat].2:=by
      unfold qaD;rw [if_pos (by omega),qp0 hR hr]
     have hlen:(qu rc).getD p.2.1.toNat 0=((spell (spR rc) rc[p.2.1.toNat].2).length:Int):=by
      rw [←eo,qmQ hS]
      unfold ja;rw [if_pos (by omega)]
     have hpos:0<(qaD (spR rc) p).length:=by
      rcases Nat.eq_zero_or_pos (qaD (spR rc) p).length with h | h
      · unfold ZG at hi;simp [h] at hi
      · exact h
     rw [eo] at hpos
     have hlm:(spell (spR rc) rc[p.2.1.toNat].2).length≤1099511627776:=by
      have:(qu rc).getD p.2.1.toNat 0≤QM:=by
       have hl:p.2.1.toNat<(qu rc).length:=by rw [zy];exact hr
       rw [List.getD_eq_getElem?_getD,List.getElem?_eq_getElem hl]
       exact hm _ (List.getElem_mem hl)
      omega
     have hpv : ∀ q ∈ rc[p.2.1.toNat].2,qI (qu rc).length q = true := fun q hq => by
      rw [zy]
      exact WC (hR.1 _ hr q hq) (by omega)
     have hmod:i % (spell (spR rc) rc[p.2.1.toNat].2).length<(spell (spR rc) rc[p.2.1.toNat].2).length:=Nat.mod_lt _ hpos
     obtain ⟨j,h1,h2,h3,h4⟩:=qwH hS hpv hlm hmod
     have hsmall:=hR.1 _ hr _ h1
     obtain ⟨c,c1,c2⟩ := ih _ j (by have := hpv _ h1; rw [zy] at this; exact this) (by
      rcases zk hsmall with ⟨h,_⟩ | ⟨_,_,h⟩ <;> omega) h3
     refine ⟨c,?_,?_⟩
     · have hi2 := hi
       unfold ZG at hi2 ⊢
       rw [qwG (by simpa using hi2),eo,h4]
       exact c1
     · unfold atF
       rw [if_neg hneg,hlen]
       have eg:rc.getD p.2.1.toNat ([],[])=rc[p.2.1.toNat]:=by
        rw [List.getD_eq_getElem?_getD,List.getElem?_eq_getElem hr];rfl
       rw [eg]
       have et:(i:Int).tmod ((spell (spR rc) rc[p.2.1.toNat].2).length:Int)=((i % (spell (spR rc) rc[p.2.1.toNat].2).length:Nat):Int):=by
        rw [Int.ofNat_tmod]
       rw [et,h2]
       exact c2
end Go.AM

namespace Go.AM
open Go.RowKit Go.Proofs
def qwD (d:Dy) (a r:Int):List UInt8:=qaD (spR d.rc) (a,r,1)
theorem qwB {d:Dy} {a r:Int} (t:Int):ZG (spR d.rc) (a,r,t) t.toNat=(List.replicate t.toNat (qwD d a r)).flatten:=rfl
theorem qwT {n:Nat} {a r t:Int} (h:qI n (a,r,1)=true) (ht:1≤t∧t≤1000):qI n (a,r,t)=true:=by
 unfold qI at h ⊢
 simp only [Bool.and_eq_true,decide_eq_true_eq] at h ⊢
 exact ⟨ht,h.2⟩
theorem qwW {x : List UInt8} : ∀ k : Nat,(List.replicate k x).flatten.length = k * x.length
 | 0=>by simp
 | k+1=>by rw [List.replicate_succ,List.flatten_cons,List.length_append,qwW k,Nat.add_mul];omega
theorem qxj {d:Dy} {a r:Int} (t:Int):spell (spR d.rc) [(a,r,t)]=(List.replicate t.toNat (qwD d a r)).flatten:=by
 unfold spell;simp;rfl
theorem qxE {d:Dy} {a r:Int}:spell (spR d.rc) [(a,r,1)]=qwD d a r:=by
 rw [qxj];simp
theorem qxv {d:Dy} (V:DayV d):∀ b∈d.rc,b.2≠[]:=fun b hb=>by
 obtain ⟨i,hi,rfl⟩:=List.getElem_of_mem hb
 have h:=V.rb i hi
 unfold jv at h
 simp only [Bool.and_eq_true,decide_eq_true_eq] at h
 intro e
 rw [e] at h
 simp at h
theorem qxi {d:Dy} (V:DayV d) {a r:Int} (hp:qI d.rc.length (a,r,1)=true):1≤(qwD d a r).length∧((qwD d a r).length:Int)≤1099511627776∧((qwD d a r).length:Int)=ja (qu d.rc) (a,r,1):=by
 have hS:=quD V.recV V.rm d.rc.length (Nat.le_refl _)
 rw [List.take_length] at hS
 have e:=qmQ hS (a,r,1)
 have hl:=qmB V.recV (qxv V) d.rc.length (Nat.le_refl _)
 rw [List.take_length] at hl
 have p1:=qpk hl (p:=(a,r,1)) (by rw [zy];exact hp)
 have hm:ja (qu d.rc) (a, r, 1)≤1099511627776:=by
  unfold ja
  split
  · rename_i h0
    rcases zk hp with ⟨h1,_⟩ | ⟨_,h2,h3⟩
    · exact absurd h0 (by rw [h1];decide)
    · have hi : (a,r,(1 : Int)).2.1.toNat < (qu d.rc).length := by rw [zy]; omega
      rw [List.getD_eq_getElem?_getD,List.getElem?_eq_getElem hi]
      exact V.rm _ (List.getElem_mem hi)
  · decide
 have e':((qwD d a r).length:Int)=ja (qu d.rc) (a,r,1):=e
 exact ⟨by omega,by omega,e'⟩
theorem qwP {d:Dy} (V:DayV d) {a r t:Int} (hp:qI d.rc.length (a,r,1)=true) (ht:1≤t∧t≤1000):Zb d (a,r,t)=0∧qc6 d (a,r,t)=(qwD d a r).length*t:=by
 have hE:Zb d (a,r,t)=0:=VL.2 ⟨jw.2 V,qwT hp ht⟩
 obtain ⟨l1,l2,l3⟩:=qxi V hp
 refine ⟨hE,?_⟩
 unfold qc6
 rw [if_pos hE]
 show min JS (0+ja (qu d.rc) (a,r,t)*t)=_
 have e:ja (qu d.rc) (a,r,t)=((qwD d a r).length:Int):=l3.symm
 rw [e]
 have hfar:JS=1125899906842624:=rfl
 have hb:((qwD d a r).length:Int)*t≤1099511627776*1000:=Int.mul_le_mul l2 ht.2 (by omega) (by decide)
 rw [hfar,Int.zero_add]
 generalize ((qwD d a r).length:Int)*t=y at hb ⊢
 omega
theorem qxb {d:Dy} (V:DayV d) {a r:Int} (hp:qI d.rc.length (a,r,1)=true):qxl (qwD d a r):=by
 have h:=qxu V.recV d.rc.length (Nat.le_refl _)
 rw [List.take_length] at h
 exact qwY h hp
theorem qxM {d : Dy} (V : DayV d) {a r t : Int} (hp : qI d.rc.length (a,r,1) = true) (ht : 1 ≤ t ∧ t ≤ 1000) {i : Nat} (hi : (i : Int) < (qwD d a r).length * t) :
 atE d (a,r,t) i=0∧∃ c:UInt8,(qwD d a r)[i % (qwD d a r).length]?=some c∧atR d (a,r,t) i=(c.toNat:Int):=by
 obtain ⟨l1,l2⟩:=qwP V hp ht
 have hE:atE d (a,r,t) i=0:=by
  unfold atE
  rw [if_pos l1,l2,if_neg (by omega)]
 refine ⟨hE,?_⟩
 have hk:i<t.toNat*(qwD d a r).length:=by
  have e:((t.toNat*(qwD d a r).length:Nat):Int)=(qwD d a r).length*t:=by
   rw [Int.natCast_mul,Int.mul_comm];congr 1;omega
  omega
 obtain ⟨c,c1,c2⟩ := qxm V.recV V.rm d.rc.length (a,r,t) i (qwT hp ht) (by
  rcases zk (qwT hp ht) with ⟨h,_⟩ | ⟨_,_,h⟩ <;> omega) (by
  show i<(ZG (spR d.rc) (a,r,t) t.toNat).length
  rw [qwB,qwW];exact hk)
 have c1':(ZG (spR d.rc) (a,r,t) t.toNat)[i]?=some c:=c1
 rw [qwB,qwG hk] at c1'
 exact ⟨c,c1',by unfold atR;rw [if_pos hE];exact c2⟩
theorem qxx {d : Dy} (V : DayV d) {a r t : Int} (hp : qI d.rc.length (a,r,1) = true) (ht : 1 ≤ t ∧ t ≤ 1000) {k : Int} (hk : 97 ≤ k ∧ k ≤ 122) :
 qe3 d (a,r,t) k=0∧qiC d (a,r,t) k=t*((qwD d a r).count (UInt8.ofNat k.toNat):Nat):=by
 have hE:qe3 d (a,r,t) k=0:=by
  unfold qe3
  rw [if_pos (qwP V hp ht).1,if_pos (by unfold VZ;simp;omega)]
 refine ⟨hE,?_⟩
 rw [qw6 hE,qxj]
 have h:=qwu (T:=spR d.rc) (p:=(a,r,t)) (c:=UInt8.ofNat k.toNat) t.toNat
 rw [qwB] at h
 have e:qaD (spR d.rc) (a,r,t)=qwD d a r:=rfl
 rw [h,e,Int.natCast_mul]
 congr 1;omega
theorem qxF {d : Dy} (V : DayV d) {a r : Int} (hp : qI d.rc.length (a,r,1) = true) {w : List UInt8} (hw : qgg w = true) (h0 : w ≠ []) (h8 : w.length ≤ 8) :
 qbc d (a,r,1) w=0∧qfT d (a,r,1) w=occ w (qwD d a r):=by
 have hE:qbc d (a,r,1) w=0:=by
  unfold qbc
  rw [if_pos (qwP V hp (by omega)).1,if_pos hw]
 exact ⟨hE,by rw [qxo h0 h8 hE,qxE]⟩
theorem qxk {x : List UInt8} : ∀ (k j : Nat),qwR x j ≤ qwR x (j + k)
 | 0,j=>Nat.le_refl _
 | k+1,j=>by
   have:=qxk (x:=x) k j
   show qwR x j≤qwR x (j+k)+_
   omega
theorem qxw {k:Nat} (h:97≤k∧k≤122):qgg [UInt8.ofNat k]=true:=by
 have e:(UInt8.ofNat k).toNat=k:=by rw [UInt8.toNat_ofNat',Nat.mod_eq_of_lt (by omega)]
 unfold qgg
 simp only [List.all_cons,List.all_nil,Bool.and_true,YN,e,List.length_cons,List.length_nil]
 simp;omega
theorem qwM {d : Dy} (hg : qjT d = false) (dI : DyI d) (V : DayV d) {a r : Int} (hp : qI d.rc.length (a,r,1) = true) (t0 : Nat) (ht : t0 ≤ 255) (idx : Nat) (hidx : idx < 18446744073709551616) (fr xs : List (Nat × AV)) (y : AV)
 (hfr:fr=(2,U (t0:Int))::(3,.v (.int .u64 (idx:Int)))::(4,.ref 0 0)::(9,.ref 1 0)::xs∨fr=(1,y)::(2,U (t0:Int))::(3,.v (.int .u64 (idx:Int)))::(4,.ref 0 0)::(9,.ref 1 0)::xs) :
 AWS Tryz.prog (.seq (.rgn [⟨none,[(.mv 52 (.t 2)),(.cnv 53 .i64 (.t 52)),(.bin 54 .add (.k (I 1)) (.t 53)),(.mv 10 (.t 54))]⟩] [3,4,9,10]) (.seq (.rgn [⟨none,[(.ld 55 true 3 (.t 9)),(.al 11 [(.v (.int .u8 0)),(I 0),(I 0)]),(.st 3 (.t 11) (.t 55))]⟩] [3,4,9,10,11]) (.seq (.rgn [⟨none,[(.mv 56 (.t 10)),(.fa 57 (.t 11) 2),(.st 1 (.t 57) (.t 56))]⟩] [3,4,9,10,11]) (.seq (.rgn [⟨none,[(.ld 59 true 5 (.t 4)),(.ld 60 true 3 (.t 9)),(.call 61 36 [(.t 59),(.t 60)]),(.mv 58 (.t 61)),(.ext 62 (.t 58) 0),(.ext 63 (.t 58) 1),(.mv 12 (.t 62)),(.mv 13 (.t 63))]⟩] [3,4,9,10,11,12,13]) (.seq (.rgn [⟨none,[(.ld 65 true 5 (.t 4)),(.ld 66 true 3 (.t 11)),(.call 67 36 [(.t 65),(.t 66)]),(.mv 64 (.t 67)),(.ext 68 (.t 64) 0),(.ext 69 (.t 64) 1),(.mv 14 (.t 68)),(.mv 15 (.t 69))]⟩] [3,4,9,10,11,12,13,14,15]) (.seq (.seq (.rgn [⟨none,[(.mv 70 (.t 13)),(.bin 71 .neq (.t 70) (.k (I 0))),(.mv 72 (.t 71))]⟩,⟨(some (72,false)),[(.mv 73 (.t 15)),(.bin 74 .neq (.t 73) (.k (I 0)))]⟩,⟨none,[(.pick 75 (.t 72) (.k (B true)) (.t 74)),(.mv 76 (.t 75))]⟩,⟨(some (76,false)),[(.mv 77 (.t 12)),(.bin 78 .lss (.t 77) (.k (I 1)))]⟩,⟨none,[(.pick 79 (.t 76) (.k (B true)) (.t 78)),(.mv 80 (.t 79))]⟩,⟨(some (80,false)),[(.mv 81 (.t 12)),(.bin 82 .gtr (.t 81) (.k (I 1099511627776)))]⟩,⟨none,[(.pick 83 (.t 80) (.k (B true)) (.t 82)),(.mv 84 (.t 83))]⟩,⟨(some (84,false)),[(.mv 85 (.t 14)),(.mv 86 (.t 12)),(.mv 87 (.t 10)),(.bin 88 .mul (.t 86) (.t 87)),(.bin 89 .neq (.t 85) (.t 88))]⟩,⟨none,[(.pick 90 (.t 84) (.k (B true)) (.t 89))]⟩] [3,4,9,10,11,12,14,90]) (.cond (.t 90) (.seq (.rgn [⟨none,[(.mv 8 (.k (B false)))]⟩] [8]) .ret) .skip)) (.seq (.rgn [⟨none,[(.mv 91 (.t 3)),(.bin 92 .rem (.t 91) (.k (.v (.int .u64 4611686018427387904)))),(.cnv 93 .i64 (.t 92)),(.mv 94 (.t 14)),(.bin 95 .rem (.t 93) (.t 94)),(.mv 16 (.t 95))]⟩] [4,9,10,11,12,16]) (.seq (.rgn [⟨none,[(.ld 97 true 5 (.t 4)),(.ld 98 true 3 (.t 11)),(.mv 99 (.t 16)),(.call 100 38 [(.t 97),(.t 98),(.t 99)]),(.mv 96 (.t 100)),(.ext 101 (.t 96) 0),(.ext 102 (.t 96) 1),(.mv 17 (.t 101)),(.mv 18 (.t 102))]⟩] [4,9,10,11,12,16,17,18]) (.seq (.drw [⟨none,[(.ld 104 true 5 (.t 4)),(.ld 105 true 3 (.t 9)),(.mv 106 (.t 16)),(.mv 107 (.t 12)),(.bin 108 .rem (.t 106) (.t 107)),(.call 109 38 [(.t 104),(.t 105),(.t 108)]),(.mv 103 (.t 109)),(.ext 110 (.t 103) 0),(.ext 111 (.t 103) 1),(.mv 19 (.t 110)),(.mv 20 (.t 111))]⟩] [(0,1)] [4,9,10,11,12,17,18,19,20]) (.seq (.seq (.rgn [⟨none,[(.mv 112 (.t 18)),(.bin 113 .neq (.t 112) (.k (I 0))),(.mv 114 (.t 113))]⟩,⟨(some (114,false)),[(.mv 115 (.t 20)),(.bin 116 .neq (.t 115) (.k (I 0)))]⟩,⟨none,[(.pick 117 (.t 114) (.k (B true)) (.t 116)),(.mv 118 (.t 117))]⟩,⟨(some (118,false)),[(.mv 119 (.t 17)),(.mv 120 (.t 19)),(.bin 121 .neq (.t 119) (.t 120))]⟩,⟨none,[(.pick 122 (.t 118) (.k (B true)) (.t 121)),(.mv 123 (.t 122))]⟩,⟨(some (123,false)),[(.mv 124 (.t 17)),(.call 125 55 [(.t 124)]),(.un 126 .not (.t 125))]⟩,⟨none,[(.pick 127 (.t 123) (.k (B true)) (.t 126))]⟩] [4,9,10,11,12,17,127]) (.cond (.t 127) (.seq (.rgn [⟨none,[(.mv 8 (.k (B false)))]⟩] [8]) .ret) .skip)) (.seq (.rgn [⟨none,[(.mv 21 (.k (I 0)))]⟩] [4,9,10,11,12,17,21]) (.seq (.seq (.rgn [⟨none,[(.mv 22 (.k (.v (.int .u8 97))))]⟩] [4,9,10,11,12,17,21,22]) (.block 0 (.loop (.seq (.seq (.rgn [⟨none,[(.mv 128 (.t 22)),(.bin 129 .leq (.t 128) (.k (.v (.int .u8 122))))]⟩] [4,9,10,11,12,17,21,22,129]) (.cond (.t 129) .skip (.exit 0))) (.seq (.block 1 (.seq (.rgn [⟨none,[(.ld 133 true 5 (.t 4)),(.ld 134 true 3 (.t 9)),(.mv 135 (.t 22)),(.call 136 40 [(.t 133),(.t 134),(.t 135)]),(.mv 132 (.t 136)),(.ext 137 (.t 132) 0),(.ext 138 (.t 132) 1),(.mv 23 (.t 137)),(.mv 24 (.t 138))]⟩] [4,9,10,11,12,17,21,22,23,24]) (.seq (.rgn [⟨none,[(.ld 140 true 5 (.t 4)),(.ld 141 true 3 (.t 11)),(.mv 142 (.t 22)),(.call 143 40 [(.t 140),(.t 141),(.t 142)]),(.mv 139 (.t 143)),(.ext 144 (.t 139) 0),(.ext 145 (.t 139) 1),(.mv 25 (.t 144)),(.mv 26 (.t 145))]⟩] [4,9,10,11,12,17,21,22,23,24,25,26]) (.seq (.rgn [⟨none,[(.ld 147 true 5 (.t 4)),(.ld 148 true 3 (.t 9)),(.mv 149 (.t 22)),(.bsl 150 1 1 [(.v (.int .u8 0))] [(0,(.t 149))]),(.b2s 151 (.t 150)),(.call 152 42 [(.t 147),(.t 148),(.t 151)]),(.mv 146 (.t 152)),(.ext 153 (.t 146) 0),(.ext 154 (.t 146) 1),(.mv 27 (.t 153)),(.mv 28 (.t 154))]⟩] [4,9,10,11,12,17,21,22,23,24,25,26,27,28]) (.seq (.seq (.rgn [⟨none,[(.mv 155 (.t 24)),(.bin 156 .neq (.t 155) (.k (I 0))),(.mv 157 (.t 156))]⟩,⟨(some (157,false)),[(.mv 158 (.t 26)),(.bin 159 .neq (.t 158) (.k (I 0)))]⟩,⟨none,[(.pick 160 (.t 157) (.k (B true)) (.t 159)),(.mv 161 (.t 160))]⟩,⟨(some (161,false)),[(.mv 162 (.t 28)),(.bin 163 .neq (.t 162) (.k (I 0)))]⟩,⟨none,[(.pick 164 (.t 161) (.k (B true)) (.t 163)),(.mv 165 (.t 164))]⟩,⟨(some (165,false)),[(.mv 166 (.t 23)),(.bin 167 .lss (.t 166) (.k (I 0)))]⟩,⟨none,[(.pick 168 (.t 165) (.k (B true)) (.t 167)),(.mv 169 (.t 168))]⟩,⟨(some (169,false)),[(.mv 170 (.t 23)),(.mv 171 (.t 12)),(.bin 172 .gtr (.t 170) (.t 171))]⟩,⟨none,[(.pick 173 (.t 169) (.k (B true)) (.t 172)),(.mv 174 (.t 173))]⟩,⟨(some (174,false)),[(.mv 175 (.t 25)),(.mv 176 (.t 23)),(.mv 177 (.t 10)),(.bin 178 .mul (.t 176) (.t 177)),(.bin 179 .neq (.t 175) (.t 178))]⟩,⟨none,[(.pick 180 (.t 174) (.k (B true)) (.t 179)),(.mv 181 (.t 180))]⟩,⟨(some (181,false)),[(.mv 182 (.t 27)),(.mv 183 (.t 23)),(.bin 184 .neq (.t 182) (.t 183))]⟩,⟨none,[(.pick 185 (.t 181) (.k (B true)) (.t 184)),(.mv 186 (.t 185))]⟩,⟨(some (186,false)),[(.mv 187 (.t 22)),(.mv 188 (.t 17)),(.bin 189 .eql (.t 187) (.t 188)),(.mv 190 (.t 189))]⟩,⟨(some (190,true)),[(.mv 191 (.t 23)),(.bin 192 .lss (.t 191) (.k (I 1)))]⟩,⟨(some (186,false)),[(.pick 193 (.t 190) (.t 192) (.k (B false)))]⟩,⟨none,[(.pick 194 (.t 186) (.k (B true)) (.t 193))]⟩] [4,9,10,11,12,17,21,22,23,194]) (.cond (.t 194) (.seq (.rgn [⟨none,[(.mv 8 (.k (B false)))]⟩] [8]) .ret) .skip)) (.rgn [⟨none,[(.mv 195 (.t 21)),(.mv 196 (.t 23)),(.bin 197 .add (.t 195) (.t 196)),(.mv 21 (.t 197))]⟩] [4,9,10,11,12,17,21,22])))))) (.rgn [⟨none,[(.mv 130 (.t 22)),(.bin 131 .add (.t 130) (.k (.v (.int .u8 1)))),(.mv 22 (.t 131))]⟩] [4,9,10,11,12,17,21,22])))))) (.seq (.rgn [⟨none,[(.mv 198 (.t 21)),(.mv 199 (.t 12)),(.bin 200 .eql (.t 198) (.t 199)),(.mv 201 (.t 200))]⟩,⟨(some (201,true)),[(.call 202 18 [])]⟩,⟨none,[(.pick 203 (.t 201) (.t 202) (.k (B false))),(.mv 8 (.t 203))]⟩] [8]) .ret))))))))))))) ⟨fr,[.cells (dyC d),.cells (ptC (a,r,1))]⟩ (qfB [8] (Out (B true))):=by
 have ed:[Bks d.rc,I d.bath,I d.laid,Pts d.pat,Shs d.sh]=dyC d:=rfl
 obtain ⟨T,hT⟩:∃ T:Nat,T=t0+1:=⟨_,rfl⟩
 have hT2:1≤(T:Int)∧(T:Int)≤256:=by omega
 have eT:(1:Int)+(t0:Int)=(T:Int):=by omega
 have e1:[U a,I r,I 1]=ptC (a,r,1):=rfl
 have eA:[U a,I r,I (T:Int)]=ptC (a,r,(T:Int)):=rfl
 obtain ⟨l1,l2,l3⟩:=qxi V hp
 obtain ⟨p1,p2⟩:=qwP V hp (t:=1) (by omega)
 obtain ⟨q1,q2⟩:=qwP V hp (t:=(T:Int)) (by omega)
 rw [Int.mul_one] at p2
 have hacts:=qxb V hp
 have hat:∀ {i:Nat},(i:Int)<(qwD d a r).length*(T:Int)→_:=fun {i} hi=>qxM V hp (t:=(T:Int)) (by omega) hi
 have hat1:∀ {i:Nat},(i:Int)<(qwD d a r).length*(1:Int)→_:=fun {i} hi=>qxM V hp (t:=1) (by omega) hi
 have hm1:∀ {k:Int},97≤k∧k≤122→_:=fun {k} hk=>qxx V hp (t:=1) (by omega) hk
 have hmT:∀ {k:Int},97≤k∧k≤122→_:=fun {k} hk=>qxx V hp (t:=(T:Int)) (by omega) hk
 generalize hX:qwD d a r=X at l1 l2 q2 p2 hacts hat hat1 hm1 hmT
 obtain ⟨M,hM⟩:∃ M:Nat,M=X.length*T:=⟨_,rfl⟩
 have eM:((X.length:Int)*(T:Int))=(M:Int):=by rw [hM,Int.natCast_mul]
 have hMb:(M:Int)≤1099511627776*256:=by rw [←eM];exact Int.mul_le_mul l2 hT2.2 (by omega) (by decide)
 have hM1:1≤M:=by rw [hM];exact Nat.mul_pos l1 (by omega)
 rw [eM] at q2
 obtain ⟨J,hJ⟩:∃ J:Nat,J=idx % 4611686018427387904:=⟨_,rfl⟩
 have hJl:J<4611686018427387904:=by rw [hJ];exact Nat.mod_lt _ (by decide)
 have m1:(idx:Int).tmod 4611686018427387904=(J:Int):=by rw [hJ];rfl
 obtain ⟨A,hA⟩:∃ A:Nat,A=J % M:=⟨_,rfl⟩
 have hAl:A<M:=by rw [hA];exact Nat.mod_lt _ (by omega)
 have m2:(J:Int).tmod (M:Int)=(A:Int):=by rw [hA];rfl
 obtain ⟨B1,hB⟩:∃ B1:Nat,B1=A % X.length:=⟨_,rfl⟩
 have hBl:B1<X.length:=by rw [hB];exact Nat.mod_lt _ (by omega)
 have m3:(A:Int).tmod (X.length:Int)=(B1:Int):=by rw [hB];rfl
 have z1:((M:Int)==0)=false:=by rw [beq_eq_false_iff_ne];omega
 have z2:((X.length:Int)==0)=false:=by rw [beq_eq_false_iff_ne];omega
 have ha:0≤a∧a≤255:=by
  rcases zk hp with ⟨_,h⟩ | ⟨h,_⟩
  · unfold VZ at h;simp only [Bool.and_eq_true,decide_eq_true_eq] at h;omega
  · have h : a = 0 := h
    omega
 have c1:((X.length:Int)<1)=False:=by simp only [eq_iff_iff,iff_false];omega
 have c2:(1099511627776<(X.length:Int))=False:=by simp only [eq_iff_iff,iff_false];omega
 have c3:((M:Int) != (M:Int))=false:=bne_self_eq_false _
 rcases hfr with rfl | rfl
 all_goals
  refine zV ?_
  simp -implicitDefEqProofs (disch:=omega)[qb,eT]
  refine zV ?_
  simp -implicitDefEqProofs (disch:=omega)[qb,qf,ptC]
  refine zV ?_
  simp -implicitDefEqProofs (disch:=omega)[qb]
  refine zV ?_
  simp -implicitDefEqProofs (disch:=omega)[qb,qf,dyC]
  simp only [ed,e1,eA]
  refine qg (ys:=[DyV d,.agg (ptC (a,r,1))]) (ids:=[]) rfl (qjY d dI (a,r,1)) ?_
  rw [p1,p2]
  simp -implicitDefEqProofs (disch:=omega)[qb,AV.scalar]
  refine zV ?_
  simp -implicitDefEqProofs (disch:=omega)[qb,qf,dyC,ptC]
  simp only [ed,e1,eA]
  refine qg (ys:=[DyV d,.agg (ptC (a,r,(T:Int)))]) (ids:=[]) rfl (qjY d dI (a,r,(T:Int))) ?_
  rw [q1,q2]
  simp -implicitDefEqProofs (disch:=omega)[qb,AV.scalar]
  refine zV ?_
  simp -implicitDefEqProofs (disch:=omega)[qb,c1,c2,eM,c3]
  refine zV ?_
  simp -implicitDefEqProofs (disch:=omega)[qb,m1,m2,z1]
  obtain ⟨g1,ch,g2,g3⟩:=hat (i:=A) (by rw [eM];omega)
  obtain ⟨g4,ch',g5,g6⟩:=hat1 (i:=B1) (by omega)
  rw [←hB] at g2
  rw [Nat.mod_eq_of_lt hBl] at g5
  obtain rfl:ch=ch':=Option.some.inj (g2.symm.trans g5)
  obtain ⟨hb1,hb2⟩:=List.getElem?_eq_some_iff.1 g2
  have hch:=hacts ch (by rw [←hb2];exact List.getElem_mem hb1)
  have cc:((ch.toNat:Int) != (ch.toNat:Int))=false:=bne_self_eq_false _
  have hAct:VZ (ch.toNat:Int)=true:=by unfold VZ;simp;omega
  refine zV ?_
  simp -implicitDefEqProofs (disch:=omega)[qb,qf,dyC,ptC]
  simp only [ed,e1,eA]
  refine qg (ys:=[DyV d,.agg (ptC (a,r,(T:Int))),I (A:Int)]) (ids:=[]) rfl (qjV d dI (a,r,(T:Int)) (A:Int) (by unfold i64;omega)) ?_
  rw [g1,g3]
  simp -implicitDefEqProofs (disch:=omega)[qb,AV.scalar]
  refine zV ?_
  simp -implicitDefEqProofs (disch:=omega)[qb,qf,dyC,ptC,m3,z2,zW,zJ,zE]
  simp only [ed,e1,eA]
  refine qQ (ys:=[DyV d,.agg (ptC (a,r,1)),I (B1:Int)]) (ids:=[]) rfl (qjV d dI (a,r,1) (B1:Int) (by unfold i64;omega)) ?_
  rw [g4,g6]
  simp -implicitDefEqProofs (disch:=omega)[qb,AV.scalar,zW,zJ,zE]
  refine zV ?_
  simp -implicitDefEqProofs (disch:=omega)[qb,cc]
  refine qg (ys:=[U (ch.toNat:Int)]) (ids:=[]) rfl (qb7 (ch.toNat:Int)) ?_
  rw [hAct]
  simp -implicitDefEqProofs (disch:=omega)[qb,AV.scalar]
  refine zV ?_
  simp -implicitDefEqProofs (disch:=omega)[qb]
  have fin:∀ (x1 x2 x3 x4 x5:AV) (zs:List (Nat × AV)) (H:List HObj),AWS Tryz.prog (.seq (.rgn [⟨none,[(.mv 198 (.t 21)),(.mv 199 (.t 12)),(.bin 200 .eql (.t 198) (.t 199)),(.mv 201 (.t 200))]⟩,⟨(some (201,true)),[(.call 202 18 [])]⟩,⟨none,[(.pick 203 (.t 201) (.t 202) (.k (B false))),(.mv 8 (.t 203))]⟩] [8]) .ret) ⟨(4,x1)::(9,x2)::(10,x3)::(11,x4)::(12,I (X.length:Int))::(17,x5)::(21,I (X.length:Int))::zs,H⟩ (qfB [8] (Out (B true))):=by
   intro x1 x2 x3 x4 x5 zs H
   refine zV ?_
   simp -implicitDefEqProofs (disch:=omega)[qb]
   refine qg (ys:=[]) (ids:=[]) rfl qqz ?_
   simp -implicitDefEqProofs (disch:=omega)[qb,AV.scalar]
   refine qnu ?_
   simp -implicitDefEqProofs (disch:=omega)[qb]
  have sAll:=qw0 hacts
  refine zV ?_
  simp -implicitDefEqProofs (disch:=omega)[qb]
  refine qW fun K9 hK9=>?_
  refine qO (fun κ:Nat=>⟨[(4,.ref 0 0),(9,.ref 1 0),(10,I (T:Int)),(11,.ref 2 0),(12,I (X.length:Int)),(17,U (ch.toNat:Int)),(21,I (qwR X (κ - 97):Int)),(22,U (κ:Int))],[.cells (dyC d),.cells (ptC (a,r,1)),.cells (ptC (a,r,(T:Int)))]⟩) (fun κ=>97≤κ∧κ≤123) (fun κ=>123 - κ) 97 ⟨Nat.le_refl _,by omega⟩ rfl ?_
  rintro κ ⟨k1,k2⟩
  refine qW fun K0 hK0=>?_
  simp -implicitDefEqProofs (disch:=omega)[qb]
  refine qP (fun hc=>?_) (fun hc=>?_)
  · have hk : κ ≤ 122 := by simp at hc; omega
    have hkk:97≤(κ:Int)∧(κ:Int)≤122:=by omega
    obtain ⟨u1,u2⟩:=hm1 hkk
    obtain ⟨v1,v2⟩:=hmT hkk
    have hkn:((κ:Int)).toNat=κ:=by omega
    rw [hkn] at u2 v2
    obtain ⟨f1,f2⟩:=qxF V hp (qxw ⟨k1,hk⟩) (by simp) (by simp)
    rw [hX,qxB] at f2
    obtain ⟨C,hC⟩:∃ C:Nat,C=X.count (UInt8.ofNat κ):=⟨_,rfl⟩
    rw [←hC] at u2 v2 f2
    rw [Int.one_mul] at u2
    have hCl:C≤X.length:=by rw [hC];exact List.count_le_length
    simp -implicitDefEqProofs (disch:=omega)[qb,qf,dyC,ptC]
    simp only [ed,e1,eA]
    refine qg (ys:=[DyV d,.agg (ptC (a,r,1)),U (κ:Int)]) (ids:=[]) rfl (qjZ d dI (a,r,1) (κ:Int) (by omega)) ?_
    rw [u1,u2]
    simp -implicitDefEqProofs (disch:=omega)[qb,AV.scalar,qf,dyC,ptC]
    simp only [ed,e1,eA]
    refine qg (ys:=[DyV d,.agg (ptC (a,r,(T:Int))),U (κ:Int)]) (ids:=[]) rfl (qjZ d dI (a,r,(T:Int)) (κ:Int) (by omega)) ?_
    rw [v1,v2]
    simp -implicitDefEqProofs (disch:=omega)[qb,AV.scalar,qf,dyC,ptC]
    simp only [ed,e1,eA]
    refine zq (ys:=[U (κ:Int)]) (ids:=[]) rfl rfl ?_
    have hz:List.drop 1 (zP 1 [AV.v (Value.int .u8 0)])=[]:=rfl
    have hz2:zP 1 [AV.v (Value.int .u8 0)]=[AV.v (Value.int .u8 0)]:=rfl
    simp -implicitDefEqProofs (disch:=omega)[qb,hz,hz2]
    refine qg (ys:=[DyV d,.agg (ptC (a,r,1)),S [UInt8.ofNat κ]]) (ids:=[]) rfl (qjX d dI (a,r,1) ha [UInt8.ofNat κ] (by simp)) ?_
    rw [f1,f2]
    have r1:((C:Int)<0)=False:=by simp only [eq_iff_iff,iff_false];omega
    have r2:((X.length:Int)<(C:Int))=False:=by simp only [eq_iff_iff,iff_false];omega
    have hmul:0≤(C:Int)*(T:Int)∧(C:Int)*(T:Int)≤1099511627776*256:=⟨Int.mul_nonneg (by omega) (by omega),Int.mul_le_mul (by omega) hT2.2 (by omega) (by decide)⟩
    have r3:((T:Int)*(C:Int) != (C:Int)*(T:Int))=false:=by rw [Int.mul_comm];exact bne_self_eq_false _
    have r4:((C:Int) != (C:Int))=false:=bne_self_eq_false _
    have s1:qwR X (κ - 97)+C=qwR X (κ+1 - 97):=by
     have e:κ+1 - 97=(κ - 97)+1:=by omega
     rw [e]
     show _=qwR X (κ - 97)+X.count (UInt8.ofNat (97+(κ - 97)))
     rw [show 97+(κ - 97)=κ by omega,hC]
    have s2:qwR X (κ+1 - 97)≤X.length:=by
     have:=qxk (x:=X) (26 - (κ+1 - 97)) (κ+1 - 97)
     rw [show κ+1 - 97+(26 - (κ+1 - 97))=26 by omega,sAll] at this
     exact this
    obtain ⟨S1,hS1⟩:∃ S1:Nat,S1=qwR X (κ - 97):=⟨_,rfl⟩
    obtain ⟨S2,hS2⟩:∃ S2:Nat,S2=qwR X (κ+1 - 97):=⟨_,rfl⟩
    rw [←hS1,←hS2] at s1
    rw [←hS2] at s2
    rw [←hS1]
    have sx:(S1:Int)+(C:Int)=(S2:Int):=by omega
    have kx:(κ:Int)+1=((κ+1:Nat):Int):=by omega
    obtain ⟨κ2,hκ2⟩:∃ k:Nat,k=κ+1:=⟨_,rfl⟩
    have kx2:(κ:Int)+1=(κ2:Int):=by omega
    have hw8:IntKind.u8.wrap (κ2:Int)=(κ2:Int):=qgP (by omega)
    by_cases hkc:κ=ch.toNat
    · have r5 : ((κ : Int) == (ch.toNat : Int)) = true := by rw [hkc,beq_iff_eq]
      have hpos:1≤C:=by
       rw [hC,hkc,UInt8.ofNat_toNat,←hb2]
       exact List.count_pos_iff.2 (List.getElem_mem hb1)
      have r6:((C:Int)<1)=False:=by simp only [eq_iff_iff,iff_false];omega
      simp -implicitDefEqProofs (disch:=omega)[qb,AV.scalar,r1,r2,r3,r4,r5,r6,sx,kx2,hw8]
      rw [hK0]
      exact qz κ2 ⟨by omega,by omega⟩ (by omega) (by rw [hS2,hκ2])
    · have r5 : ((κ : Int) == (ch.toNat : Int)) = false := by rw [beq_eq_false_iff_ne]; omega
      simp -implicitDefEqProofs (disch:=omega)[qb,AV.scalar,r1,r2,r3,r4,r5,sx,kx2,hw8]
      rw [hK0]
      exact qz κ2 ⟨by omega,by omega⟩ (by omega) (by rw [hS2,hκ2])
  · have hk : κ = 123 := by simp at hc; omega
    subst hk
    subst hK0
    simp -implicitDefEqProofs (disch:=omega)[qb]
    subst hK9
    rw [sAll]
    exact fin _ _ _ _ _ _ _
theorem qwC (d:Dy) (hd:DyT d) (r0:Nat) (hr:r0≤255) (t0:Nat) (ht:t0≤255) (idx:Nat) (hidx:idx<18446744073709551616):qC Tryz.prog 14 [DyV d,U (r0:Int),U (t0:Int),.v (.int .u64 (idx:Int))] (B true):=by
 refine qT (qjr Tryz.func14 qww (by kernel_rfl) (by show 4≤_;decide) ?_)
 unfold qwr
 have ed:[Bks d.rc,I d.bath,I d.laid,Pts d.pat,Shs d.sh]=dyC d:=rfl
 refine zV ?_
 simp -implicitDefEqProofs (disch:=omega)[qb,dyC]
 simp only [ed]
 refine zV ?_
 simp -implicitDefEqProofs (disch:=omega)[qb,qf,dyC]
 simp only [ed]
 refine qg (ys:=[DyV d]) (ids:=[]) rfl (qw5 d hd) ?_
 by_cases hv:qjT d=false∧Wh d=0
 case neg =>
  have e:(!qjT d&&decide (Wh d=0))=false:=by
   rw [Bool.and_eq_false_iff]
   cases h:qjT d with
   | true=>exact .inl rfl
   | false=>exact .inr (decide_eq_false fun h2=>hv ⟨h,h2⟩)
  rw [e]
  simp -implicitDefEqProofs (disch:=omega)[qb,AV.scalar]
  refine qg (ys:=[]) (ids:=[]) rfl qqz ?_
  simp -implicitDefEqProofs (disch:=omega)[qb,AV.scalar]
 obtain ⟨hg,hE⟩:=hv
 have e:(!qjT d&&decide (Wh d=0))=true:=by rw [hg,decide_eq_true hE];rfl
 rw [e]
 simp -implicitDefEqProofs (disch:=omega)[qb,AV.scalar]
 have dI:=hd.i hg
 have V:DayV d:=by
  unfold Wh at hE
  split at hE
  · rename_i h;exact jw.1 h
  · exact absurd hE (by decide)
 obtain ⟨a0,ha0⟩:∃ a0:Nat,a0=r0 % 26:=⟨_,rfl⟩
 have m0:(r0:Int).tmod 26=(a0:Int):=by rw [ha0];rfl
 have a0l:a0<26:=by omega
 obtain ⟨a1,ha1⟩:∃ a1:Nat,a1=97+a0:=⟨_,rfl⟩
 have m1:(97:Int)+(a0:Int)=(a1:Int):=by omega
 have w1:IntKind.u8.wrap (a1:Int)=(a1:Int):=qgP (by omega)
 have w0:IntKind.u8.wrap (a0:Int)=(a0:Int):=qgP (by omega)
 refine zV ?_
 simp -implicitDefEqProofs (disch:=omega)[qb,m0,m1,w0,w1]
 refine qg (ys:=[U (a1:Int),I 1]) (ids:=[]) rfl (qxp (a1:Int) 1) ?_
 have e1:[U (a1:Int),I (-1),I 1]=ptC ((a1:Int),-1,1):=rfl
 simp -implicitDefEqProofs (disch:=omega)[qb,AV.scalar,ptC]
 simp only [e1]
 have hp1:qI d.rc.length ((a1:Int),-1,1)=true:=by
  unfold qI VZ;simp;omega
 have rest:=@qwM d hg dI V
 by_cases hc:0<d.rc.length∧r0<200
 case neg =>
  refine zV ?_
  by_cases hc0:0<d.rc.length
  · have g0 : (0 < (d.rc.length : Int)) = True := by simp only [eq_iff_iff,iff_true]; omega
    have g1:((r0:Int)<200)=False:=by simp only [eq_iff_iff,iff_false];omega
    simp -implicitDefEqProofs (disch:=omega)[qb,qf,dyC,g0,g1,hc0]
    exact rest hp1 t0 ht idx hidx _ _ _ (.inr rfl)
  · have g0 : (0 < (d.rc.length : Int)) = False := by simp only [eq_iff_iff,iff_false]; omega
    simp -implicitDefEqProofs (disch:=omega)[qb,qf,dyC,g0,hc0]
    exact rest hp1 t0 ht idx hidx _ _ _ (.inr rfl)
 obtain ⟨h0,h2⟩:=hc
 have g0:(0<(d.rc.length:Int))=True:=by simp only [eq_iff_iff,iff_true];omega
 have g1:((r0:Int)<200)=True:=by simp only [eq_iff_iff,iff_true];omega
 obtain ⟨R,hR⟩:∃ R:Nat,R=r0 % d.rc.length:=⟨_,rfl⟩
 have hRl:R<d.rc.length:=by rw [hR];exact Nat.mod_lt _ h0
 have mR:(r0:Int).tmod (d.rc.length:Int)=(R:Int):=by rw [hR];rfl
 have zR:((d.rc.length:Int)==0)=false:=by rw [beq_eq_false_iff_ne];omega
 have hl32:=V.rl
 have hp2:qI d.rc.length (0,(R:Int),1)=true:=by
  unfold qI
  rw [if_neg (by simp)]
  simp;omega
 refine zV ?_
 simp -implicitDefEqProofs (disch:=omega)[qb,qf,dyC,g0,g1,h0,mR,zR]
 refine qg (ys:=[I (R:Int),I 1]) (ids:=[]) rfl (Jv (R:Int) 1) ?_
 simp -implicitDefEqProofs (disch:=omega)[qb,AV.scalar,ptC]
 exact rest hp2 t0 ht idx hidx _ _ .any (.inl rfl)
theorem qxN {w : World} : RdT Tryz.prog w 81 fun xs => ∃ n,xs = [.v (.int .u64 n)] ∧ 0 ≤ n ∧ n < 18446744073709551616 := ZE (qhO Tryz.underlying81 (by kernel_rfl)) fun xs ⟨n,h1,h2⟩ => ⟨n,h1,by
 simp [Lit.wf,IntKind.min,IntKind.max,IntKind.signed,IntKind.bits] at h2
 omega⟩
theorem qwE (d:Dy) (hd:DyT d) (n:Int) (hn:0≤n∧n≤255) (m:Int) (hm:0≤m∧m≤255) (q:Int) (hq:0≤q∧q<18446744073709551616):qC Tryz.prog 14 [DyV d,U n,U m,.v (.int .u64 q)] (B true):=by
 have h:=qwC d hd n.toNat (by omega) m.toNat (by omega) q.toNat (by omega)
 have e1:((n.toNat:Nat):Int)=n:=by omega
 have e2:((m.toNat:Nat):Int)=m:=by omega
 have e3:((q.toNat:Nat):Int)=q:=by omega
 rw [e1,e2,e3] at h
 exact h
end Go.AM
