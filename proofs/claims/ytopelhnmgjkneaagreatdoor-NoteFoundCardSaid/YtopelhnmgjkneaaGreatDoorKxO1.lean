/-
  KxO1: texts joined: Nt13 Nt14 FmNL Lk3 Nt30 Nt31 Lx16 Lx19 Lx20 Lx18 Lx21. Own work.
-/
import Derived.Test.YtopelhnmgjkneaaGreatDoorKn7
import Derived.Test.YtopelhnmgjkneaaGreatDoorProg
set_option linter.all false
set_option linter.unusedSimpArgs false
set_option linter.unusedVariables false
set_option linter.unusedSectionVars false

set_option maxHeartbeats 0
namespace Go.AM
open Go.RowKit
structure TbOK (w:List UInt8) (to found:List (List Int)) (n:Nat):Prop where
 tl:to.length=n
 fl:found.length=n
 tr:∀ i (h:i<to.length),to[i].length=9
 fr:∀ i (h:i<found.length),found[i].length=9
 tv:∀ i s,i<n→s≤w.length→0≤atT to (i:Int) s∧atT to (i:Int) s≤w.length
 fv:∀ i s,i<n→s≤w.length→0≤atT found (i:Int) s∧atT found (i:Int) s≤QM
theorem qxH {w:List UInt8} {to found:List (List Int)} {n:Nat} (h:TbOK w to found n) {p:Pt} (hp:qI n p=true) {x:Nat × Int} (hx:x.1≤w.length):(qqA w to found p x).1≤w.length∧x.2≤(qqA w to found p x).2∧(qqA w to found p x).2≤x.2+QM:=by
 have hm:QM=1099511627776:=rfl
 unfold qqA
 by_cases e:0≤p.2.1
 · rw [if_pos e]
   have hi:p.2.1.toNat<n:=by
    rcases zk hp with ⟨h,_⟩ | ⟨_,_,h⟩ <;> omega
   have a:=h.tv _ x.1 hi hx
   have b:=h.fv _ x.1 hi hx
   have e2:((p.2.1.toNat:Nat):Int)=p.2.1:=by omega
   rw [e2] at a b
   refine ⟨?_,?_,?_⟩ <;> simp only <;> omega
 · rw [if_neg e]
   have:=qcA w x.1 p.1
   refine ⟨this,?_,?_⟩ <;> simp only <;> split <;> omega
theorem qwL {w : List UInt8} {to found : List (List Int)} {n : Nat} (h : TbOK w to found n) {p : Pt} (hp : qI n p = true) {x : Nat × Int} (hx : x.1 ≤ w.length) : ∀ k : Nat,(qiD w to found p k x).1 ≤ w.length ∧ x.2 ≤ (qiD w to found p k x).2 ∧ (qiD w to found p k x).2 ≤ x.2 + k * QM
 | 0=>⟨hx,Int.le_refl _,by simp [qiD]⟩
 | k+1=>by
   have ih:=qwL h hp hx k
   have o:=qxH h hp ih.1
   have e:((k+1:Nat):Int)*QM=k*QM+QM:=by
    rw [show ((k+1:Nat):Int)=(k:Int)+1 by omega,Int.add_mul,Int.one_mul]
   refine ⟨o.1,?_,?_⟩
   · exact Int.le_trans ih.2.1 o.2.1
   · rw [e];show (qqA w to found p (qiD w to found p k x)).2≤_;omega
theorem qxB {w:List UInt8} {to found:List (List Int)} {n:Nat} (h:TbOK w to found n) {st:Nat} (hs:st≤w.length) {l:List Pt} (hp:∀ p∈l,qI n p=true):∀ i,i≤l.length→(qqC w to found (l.take i) st).1≤w.length∧0≤(qqC w to found (l.take i) st).2∧(qqC w to found (l.take i) st).2≤(i:Int)*1099511627776000:=by
 intro i
 induction i with
 | zero=>intro _;exact ⟨hs,Int.le_refl _,Int.le_refl _⟩
 | succ i ih =>
   intro hi
   have ih:=ih (by omega)
   have hpi:=hp _ (List.getElem_mem (show i<l.length by omega))
   have m:=qwL h hpi ih.1 l[i].2.2.toNat
   have t:=Qd hpi
   have b:(l[i].2.2.toNat:Int)*QM≤1099511627776000:=by
    have:(l[i].2.2.toNat:Int)≤1000:=by omega
    exact Int.le_trans (Int.mul_le_mul_of_nonneg_right this (by decide)) (by decide)
   rw [qne (by omega)]
   refine ⟨m.1,by omega,by omega⟩
structure TbL (w:List UInt8) (to found:List (List Int)) (long:List Int):Prop where
 ok:TbOK w to found long.length
 le:∀ i s,i<long.length→s≤w.length→atT found (i:Int) s≤long.getD i 0
theorem qxG {w:List UInt8} {to found:List (List Int)} {long:List Int} (h:TbL w to found long) {p:Pt} (hp:qI long.length p=true) {x:Nat × Int} (hx:x.1≤w.length):(qqA w to found p x).2≤x.2+ja long p:=by
 unfold qqA ja
 by_cases e:0≤p.2.1
 · rw [if_pos e,if_pos e]
   have hi:p.2.1.toNat<long.length:=by
    rcases zk hp with ⟨h,_⟩ | ⟨_,_,h⟩ <;> omega
   have b:=h.le _ x.1 hi hx
   have e2:((p.2.1.toNat:Nat):Int)=p.2.1:=by omega
   rw [e2] at b
   simp only;omega
 · rw [if_neg e,if_neg e]
   simp only;split <;> omega
theorem qwX {w : List UInt8} {to found : List (List Int)} {long : List Int} (h : TbL w to found long) {p : Pt} (hp : qI long.length p = true) {x : Nat × Int} (hx : x.1 ≤ w.length) : ∀ k : Nat,(qiD w to found p k x).2 ≤ x.2 + ja long p * k
 | 0=>by simp [qiD]
 | k+1=>by
   have ih:=qwX h hp hx k
   have o:=qxG h hp (qwL h.ok hp hx k).1
   have e:ja long p*((k+1:Nat):Int)=ja long p*k+ja long p:=by
    rw [show ((k+1:Nat):Int)=(k:Int)+1 by omega,Int.mul_add,Int.mul_one]
   rw [e]
   show (qqA w to found p (qiD w to found p k x)).2≤_
   omega
theorem qxK {w:List UInt8} {to found:List (List Int)} {long:List Int} (h:TbL w to found long) {p:Pt} (hp:qI long.length p=true):0≤ja long p:=by
 unfold ja
 split
 · rename_i e
   have hi:p.2.1.toNat<long.length:=by
    rcases zk hp with ⟨h,_⟩ | ⟨_,_,h⟩ <;> omega
   exact Int.le_trans (h.ok.fv _ 0 hi (Nat.zero_le _)).1 (h.le _ 0 hi (Nat.zero_le _))
 · decide
theorem qxM {w:List UInt8} {to found:List (List Int)} {long:List Int} (h:TbL w to found long) {st:Nat} (hs:st≤w.length) {l:List Pt} (hp:∀ p∈l,qI long.length p=true):∀ i,i≤l.length→min JS (qqC w to found (l.take i) st).2≤QZ long (l.take i):=by
 have hfar:JS=1125899906842624:=rfl
 intro i
 induction i with
 | zero=>intro _;show min JS 0≤0;omega
 | succ i ih =>
   intro hi
   have ih:=ih (by omega)
   have hlt:i<l.length:=by omega
   have hpi:=hp _ (List.getElem_mem hlt)
   have t:=qxB h.ok hs hp i (by omega)
   have m:=qwX h hpi t.1 l[i].2.2.toNat
   have tm:=Qd hpi
   have e:((l[i].2.2.toNat:Nat):Int)=l[i].2.2:=by omega
   rw [e] at m
   have o0:0≤ja long l[i]*l[i].2.2:=Int.mul_nonneg (qxK h hpi) (by omega)
   rw [qne hlt,show QZ long (l.take (i+1))=jU long (QZ long (l.take i)) l[i] from zI hlt]
   unfold jU
   omega
theorem qxv {w to found l}:(qvx w to found l).length=9:=by simp [qvx]
theorem qxw {w to found l}:(qvy w to found l).length=9:=by simp [qvy]
theorem qxk {α:Type} {l:List α} {a:α} {i:Nat} (h:i<(l++[a]).length) {P:α→Prop} (h1:∀ i (h:i<l.length),P l[i]) (h2:P a):P (l++[a])[i]:=by
 rcases qjP h with ⟨h',e1,_⟩ | ⟨_,e1,_⟩
 · rw [e1];exact h1 i h'
 · rw [e1];exact h2
theorem qxC {w:List UInt8} (hw:w.length≤8) {l:List Bk} (hR:RecV l) (hm:∀ x∈qu l,x≤QM):∀ i,i≤l.length→TbL w (qik w (l.take i)).1 (qik w (l.take i)).2 (qu (l.take i)):=by
 intro i
 induction i with
 | zero =>
   intro _
   exact ⟨⟨rfl,rfl,fun i h=>by simp [qik] at h,fun i h=>by simp [qik] at h,fun i s h=>by simp [qu] at h,fun i s h=>by simp [qu] at h⟩,fun i s h=>by simp [qu] at h⟩
 | succ i ih =>
   intro hi
   have ih:=ih (by omega)
   have hlt:i<l.length:=by omega
   have hll:(qu (l.take i)).length=i:=by rw [zy,List.length_take];omega
   have hpv:∀ p∈l[i].2,qI (qu (l.take i)).length p=true:=by rw [hll];exact hR.1 i hlt
   have htm:QZ (qu (l.take i)) l[i].2≤QM:=by
    obtain ⟨r,hr⟩:=jz (l:=l) (i+1)
    rw [QL hlt] at hr
    exact hm _ (by rw [hr];simp)
   have hmx:QM=1099511627776:=rfl
   have hfar:JS=1125899906842624:=rfl
   rw [qil hlt,QL hlt]
   unfold qp1
   generalize qik w (l.take i)=T at *
   obtain ⟨to,found⟩:=T
   simp only at ih ⊢
   have tl:=ih.ok.tl
   have fl:=ih.ok.fl
   generalize hP:l[i].2=ps at *
   have thr : ∀ s,s ≤ w.length → (qqC w to found ps s).1 ≤ w.length ∧ 0 ≤ (qqC w to found ps s).2 ∧ (qqC w to found ps s).2 ≤ QZ (qu (l.take i)) ps := fun s hs => by
    have a:=qxB ih.ok hs hpv ps.length (Nat.le_refl _)
    have b:=qxM ih hs hpv ps.length (Nat.le_refl _)
    rw [List.take_length] at a b
    exact ⟨a.1,a.2.1,by omega⟩
   have ra:∀ s,s≤w.length→(qvx w to found ps).getD s 0=((qqC w to found ps s).1:Int):=fun s hs=>by unfold qvx;rw [qkD (by omega),if_pos hs]
   have rb:∀ s,s≤w.length→(qvy w to found ps).getD s 0=(qqC w to found ps s).2:=fun s hs=>by unfold qvy;rw [qkD (by omega),if_pos hs]
   refine ⟨⟨by simp;omega,by simp;omega,fun j hj=>qxk (P:=fun r=>r.length=9) hj ih.ok.tr qxv,fun j hj=>qxk (P:=fun r=>r.length=9) hj ih.ok.fr qxw,fun j s hj hs=>?_,fun j s hj hs=>?_⟩,fun j s hj hs=>?_⟩
   · rw [qnt]
     by_cases h:j<to.length
     · rw [if_pos h];exact ih.ok.tv j s (by omega) hs
     · rw [if_neg h,if_pos (by simp at hj; omega),ra s hs]
       have:=thr s hs;omega
   · rw [qnt]
     by_cases h:j<found.length
     · rw [if_pos h];exact ih.ok.fv j s (by omega) hs
     · rw [if_neg h,if_pos (by simp at hj; omega),rb s hs]
       have:=thr s hs;omega
   · rw [qnt,VF]
     by_cases h:j<found.length
     · rw [if_pos h,if_pos (by omega)];exact ih.le j s (by omega) hs
     · have e : j = found.length := by simp at hj; omega
       rw [if_neg h,if_pos e,if_neg (by omega),rb s hs,show j - (qu (l.take i)).length=0 by omega]
       exact (thr s hs).2.2
end Go.AM

set_option maxRecDepth 100000
namespace Go.AM
open Go.RowKit Go.Proofs
def qwv:AC:=Subtype.val (p:=fun g=>qo Tryz.prog Tryz.f15 [12]=some g) (by refine ⟨?g,?h⟩;case h=>conv=>lhs;reduce)
theorem qwC:qo Tryz.prog Tryz.f15 [12]=some qwv:=by kernel_rfl
def qws:AC:=Subtype.val (p:=fun g=>qo Tryz.prog Tryz.f30 [2]=some g) (by refine ⟨?g,?h⟩;case h=>conv=>lhs;reduce)
theorem qwP:qo Tryz.prog Tryz.f30 [2]=some qws:=by kernel_rfl
def qwO:AC:=Subtype.val (p:=fun g=>qo Tryz.prog Tryz.f52 [2]=some g) (by refine ⟨?g,?h⟩;case h=>conv=>lhs;reduce)
theorem qwQ:qo Tryz.prog Tryz.f52 [2]=some qwO:=by kernel_rfl
def qxa:AC:=Subtype.val (p:=fun g=>qo Tryz.prog Tryz.f53 [4]=some g) (by refine ⟨?g,?h⟩;case h=>conv=>lhs;reduce)
theorem qw4:qo Tryz.prog Tryz.f53 [4]=some qxa:=by kernel_rfl
theorem qw8:ZR Tryz.prog Tryz.f53.results.toList=some [(4,some (true,3))]:=by kernel_rfl
theorem qwV {α:Type} {f:α→Bool} {l:List α} {i:Nat} (h:i<l.length) (hn:(l.take i).any f=false) (hf:f l[i]=false):(l.take (i+1)).any f=false:=by
 rw [List.take_succ_eq_append_getElem h,List.any_append,hn];simp [hf]
theorem qxc {α:Type} {f:α→Bool} {l:List α} {i:Nat} (h:i<l.length) (hf:f l[i]=true):l.any f=true:=List.any_eq_true.2 ⟨_,List.getElem_mem h,hf⟩
theorem qxP {n:Nat} {k:Int} (h:k<n):(k<(n:Int))=True:=by simp only [eq_iff_iff,iff_true];exact h
theorem qxO {n:Nat} {k:Int} (h:¬ k<n):(k<(n:Int))=False:=by simp only [eq_iff_iff,iff_false];exact h
def qwu:AC:=match qws with
 | .seq _ (.seq _ (.seq _ t))=>t
 | x=>x
theorem qxD {d : Dy} (hs : d.sh.length ≤ 60) {H : List HObj} (h0 : qr H 0 = some (.cells (dyC d))) (fr : List (Nat × AV)) :
 AWP Tryz.prog (E1 Tryz.prog) qwu ⟨(1,.ref 0 0)::fr,H⟩ (qfB [2] (Out (B (d.sh.any qvt)))):=by
 simp -implicitDefEqProofs (disch:=omega)[qwu,qws,qb]
 refine qO (fun q:Nat × List HObj=>⟨[(1,.ref 0 0),(4,I (q.1:Int))],q.2⟩) (fun q=>q.1≤d.sh.length∧(d.sh.take q.1).any qvt=false∧q.2=H) (fun q=>d.sh.length - q.1) (0,H) ⟨Nat.zero_le _,rfl,rfl⟩ rfl ?_
 rintro ⟨i,H2⟩ ⟨c1,c2,rfl⟩
 simp only at c1 c2 ⊢
 refine qW fun K0 hK0=>?_
 simp -implicitDefEqProofs (disch:=omega)[qb,h0,qf,dyC]
 refine qP (fun hc=>?_) (fun hc=>?_)
 · have hi : i < d.sh.length := by simpa using hc
   have ix:((i:Int)+1)=((i+1:Nat):Int):=by omega
   by_cases hb:70<d.sh[i].pat.length
   · have hb' : (70 < (d.sh[i].pat.length : Int)) = True := by simp only [eq_iff_iff,iff_true]; omega
     have:=qxc (f:=qvt) hi (decide_eq_true hb)
     rw [hK0]
     simp -implicitDefEqProofs (disch:=omega)[qb,hi,h0,qf,dyC,hb',this]
   · have hb' : (70 < (d.sh[i].pat.length : Int)) = False := by simp only [eq_iff_iff,iff_false]; omega
     simp -implicitDefEqProofs (disch:=omega)[qb,hi,h0,qf,dyC,hb']
     rw [hK0]
     exact qz (i+1,H2) ⟨by simp only;omega,qwV hi c2 (decide_eq_false hb),rfl⟩ (by simp only;omega) (by simp only [ix])
 · have hi : i = d.sh.length := by simp at hc; omega
   subst hi
   rw [List.take_length] at c2
   rw [hK0]
   simp -implicitDefEqProofs (disch:=omega)[qb,c2]
theorem qw6 (d:Dy):qC Tryz.prog 30 [DyV d] (B (qjT d)):=by
 refine qT (walk Tryz.func30 qwP (by kernel_rfl) (by show 1≤_;decide) ?_)
 simp -implicitDefEqProofs (disch:=omega)[qws,qb,dyC]
 unfold qjT
 by_cases q1:40<d.rc.length
 case pos =>
  have e1:=qxP (n:=d.rc.length) (k:=40) (by omega)
  simp -implicitDefEqProofs (disch:=omega)[qb,e1,q1]
 have e1:=qxO (n:=d.rc.length) (k:=40) (by omega)
 simp -implicitDefEqProofs (disch:=omega)[qb,e1,q1]
 by_cases q2:70<d.pat.length
 case pos =>
  have e2:=qxP (n:=d.pat.length) (k:=70) (by omega)
  simp -implicitDefEqProofs (disch:=omega)[qb,e2,q2]
 have e2:=qxO (n:=d.pat.length) (k:=70) (by omega)
 simp -implicitDefEqProofs (disch:=omega)[qb,e2,q2]
 by_cases q3:60<d.sh.length
 case pos =>
  have e3:=qxP (n:=d.sh.length) (k:=60) (by omega)
  simp -implicitDefEqProofs (disch:=omega)[qb,e3,q3]
 have e3:=qxO (n:=d.sh.length) (k:=60) (by omega)
 simp -implicitDefEqProofs (disch:=omega)[qb,e3,q3]
 refine qO (fun q:Nat × List HObj=>⟨[(1,.ref 0 0),(3,I (q.1:Int))],q.2⟩) (fun q=>q.1≤d.rc.length∧(d.rc.take q.1).any qvs=false∧q.2=[.cells (dyC d)]) (fun q=>d.rc.length - q.1) (0,[.cells (dyC d)]) ⟨Nat.zero_le _,rfl,rfl⟩ rfl ?_
 rintro ⟨i,H2⟩ ⟨c1,c2,rfl⟩
 simp only at c1 c2 ⊢
 refine qW fun K0 hK0=>?_
 simp -implicitDefEqProofs (disch:=omega)[qb,qf,dyC]
 refine qP (fun hc=>?_) (fun hc=>?_)
 · have hi : i < d.rc.length := by simpa using hc
   have ix:((i:Int)+1)=((i+1:Nat):Int):=by omega
   by_cases hb:20<d.rc[i].2.length
   · have hb' : (20 < (d.rc[i].2.length : Int)) = True := by simp only [eq_iff_iff,iff_true]; omega
     have:=qxc (f:=qvs) hi (by unfold qvs;simp [hb])
     rw [hK0]
     simp -implicitDefEqProofs (disch:=omega)[qb,hi,qf,dyC,hb',this]
   have hb':(20<(d.rc[i].2.length:Int))=False:=by simp only [eq_iff_iff,iff_false];omega
   by_cases hc2:100<d.rc[i].1.length
   · have hc' : (100 < (d.rc[i].1.length : Int)) = True := by simp only [eq_iff_iff,iff_true]; omega
     have:=qxc (f:=qvs) hi (by unfold qvs;simp [hc2])
     rw [hK0]
     simp -implicitDefEqProofs (disch:=omega)[qb,hi,qf,dyC,hb',hc',this]
   have hc':(100<(d.rc[i].1.length:Int))=False:=by simp only [eq_iff_iff,iff_false];omega
   simp -implicitDefEqProofs (disch:=omega)[qb,hi,qf,dyC,hb',hc']
   rw [hK0]
   refine qz (i+1,[.cells (dyC d)]) ⟨by simp only;omega,qwV hi c2 (by unfold qvs;simp [hb,hc2]),rfl⟩ (by simp only;omega) (by simp only [ix,dyC])
 · have hi : i = d.rc.length := by simp at hc; omega
   subst hi
   rw [List.take_length] at c2
   rw [hK0]
   have t:=qxD (d:=d) (by omega) (H:=[.cells (dyC d)]) rfl [(3,I (d.rc.length:Int))]
   simp -implicitDefEqProofs (disch:=omega)[qwu,qws,qb,dyC,c2] at t ⊢
   exact t
theorem qw7 (d:Dy) (hd:DyT d):qC Tryz.prog 52 [DyV d] (B (!qjT d&&decide (Wh d=0))):=by
 refine qT (walk Tryz.func52 qwQ (by kernel_rfl) (by show 1≤_;decide) ?_)
 simp -implicitDefEqProofs (disch:=omega)[qwO,qb,dyC]
 refine qg (ys:=[DyV d]) (ids:=[]) rfl (qw6 d) ?_
 simp -implicitDefEqProofs (disch:=omega)[qb,AV.scalar]
 cases hg:qjT d with
 | true=>simp -implicitDefEqProofs (disch:=omega)[qb]
 | false =>
   simp -implicitDefEqProofs (disch:=omega)[qb,qf]
   refine qg (ys:=[DyV d]) (ids:=[]) rfl (qdl d (hd.i hg)) ?_
   simp -implicitDefEqProofs (disch:=omega)[qb,AV.scalar]
   by_cases e:Wh d=0
   · have e' : (Wh d == 0) = true := by rw [beq_iff_eq]; exact e
     simp -implicitDefEqProofs (disch:=omega)[qb,e',e]
   · have e' : (Wh d == 0) = false := by rw [beq_eq_false_iff_ne]; exact e
     simp -implicitDefEqProofs (disch:=omega)[qb,e',e]
theorem qxr (c:Int) (t:Int):qC Tryz.prog 53 [U c,I t] (.agg (ptC (c,-1,t))):=by
 refine qT (zj Tryz.func53 qw4 qw8 (by show 2≤_;decide) ?_)
 simp -implicitDefEqProofs (disch:=omega)[qxa,qb]
 exact Q7 (id:=0) (off:=0) rfl rfl (by simp) ⟨[],rfl⟩
end Go.AM

namespace Go.AM
open Go.RowKit
def cnP (p : Nat → Bool) : Nat → Int
 | 0=>0
 | n+1=>cnP p n+if p n then 1 else 0
theorem qxg (p : Nat → Bool) : ∀ n,0 ≤ cnP p n ∧ cnP p n ≤ n
 | 0=>by simp [cnP]
 | n+1=>by
   have:=qxg p n
   simp only [cnP];split <;> omega
theorem qww {p q : Nat → Bool} : ∀ {n},(∀ i,i < n → p i = true → q i = true) → cnP p n ≤ cnP q n
 | 0,_=>Int.le_refl _
 | n+1,h=>by
   have ih:=qww (p:=p) (q:=q) (n:=n) fun i hi=>h i (by omega)
   have:=h n (by omega)
   simp only [cnP]
   cases hp:p n with
   | false=>simp;split <;> omega
   | true=>rw [this hp];simp;omega
theorem qxf {p q:Nat→Bool} {n:Nat} (h:∀ i,i<n→p i=q i):cnP p n=cnP q n :=
 Int.le_antisymm (qww fun i hi e=>by rw [←h i hi];exact e) (qww fun i hi e=>by rw [h i hi];exact e)
theorem qxe (p : Nat → Bool) (m : Nat) : ∀ n,cnP p (m + n) = cnP p m + cnP (fun i => p (m + i)) n
 | 0=>by simp [cnP]
 | n+1=>by
   rw [←Nat.add_assoc]
   simp only [cnP]
   rw [qxe p m n];omega
theorem qwW {p : Nat → Bool} {k : Nat} (hk : ∀ i,i < k → p i = false) : ∀ n,cnP p n ≤ n - k ∨ n ≤ k ∧ cnP p n = 0
 | 0 => .inr ⟨Nat.zero_le _,rfl⟩
 | n+1=>by
   rcases qwW hk n with h | ⟨h,e⟩
   · rcases Nat.lt_or_ge n k with h2 | h2
     · right
       refine ⟨by omega,?_⟩
       have:=(qxg p n).1
       simp only [cnP,hk n h2];simp;omega
     · left
       simp only [cnP];split <;> omega
   · rcases Nat.lt_or_ge n k with h2 | h2
     · right;exact ⟨by omega,by simp only [cnP,hk n h2,e];simp⟩
     · left;simp only [cnP,e];split <;> omega
theorem qxh {p : Nat → Bool} {i : Nat} (h : p i = true) : ∀ {n},i < n → 1 ≤ cnP p n
 | n+1, hi=>by
   have:=(qxg p n).1
   simp only [cnP]
   by_cases e:i=n
   · subst e;rw [h];simp;omega
   · have := qxh h (n := n) (by omega)
     split <;> omega
theorem qwz {s w : List UInt8} : ∀ {n : Nat},n ≤ s.length → n ≤ w.length → w.take (qet s w n) <:+ s ∧ qet s w n ≤ n ∧ ∀ k,qet s w n < k → k ≤ n → ¬ w.take k <:+ s
 | 0,_,_=>⟨by simp [qet],Nat.le_refl _,fun k h1 h2=>by omega⟩
 | n+1, h1, h2=>by
   have ih:=qwz (s:=s) (w:=w) (n:=n) (by omega) (by omega)
   have e:(s.drop (s.length - (n+1))=w.take (n+1))↔w.take (n+1) <:+ s:=by
    rw [List.suffix_iff_eq_drop,List.length_take,Nat.min_eq_left h2]
    exact eq_comm
   unfold qet
   by_cases h:s.drop (s.length - (n+1))=w.take (n+1)
   · rw [if_pos h]
     exact ⟨e.1 h,Nat.le_refl _,fun k k1 k2=>by omega⟩
   · rw [if_neg h]
     refine ⟨ih.1,by omega,fun k k1 k2=>?_⟩
     by_cases e2:k=n+1
     · subst e2;exact fun hh=>h (e.2 hh)
     · exact ih.2.2 k k1 (by omega)
theorem qw3 {s w:List UInt8} {n m:Nat} (h1:n≤s.length) (h2:n≤w.length) (a:w.take m <:+ s) (b:m≤n) (c:∀ k,m<k→k≤n→¬ w.take k <:+ s):qet s w n=m:=by
 obtain ⟨x,y,z⟩:=qwz h1 h2
 rcases Nat.lt_trichotomy (qet s w n) m with h | h | h
 · exact absurd a (z m h b)
 · exact h
 · exact absurd x (c _ h y)
def qwy (w x:List UInt8):Nat:=qet x w (min x.length w.length)
theorem qwx (w x:List UInt8):w.take (qwy w x) <:+ x∧qwy w x≤w.length∧qwy w x≤x.length∧∀ k,qwy w x<k→k≤w.length→k≤x.length→¬ w.take k <:+ x:=by
 obtain ⟨a,b,c⟩:=qwz (s:=x) (w:=w) (n:=min x.length w.length) (by omega) (by omega)
 exact ⟨a,by unfold qwy;omega,by unfold qwy;omega,fun k h1 h2 h3=>c k h1 (by omega)⟩
theorem qxi (w x:List UInt8):qwy w x=w.length↔w <:+ x:=by
 obtain ⟨a,b,c,d⟩:=qwx w x
 constructor
 · intro h;rw [h,List.take_length] at a;exact a
 · intro h
   refine Classical.byContradiction fun hn=>?_
   refine d w.length (by omega) (Nat.le_refl _) h.length_le ?_
   rw [List.take_length];exact h
theorem qwq {w x:List UInt8} {c:UInt8} {k:Nat} (hk:k<w.length):w.take (k+1) <:+ x++[c]↔w.take k <:+ x∧w[k]=c:=by
 rw [List.take_succ_eq_append_getElem hk,List.suffix_concat_iff]
 constructor
 · rintro (h | ⟨t,h1,h2⟩)
   · have hh := congrArg List.length h
     rw [List.length_append,List.length_singleton,List.length_nil] at hh
     omega
   · obtain ⟨e1,e2⟩ := List.append_inj' h1 rfl
     rw [e1]
     exact ⟨h2,by simpa using e2⟩
 · rintro ⟨h1,h2⟩
   exact .inr ⟨w.take k,by rw [h2],h1⟩
theorem qxj (w x:List UInt8) (c:UInt8):qwy w (x++[c])=qet (w.take (qwy w x)++[c]) w (min (qwy w x+1) w.length):=by
 obtain ⟨a,b,b2,d⟩:=qwx w x
 obtain ⟨a',b',b2',d'⟩:=qwx w (x++[c])
 have hl:(w.take (qwy w x)++[c]).length=qwy w x+1:=by simp;omega
 have sub : ∀ k,k ≤ qwy w x → (w.take k <:+ x ↔ w.take k <:+ w.take (qwy w x)) := fun k hk => by
  constructor
  · intro h
    exact List.suffix_of_suffix_length_le h a (by simp;omega)
  · intro h;exact h.trans a
 have key : ∀ k,k < w.length → k ≤ qwy w x → (w.take (k + 1) <:+ x ++ [c] ↔ w.take (k + 1) <:+ w.take (qwy w x) ++ [c]) := fun k hk hk2 => by
  rw [qwq hk,qwq hk,sub k hk2]
 have up : ∀ k,k < w.length → w.take (k + 1) <:+ x ++ [c] → k ≤ qwy w x := fun k hk h => by
  have h1:=((qwq hk).1 h).1
  refine Nat.le_of_not_lt fun hn=>?_
  exact d k hn (by omega) (by have:=h1.length_le;simp at this;omega) h1
 symm
 refine qw3 (by omega) (by omega) ?_ ?_ ?_
 · cases hm:qwy w (x++[c]) with
   | zero=>simp
   | succ m =>
     rw [hm] at a' b'
     exact (key m (by omega) (up m (by omega) a')).1 a'
 · cases hm:qwy w (x++[c]) with
   | zero=>omega
   | succ m =>
     rw [hm] at a' b'
     have:=up m (by omega) a'
     omega
 · intro k k1 k2 hk
   obtain ⟨m,rfl⟩:∃ m,k=m+1:=⟨k - 1,by omega⟩
   refine d' (m+1) k1 (by omega) ?_ ((key m (by omega) (by omega)).2 hk)
   have:=((qwq (w:=w) (x:=w.take (qwy w x)) (c:=c) (k:=m) (by omega)).1 hk).1.length_le
   simp at this
   simp;omega
def qwB (w:List UInt8) (s:Nat × Int) (c:UInt8):Nat × Int:=(qbb w s.1 (c.toNat:Int),if qbb w s.1 (c.toNat:Int)=w.length then s.2+1 else s.2)
def qwS (w x:List UInt8) (s:Nat × Int):Nat × Int:=x.foldl (qwB w) s
theorem qwM (w x y:List UInt8) (s:Nat × Int):qwS w (x++y) s=qwS w y (qwS w x s):=List.foldl_append
theorem qwU (w : List UInt8) : ∀ (x : List UInt8) (s : Nat × Int),s.1 ≤ w.length → (qwS w x s).1 ≤ w.length
 | [],s,h=>h
 | c::x,s,h=>qwU w x (qwB w s c) (qcA _ _ _)
theorem qwZ (w : List UInt8) : ∀ (x : List UInt8) (s : Nat) (n m : Int),qwS w x (s,n + m) = ((qwS w x (s,n)).1,(qwS w x (s,n)).2 + m)
 | [],s,n,m=>rfl
 | c::x,s,n,m=>by
   show qwS w x (qwB w (s,n+m) c)=((qwS w x (qwB w (s,n) c)).1,(qwS w x (qwB w (s,n) c)).2+m)
   have e:qwB w (s,n+m) c=((qwB w (s,n) c).1,(qwB w (s,n) c).2+m):=by
    simp only [qwB,Prod.mk.injEq,true_and]
    split <;> omega
   rw [e,qwZ w x]
def qwt (w x:List UInt8) (i:Nat):Bool:=decide (w <:+ x.take (i+1))
def occ (w x:List UInt8):Int:=cnP (qwt w x) x.length
theorem qxx {w:List UInt8} (hw:w≠[]) (x:List UInt8):qwS w x (0,0)=(qwy w x,occ w x):=by
 have key:∀ i,i≤x.length→qwS w (x.take i) (0,0)=(qwy w (x.take i),cnP (qwt w x) i):=by
  intro i
  induction i with
  | zero =>
    intro _
    have:qwy w []=0:=by
     have:=(qwx w []).2.2.1
     simpa using this
    simp [qwS,cnP,this]
  | succ i ih =>
    intro hi
    have hlt:i<x.length:=by omega
    rw [List.take_succ_eq_append_getElem hlt,qwM,ih (by omega)]
    show qwB w (qwy w (x.take i),cnP (qwt w x) i) x[i]=_
    have e:qbb w (qwy w (x.take i)) (x[i].toNat:Int)=qwy w (x.take i++[x[i]]):=by
     rw [qxj]
     unfold qbb
     simp
    simp only [qwB,e,Prod.mk.injEq,true_and,cnP]
    have e2:(qwy w (x.take i++[x[i]])=w.length)↔qwt w x i=true:=by
     rw [qxi]
     unfold qwt
     rw [decide_eq_true_iff,List.take_succ_eq_append_getElem hlt]
    by_cases h:qwt w x i=true
    · rw [if_pos (e2.2 h),if_pos h]
    · rw [if_neg (fun hh=>h (e2.1 hh)),if_neg h];omega
 have:=key x.length (Nat.le_refl _)
 rw [List.take_length] at this
 exact this
theorem qxJ {w x:List UInt8} (hw:w≠[]) (h:w.length≤x.length):occ w x≤x.length - w.length+1:=by
 have hw1:1≤w.length:=by cases w with
  | nil=>exact absurd rfl hw
  | cons c r=>simp
 have := qwW (p := qwt w x) (k := w.length - 1) (fun i hi => by
  unfold qwt
  rw [decide_eq_false_iff_not]
  intro h
  have:=h.length_le
  rw [List.length_take] at this;omega) x.length
 unfold occ
 rcases this with h2 | ⟨h2,e⟩
 · omega
 · rw [e];omega
theorem qxE {w x a b:List UInt8} (hw:w≠[]) (h:x=a++w++b):1≤occ w x:=by
 have hw1:1≤w.length:=by cases w with
  | nil=>exact absurd rfl hw
  | cons c r=>simp
 unfold occ
 refine qxh (i:=a.length+w.length - 1) ?_ (by rw [h];simp;omega)
 unfold qwt
 rw [decide_eq_true_iff]
 have:x.take (a.length+w.length - 1+1)=a++w:=by
  rw [h,show a.length+w.length - 1+1=(a++w).length by simp;omega,List.take_left]
 rw [this]
 exact ⟨a,rfl⟩
theorem qxF {w x:List UInt8} (hw:w≠[]):2*occ w x≤occ w (x++x)∧occ w (x++x)≤2*occ w x+(w.length - 1):=by
 have hw1:1≤w.length:=by cases w with
  | nil=>exact absurd rfl hw
  | cons c r=>simp
 have e : occ w (x ++ x) = occ w x + cnP (fun i => qwt w (x ++ x) (x.length + i)) x.length := by
  unfold occ
  rw [List.length_append,qxe]
  congr 1
  refine qxf fun i hi=>?_
  unfold qwt
  rw [List.take_append_of_le_length (by omega)]
 have tk : ∀ i,(x ++ x).take (x.length + i + 1) = x ++ x.take (i + 1) := fun i => by
  rw [Nat.add_assoc,List.take_append]
  simp
  rw [List.take_of_length_le (by omega)]
 have lo : occ w x ≤ cnP (fun i => qwt w (x ++ x) (x.length + i)) x.length := by
  unfold occ
  refine qww fun i hi h=>?_
  unfold qwt at h ⊢
  rw [decide_eq_true_iff] at h ⊢
  rw [tk]
  exact h.trans (List.suffix_append _ _)
 have hi2 : cnP (fun i => qwt w (x ++ x) (x.length + i)) x.length ≤ occ w x + (w.length - 1) := by
  unfold occ
  have far : ∀ i,w.length - 1 ≤ i → qwt w (x ++ x) (x.length + i) = true → i < x.length → qwt w x i = true := fun i h1 h2 h3 => by
   unfold qwt at h2 ⊢
   rw [decide_eq_true_iff] at h2 ⊢
   rw [tk] at h2
   exact List.suffix_of_suffix_length_le h2 (List.suffix_append _ _) (by rw [List.length_take];omega)
  have key : ∀ n, n ≤ x.length → cnP (fun i => qwt w (x ++ x) (x.length + i)) n ≤ cnP (qwt w x) n + min (n : Int) (w.length - 1) := by
   intro n
   induction n with
   | zero=>intro _;simp [cnP];omega
   | succ n ih =>
     intro hn
     have ih:=ih (by omega)
     simp only [cnP]
     by_cases h:w.length - 1≤n
     · have f := far n h
       by_cases hp:qwt w (x++x) (x.length+n)=true
       · rw [if_pos hp,if_pos (f hp (by omega))];omega
       · rw [if_neg hp];split <;> omega
     · split <;> split <;> omega
  have:=key x.length (Nat.le_refl _)
  omega
 omega
theorem qxt {w x:List UInt8} (c:UInt8):occ (w++[c]) x≤occ w x+(if w=[] then 1 else 0):=by
 unfold occ
 have key:∀ n, n≤x.length→cnP (qwt (w++[c]) x) n≤cnP (qwt w x) (n - 1)+(if w=[] then 1 else 0):=by
  intro n
  induction n with
  | zero =>
    intro _
    show (0:Int)≤cnP (qwt w x) 0+_
    simp only [cnP];split <;> omega
  | succ n ih =>
    intro hn
    have ih:=ih (by omega)
    cases n with
    | zero =>
      simp only [cnP,Nat.zero_add,Nat.sub_self,Int.zero_add]
      by_cases hw:w=[]
      · rw [if_pos hw];split <;> omega
      · rw [if_neg hw]
        have:qwt (w++[c]) x 0=false:=by
         unfold qwt
         rw [decide_eq_false_iff_not]
         intro h
         have:=h.length_le
         rw [List.length_append,List.length_take,List.length_singleton] at this
         have:w.length=0:=by omega
         exact hw (List.eq_nil_of_length_eq_zero this)
        rw [this];simp
    | succ m =>
      simp only [Nat.add_sub_cancel] at ih ⊢
      rw [cnP]
      rw [show cnP (qwt w x) (m+1)=cnP (qwt w x) m+if qwt w x m then 1 else 0 from rfl]
      have i0:(0:Int)≤(if qwt w x m=true then 1 else 0):=by split <;> omega
      by_cases hp:qwt (w++[c]) x (m+1)=true
      case neg=>rw [if_neg hp];omega
      case pos =>
       have:qwt w x m=true:=by
        unfold qwt at hp ⊢
        rw [decide_eq_true_iff] at hp ⊢
        rw [List.take_succ_eq_append_getElem (by omega:m+1<x.length),List.suffix_concat_iff] at hp
        rcases hp with h | ⟨t,h1,h2⟩
        · exact absurd (congrArg List.length h) (by simp)
        · rw [(List.append_inj' h1 rfl).1];exact h2
       rw [if_pos hp,if_pos this];omega
 have h1:=key x.length (Nat.le_refl _)
 have h2:cnP (qwt w x) (x.length - 1)≤cnP (qwt w x) x.length:=by
  cases hx:x.length with
  | zero=>simp
  | succ n=>simp only [Nat.add_sub_cancel,cnP];split <;> omega
 omega
theorem qxs {w x:List UInt8} (c:UInt8):occ (c::w) x≤occ w x:=by
 unfold occ
 refine qww fun i hi h=>?_
 unfold qwt at h ⊢
 rw [decide_eq_true_iff] at h ⊢
 exact (List.suffix_cons c w).trans h
def qxN (w:List UInt8) (T:List (List UInt8)) (to found:List (List Int)) (n:Nat):Prop:=∀ i,i<n→∀ s,s≤w.length→qwS w (T.getD i []) (s,0)=((atT to (i:Int) s).toNat,atT found (i:Int) s)
theorem qxd {T:List (List Int)} {r:Int} {s:Nat}:atT T ((r.toNat:Nat):Int) s=atT T r s:=by
 unfold atT;rw [Int.toNat_natCast]
theorem qxu {w:List UInt8} {T:List (List UInt8)} {to found:List (List Int)} {n:Nat} (h:qxN w T to found n) {p:Pt} (hp:qI n p=true) {x:Nat × Int} (hx:x.1≤w.length):qqA w to found p x=qwS w (qaD T p) x:=by
 obtain ⟨s,m⟩:=x
 unfold qqA qaD
 by_cases e:0≤p.2.1
 · rw [if_pos e,if_pos e]
   have hi:p.2.1.toNat<n:=by
    rcases zk hp with ⟨h,_⟩ | ⟨_,_,h⟩ <;> omega
   have k:=h _ hi s hx
   rw [qxd,qxd] at k
   have:=qwZ w (T.getD p.2.1.toNat []) s 0 m
   rw [Int.zero_add,k] at this
   rw [this]
   simp only [Prod.mk.injEq,true_and]
   omega
 · rw [if_neg e,if_neg e]
   have ha:VZ p.1=true:=by
    rcases zk hp with ⟨_,h⟩ | ⟨_,h,_⟩
    · exact h
    · exact absurd h e
   have hb:0≤p.1∧p.1≤255:=by unfold VZ at ha;simp only [Bool.and_eq_true,decide_eq_true_eq] at ha;omega
   show _=qwB w (s,m) (UInt8.ofNat p.1.toNat)
   unfold qwB
   simp only [qnf hb.1 hb.2]
theorem qwD {w : List UInt8} {T : List (List UInt8)} {to found : List (List Int)} {n : Nat} (h : qxN w T to found n) {p : Pt} (hp : qI n p = true) {x : Nat × Int} (hx : x.1 ≤ w.length) : ∀ k : Nat,qiD w to found p k x = qwS w (ZG T p k) x
 | 0=>rfl
 | k+1=>by
   rw [qgI,qwM,←qwD h hp hx k]
   refine qxu h hp ?_
   rw [qwD h hp hx k]
   exact qwU w _ _ hx
theorem qw0 {w:List UInt8} {T:List (List UInt8)} {to found:List (List Int)} {n:Nat} (h:qxN w T to found n) {l:List Pt} (hl:∀ p∈l,qI n p=true) {s:Nat} (hs:s≤w.length):∀ i,i≤l.length→qqC w to found (l.take i) s=qwS w (spell T (l.take i)) (s,0):=by
 intro i
 induction i with
 | zero=>intro _;rfl
 | succ i ih =>
   intro hi
   have hlt:i<l.length:=by omega
   rw [qne hlt,qcf hlt,qwM,ih (by omega)]
   exact qwD h (hl _ (List.getElem_mem hlt)) (qwU w _ _ hs) _
theorem qxL {w:List UInt8} (hw:w.length≤8) {l:List Bk} (hR:RecV l) (hm:∀ x∈qu l,x≤QM):∀ i,i≤l.length→qxN w (spR (l.take i)) (qik w (l.take i)).1 (qik w (l.take i)).2 i:=by
 intro i
 induction i with
 | zero=>intro _ i h;omega
 | succ i ih =>
   intro hi
   have ih:=ih (by omega)
   have hlt:i<l.length:=by omega
   have hsl:(spR (l.take i)).length=i:=by rw [qkT,List.length_take];omega
   have ok:=(qxC hw hR hm i (by omega)).ok
   have hll:(qu (l.take i)).length=i:=by rw [zy,List.length_take];omega
   have tl:=ok.tl
   have fl:=ok.fl
   rw [hll] at tl fl
   intro j hj s hs
   rw [qil hlt,qhT hlt]
   unfold qp1
   rw [VG,hsl]
   simp only [qnt,tl,fl]
   by_cases h:j<i
   · rw [if_pos h,if_pos h,if_pos h];exact ih j h s hs
   · have e : j = i := by omega
     subst e
     rw [if_neg h,if_neg h,if_pos rfl,if_neg h,if_pos rfl,Nat.sub_self]
     have t:=qw0 ih (hR.1 j hlt) hs l[j].2.length (Nat.le_refl _)
     rw [List.take_length] at t
     unfold qvx qvy
     rw [qkD (by omega),qkD (by omega),if_pos hs,if_pos hs,t]
     simp
theorem qxq {d:Dy} {p:Pt} {w:List UInt8} (hw:w≠[]) (hw8:w.length≤8) (h:qbc d p w=0):qfT d p w=occ w (spell (spR d.rc) [p]):=by
 have hp:Zb d p=0:=by
  unfold qbc at h
  split at h
  · rename_i h2;exact h2
  · exact h
 obtain ⟨hb,hpp⟩:=VL.1 hp
 have V:=jw.1 hb
 unfold qfT
 rw [if_pos h]
 have tb:=qxL hw8 V.recV V.rm d.rc.length (Nat.le_refl _)
 rw [List.take_length] at tb
 have t:=qw0 tb (l:=[p]) (fun q hq=>by rw [List.mem_singleton] at hq;rw [hq];exact hpp) (s:=0) (Nat.zero_le _) 1 (Nat.le_refl _)
 rw [show [p].take 1=[p] from rfl] at t
 rw [t,qxx hw]
def qw1 (x:List UInt8):Prop:=∀ c∈x,97≤c.toNat∧c.toNat≤122
theorem qwH {T : List (List UInt8)} {p : Pt} (h : qw1 (qaD T p)) : ∀ k,qw1 (ZG T p k)
 | 0=>fun c hc=>by simp [ZG] at hc
 | k + 1 => fun c hc => by
   rw [qgI,List.mem_append] at hc
   rcases hc with hc | hc
   · exact qwH h k c hc
   · exact h c hc
theorem qwY {T:List (List UInt8)} {n:Nat} (hT:∀ i,i<n→qw1 (T.getD i [])) {p:Pt} (hp:qI n p=true):qw1 (qaD T p):=by
 unfold qaD
 rcases zk hp with ⟨h1,h2⟩ | ⟨h1,h2,h3⟩
 · rw [if_neg (by omega)]
   intro c hc
   rw [List.mem_singleton] at hc
   have hb:97≤p.1∧p.1≤122:=by unfold VZ at h2;simp only [Bool.and_eq_true,decide_eq_true_eq] at h2;omega
   have:=qnf (c:=p.1) (by omega) (by omega)
   rw [hc];omega
 · rw [if_pos h2];exact hT _ (by omega)
theorem qw9 {T:List (List UInt8)} {n:Nat} (hT:∀ i,i<n→qw1 (T.getD i [])) {l:List Pt} (hl:∀ p∈l,qI n p=true):qw1 (spell T l):=by
 intro c hc
 unfold spell at hc
 obtain ⟨p,hp,hc⟩:=List.mem_flatMap.1 hc
 exact qwH (qwY hT (hl p hp)) _ c hc
theorem qxy {l:List Bk} (hR:RecV l):∀ i,i≤l.length→∀ j,j<i→qw1 ((spR (l.take i)).getD j []):=by
 intro i
 induction i with
 | zero=>intro _ j h;omega
 | succ i ih =>
   intro hi j hj
   have hlt:i<l.length:=by omega
   have hsl:(spR (l.take i)).length=i:=by rw [qkT,List.length_take];omega
   rw [qhT hlt,VG,hsl]
   by_cases h:j<i
   · rw [if_pos h];exact ih (by omega) j h
   · have e : j = i := by omega
     subst e
     rw [if_neg h,Nat.sub_self]
     exact qw9 (ih (by omega)) (hR.1 j hlt)
theorem qwA {a : List UInt8} : ∀ {k i : Nat},i < k * a.length → (List.replicate k a).flatten[i]? = a[i % a.length]?
 | 0,i,h=>by simp at h
 | k+1,i,h=>by
   rw [List.replicate_succ,List.flatten_cons]
   by_cases e:i<a.length
   · rw [List.getElem?_append_left e,Nat.mod_eq_of_lt e]
   · rw [List.getElem?_append_right (by omega),qwA (by rw [Nat.add_mul,Nat.one_mul] at h;omega),←Nat.mod_eq_sub_mod (by omega)]
theorem qwG {T : List (List UInt8)} {long : List Int} (hS : qtx T long) : ∀ {l : List Pt} {i : Nat},(∀ p ∈ l,qI long.length p = true) → (spell T l).length ≤ 1099511627776 → i < (spell T l).length →
 ∃ j:Nat,(qdf long l i).1∈l∧(qdf long l i).2=(j:Int)∧j<(ZG T (qdf long l i).1 (qdf long l i).1.2.2.toNat).length∧(spell T l)[i]?=(ZG T (qdf long l i).1 (qdf long l i).1.2.2.toNat)[j]?
 | [],i,_,_,h=>by simp [spell] at h
 | p::l, i, hl, hm, h=>by
   have hfar:JS=1125899906842624:=rfl
   have hp:=hl p (by simp)
   have tm:=Qd hp
   have e:spell T (p::l)=ZG T p p.2.2.toNat++spell T l:=by unfold spell;rw [List.flatMap_cons]
   rw [e,List.length_append] at hm h
   have e1:spell T [p]=ZG T p p.2.2.toNat:=by unfold spell;simp
   have tg:=qaW hS (l:=[p]) (fun q hq=>by rw [List.mem_singleton] at hq;rw [hq];omega)
   rw [e1] at tg
   have tg2:QZ long [p]=((ZG T p p.2.2.toNat).length:Int):=by omega
   unfold qdf
   rw [tg2]
   by_cases hlt:i<(ZG T p p.2.2.toNat).length
   · rw [if_pos (by omega)]
     exact ⟨i,by simp,rfl,hlt,by rw [e,List.getElem?_append_left hlt]⟩
   · rw [if_neg (by omega)]
     have e3:(i:Int) - ((ZG T p p.2.2.toNat).length:Int)=((i - (ZG T p p.2.2.toNat).length:Nat):Int):=by omega
     rw [e3]
     obtain ⟨j,h1,h2,h3,h4⟩:=qwG hS (l:=l) (i:=i - (ZG T p p.2.2.toNat).length) (fun q hq=>hl q (by simp [hq])) (by omega) (by omega)
     exact ⟨j,by simp [h1],h2,h3,by rw [e,List.getElem?_append_right (by omega)];exact h4⟩
theorem qxo {rc : List Bk} (hR : RecV rc) (hm : ∀ x ∈ qu rc, x ≤ QM) : ∀ (n : Nat) (p : Pt) (i : Nat), qI rc.length p = true → p.2.1 < (n : Int) → i < (ZG (spR rc) p p.2.2.toNat).length →
 ∃ c,(ZG (spR rc) p p.2.2.toNat)[i]?=some c∧atF (qu rc) rc (n+1) p i=(c.toNat:Int):=by
 have hmx:QM=1099511627776:=rfl
 have hfar:JS=1125899906842624:=rfl
 have hS:=quD hR hm rc.length (Nat.le_refl _)
 rw [List.take_length] at hS
 intro n
 induction n with
 | zero =>
   intro p i hp hn hi
   have hact:VZ p.1=true∧p.2.1<0:=by
    rcases zk hp with ⟨h1,h2⟩ | ⟨h1,h2,h3⟩
    · exact ⟨h2,by omega⟩
    · omega
   have hb:97≤p.1∧p.1≤122:=by have:=hact.1;unfold VZ at this;simp only [Bool.and_eq_true,decide_eq_true_eq] at this;omega
   refine ⟨UInt8.ofNat p.1.toNat,?_,?_⟩
   · have eo : qaD (spR rc) p = [UInt8.ofNat p.1.toNat] := if_neg (by omega)
     unfold ZG at hi ⊢
     rw [qwA (by simpa using hi),eo]
     simp [Nat.mod_one]
   · unfold atF
     rw [if_pos hact.2]
     exact (qnf (by omega) (by omega)).symm
 | succ n ih =>
   intro p i hp hn hi
   by_cases hneg:p.2.1<0
   · have hact:VZ p.1=true:=by
      rcases zk hp with ⟨h1,h2⟩ | ⟨h1,h2,h3⟩
      · exact h2
      · omega
     have hb:97≤p.1∧p.1≤122:=by have:=hact;unfold VZ at this;simp only [Bool.and_eq_true,decide_eq_true_eq] at this;omega
     refine ⟨UInt8.ofNat p.1.toNat,?_,?_⟩
     · have eo : qaD (spR rc) p = [UInt8.ofNat p.1.toNat] := if_neg (by omega)
       unfold ZG at hi ⊢
       rw [qwA (by simpa using hi),eo]
       simp [Nat.mod_one]
     · unfold atF
       rw [if_pos hneg]
       exact (qnf (by omega) (by omega)).symm
   · have hr:p.2.1.toNat<rc.length:=by
      rcases zk hp with ⟨h1,h2⟩ | ⟨h1,h2,h3⟩ <;> omega
     have eo:qaD (spR rc) p=spell (spR rc) rc[p.2.1.toNat].2:=by
      unfold qaD;rw [if_pos (by omega),qp0 hR hr]
     have hlen:(qu rc).getD p.2.1.toNat 0=((spell (spR rc) rc[p.2.1.toNat].2).length:Int):=by
      rw [←eo,qmQ hS]
      unfold ja;rw [if_pos (by omega)]
     have hpos:0<(qaD (spR rc) p).length:=by
      rcases Nat.eq_zero_or_pos (qaD (spR rc) p).length with h | h
      · unfold ZG at hi;simp [h] at hi
      · exact h
     rw [eo] at hpos
     have hlm:(spell (spR rc) rc[p.2.1.toNat].2).length≤1099511627776:=by
      have:(qu rc).getD p.2.1.toNat 0≤QM:=by
       have hl:p.2.1.toNat<(qu rc).length:=by rw [zy];exact hr
       rw [List.getD_eq_getElem?_getD,List.getElem?_eq_getElem hl]
       exact hm _ (List.getElem_mem hl)
      omega
     have hpv : ∀ q ∈ rc[p.2.1.toNat].2,qI (qu rc).length q = true := fun q hq => by
      rw [zy]
      exact WC (hR.1 _ hr q hq) (by omega)
     have hmod:i % (spell (spR rc) rc[p.2.1.toNat].2).length<(spell (spR rc) rc[p.2.1.toNat].2).length:=Nat.mod_lt _ hpos
     obtain ⟨j,h1,h2,h3,h4⟩:=qwG hS hpv hlm hmod
     have hsmall:=hR.1 _ hr _ h1
     obtain ⟨c,c1,c2⟩ := ih _ j (by have := hpv _ h1; rw [zy] at this; exact this) (by
      rcases zk hsmall with ⟨h,_⟩ | ⟨_,_,h⟩ <;> omega) h3
     refine ⟨c,?_,?_⟩
     · have hi2 := hi
       unfold ZG at hi2 ⊢
       rw [qwA (by simpa using hi2),eo,h4]
       exact c1
     · unfold atF
       rw [if_neg hneg,hlen]
       have eg:rc.getD p.2.1.toNat ([],[])=rc[p.2.1.toNat]:=by
        rw [List.getD_eq_getElem?_getD,List.getElem?_eq_getElem hr];rfl
       rw [eg]
       have et:(i:Int).tmod ((spell (spR rc) rc[p.2.1.toNat].2).length:Int)=((i % (spell (spR rc) rc[p.2.1.toNat].2).length:Nat):Int):=by
        rw [Int.ofNat_tmod]
       rw [et,h2]
       exact c2
end Go.AM

namespace Go.AM
open Go.RowKit Go.Proofs
def qwE (d:Dy) (a r:Int):List UInt8:=qaD (spR d.rc) (a,r,1)
theorem qwI {d:Dy} {a r:Int} (t:Int):ZG (spR d.rc) (a,r,t) t.toNat=(List.replicate t.toNat (qwE d a r)).flatten:=rfl
theorem qwT {n:Nat} {a r t:Int} (h:qI n (a,r,1)=true) (ht:1≤t∧t≤1000):qI n (a,r,t)=true:=by
 unfold qI at h ⊢
 simp only [Bool.and_eq_true,decide_eq_true_eq] at h ⊢
 exact ⟨ht,h.2⟩
theorem qwJ {x : List UInt8} : ∀ k : Nat,(List.replicate k x).flatten.length = k * x.length
 | 0=>by simp
 | k+1=>by rw [List.replicate_succ,List.flatten_cons,List.length_append,qwJ k,Nat.add_mul];omega
theorem qxI {d:Dy} {a r:Int} (t:Int):spell (spR d.rc) [(a,r,t)]=(List.replicate t.toNat (qwE d a r)).flatten:=by
 unfold spell;simp;rfl
theorem qxz {d:Dy} (V:DayV d):∀ b∈d.rc,b.2≠[]:=fun b hb=>by
 obtain ⟨i,hi,rfl⟩:=List.getElem_of_mem hb
 have h:=V.rb i hi
 unfold jv at h
 simp only [Bool.and_eq_true,decide_eq_true_eq] at h
 intro e
 rw [e] at h
 simp at h
theorem qxn {d:Dy} (V:DayV d) {a r:Int} (hp:qI d.rc.length (a,r,1)=true):1≤(qwE d a r).length∧((qwE d a r).length:Int)≤1099511627776∧((qwE d a r).length:Int)=ja (qu d.rc) (a,r,1):=by
 have hS:=quD V.recV V.rm d.rc.length (Nat.le_refl _)
 rw [List.take_length] at hS
 have e:=qmQ hS (a,r,1)
 have hl:=qmB V.recV (qxz V) d.rc.length (Nat.le_refl _)
 rw [List.take_length] at hl
 have p1:=qpk hl (p:=(a,r,1)) (by rw [zy];exact hp)
 have hm:ja (qu d.rc) (a, r, 1)≤1099511627776:=by
  unfold ja
  split
  · rename_i h0
    rcases zk hp with ⟨h1,_⟩ | ⟨_,h2,h3⟩
    · exact absurd h0 (by rw [h1];decide)
    · have hi : (a,r,(1 : Int)).2.1.toNat < (qu d.rc).length := by rw [zy]; omega
      rw [List.getD_eq_getElem?_getD,List.getElem?_eq_getElem hi]
      exact V.rm _ (List.getElem_mem hi)
  · decide
 have e':((qwE d a r).length:Int)=ja (qu d.rc) (a,r,1):=e
 exact ⟨by omega,by omega,e'⟩
theorem qxl {d:Dy} (V:DayV d) {a r t:Int} (hp:qI d.rc.length (a,r,1)=true) (ht:1≤t∧t≤1000):Zb d (a,r,t)=0∧qc6 d (a,r,t)=(qwE d a r).length*t:=by
 have hE:Zb d (a,r,t)=0:=VL.2 ⟨jw.2 V,qwT hp ht⟩
 obtain ⟨l1,l2,l3⟩:=qxn V hp
 refine ⟨hE,?_⟩
 unfold qc6
 rw [if_pos hE]
 show min JS (0+ja (qu d.rc) (a,r,t)*t)=_
 have e:ja (qu d.rc) (a,r,t)=((qwE d a r).length:Int):=l3.symm
 rw [e]
 have hfar:JS=1125899906842624:=rfl
 have hb:((qwE d a r).length:Int)*t≤1099511627776*1000:=Int.mul_le_mul l2 ht.2 (by omega) (by decide)
 rw [hfar,Int.zero_add]
 generalize ((qwE d a r).length:Int)*t=y at hb ⊢
 omega
theorem qxb {d:Dy} (V:DayV d) {a r:Int} (hp:qI d.rc.length (a,r,1)=true):qw1 (qwE d a r):=by
 have h:=qxy V.recV d.rc.length (Nat.le_refl _)
 rw [List.take_length] at h
 exact qwY h hp
theorem qxR {d : Dy} (V : DayV d) {a r t : Int} (hp : qI d.rc.length (a,r,1) = true) (ht : 1 ≤ t ∧ t ≤ 1000) {i : Nat} (hi : (i : Int) < (qwE d a r).length * t) :
 atE d (a,r,t) i=0∧∃ c:UInt8,(qwE d a r)[i % (qwE d a r).length]?=some c∧atR d (a,r,t) i=(c.toNat:Int):=by
 obtain ⟨l1,l2⟩:=qxl V hp ht
 have hE:atE d (a,r,t) i=0:=by
  unfold atE
  rw [if_pos l1,l2,if_neg (by omega)]
 refine ⟨hE,?_⟩
 have hk:i<t.toNat*(qwE d a r).length:=by
  have e:((t.toNat*(qwE d a r).length:Nat):Int)=(qwE d a r).length*t:=by
   rw [Int.natCast_mul,Int.mul_comm];congr 1;omega
  omega
 obtain ⟨c,c1,c2⟩ := qxo V.recV V.rm d.rc.length (a,r,t) i (qwT hp ht) (by
  rcases zk (qwT hp ht) with ⟨h,_⟩ | ⟨_,_,h⟩ <;> omega) (by
  show i<(ZG (spR d.rc) (a,r,t) t.toNat).length
  rw [qwI,qwJ];exact hk)
 have c1':(ZG (spR d.rc) (a,r,t) t.toNat)[i]?=some c:=c1
 rw [qwI,qwA hk] at c1'
 exact ⟨c,c1',by unfold atR;rw [if_pos hE];exact c2⟩
def qwr (d:Dy) (a r:Int) (k:Nat):List UInt8:=(List.replicate k (qwE d a r)).flatten
theorem qxm {d:Dy} {a r:Int} {k:Nat}:qwr d a r (2*k)=qwr d a r k++qwr d a r k:=by
 unfold qwr
 rw [Nat.two_mul,←List.replicate_append_replicate,List.flatten_append]
theorem qwR {d:Dy} {a r:Int} {k:Nat}:(qwr d a r k).length=k*(qwE d a r).length:=qwJ k
theorem qw2 {d:Dy} (V:DayV d) {a r:Int} (hp:qI d.rc.length (a,r,1)=true) (k:Nat):qw1 (qwr d a r k):=by
 have h:=qxb V hp
 intro c hc
 unfold qwr at hc
 obtain ⟨x,hx,hcx⟩:=List.mem_flatten.1 hc
 rw [List.mem_replicate] at hx
 rw [hx.2] at hcx
 exact h c hcx
theorem qxA {d : Dy} (V : DayV d) {a r : Int} {k : Nat} (hp : qI d.rc.length (a,r,1) = true) (hk : 1 ≤ k ∧ k ≤ 1000) {w : List UInt8} (hw : qgg w = true) (h0 : w ≠ []) (h8 : w.length ≤ 8) :
 qbc d (a,r,(k:Int)) w=0∧qfT d (a,r,(k:Int)) w=occ w (qwr d a r k):=by
 have hE:qbc d (a,r,(k:Int)) w=0:=by
  unfold qbc
  rw [if_pos (qxl V hp (by omega)).1,if_pos hw]
 have e:((k:Int)).toNat=k:=by omega
 exact ⟨hE,by rw [qxq h0 h8 hE,qxI,e];rfl⟩
theorem qxQ {d : Dy} (V : DayV d) {a r : Int} {k : Nat} (hp : qI d.rc.length (a,r,1) = true) (hk : 1 ≤ k ∧ k ≤ 1000) {i : Nat} (hi : i < (qwr d a r k).length) :
 atE d (a,r,(k:Int)) i=0∧atR d (a,r,(k:Int)) i=((qwr d a r k)[i].toNat:Int):=by
 have hi2:i<k*(qwE d a r).length:=by rw [←qwR];exact hi
 obtain ⟨h1,c,h2,h3⟩ := qxR V hp (t := (k : Int)) (by omega) (i := i) (by
  have e:((k*(qwE d a r).length:Nat):Int)=(qwE d a r).length*(k:Int):=by rw [Int.natCast_mul,Int.mul_comm]
  omega)
 refine ⟨h1,?_⟩
 have hg:(qwr d a r k)[i]?=some c:=by
  unfold qwr
  rw [qwA hi2];exact h2
 rw [List.getElem?_eq_getElem hi] at hg
 rw [h3,Option.some.inj hg]
theorem qwN {x:List UInt8} (h:qw1 x) (h0:x≠[]) (h8:x.length≤8):qgg x=true:=by
 have hl:1≤x.length:=by
  cases x with
  | nil=>exact absurd rfl h0
  | cons c r=>simp
 unfold qgg
 simp only [Bool.and_eq_true,decide_eq_true_eq,List.all_eq_true]
 refine ⟨fun c hc=>?_,hl,h8⟩
 have:=h c hc
 unfold YN
 simp only [Bool.and_eq_true,decide_eq_true_eq]
 exact this
theorem qxp {x : List UInt8} {i l : Nat} (h : i + l ≤ x.length) (hl : 1 ≤ l) :
 1 ≤ occ ((x.drop i).take l) x ∧ occ ((x.drop i).take l) x ≤ x.length - l + 1 ∧ 2 * occ ((x.drop i).take l) x ≤ occ ((x.drop i).take l) (x ++ x) ∧ occ ((x.drop i).take l) (x ++ x) ≤ 2 * occ ((x.drop i).take l) x + (l - 1) ∧
   ∀ c,occ ((x.drop i).take l++[c]) x≤occ ((x.drop i).take l) x∧occ (c::(x.drop i).take l) x≤occ ((x.drop i).take l) x:=by
 have hlen:((x.drop i).take l).length=l:=by rw [List.length_take,List.length_drop];omega
 have h0 : (x.drop i).take l ≠ [] := fun e => by
  have:=congrArg List.length e
  rw [hlen] at this;simp at this;omega
 have e:x=x.take i++(x.drop i).take l++(x.drop i).drop l:=by
  rw [List.append_assoc,List.take_append_drop,List.take_append_drop]
 have o1:=qxE h0 e
 have o2:=qxJ (x:=x) h0 (by omega)
 have o3:=qxF (x:=x) h0
 rw [hlen] at o2 o3
 refine ⟨o1,o2,o3.1,by omega,fun c=>⟨?_,qxs c⟩⟩
 have:=qxt (w:=(x.drop i).take l) (x:=x) c
 rw [if_neg h0] at this
 omega
theorem qw5 {d : Dy} (hg : qjT d = false) (dI : DyI d) (V : DayV d) {a r : Int} (hp : qI d.rc.length (a,r,1) = true) (τ : Nat) (hτ : 1 ≤ τ ∧ τ ≤ 128) (idx : Nat) (hidx : idx < 18446744073709551616) (lg : Nat) (hlg : lg ≤ 255) (mo : Nat) (hmo : mo ≤ 255) (fr xs : List (Nat × AV)) (y : AV)
 (hfr:fr=(3,.v (.int .u64 (idx:Int)))::(4,U (lg:Int))::(5,U (mo:Int))::(6,.ref 0 0)::(13,.ref 1 0)::xs∨fr=(1,y)::(3,.v (.int .u64 (idx:Int)))::(4,U (lg:Int))::(5,U (mo:Int))::(6,.ref 0 0)::(13,.ref 1 0)::xs) :
 AWS Tryz.prog (.seq (.rgn [⟨none,[(.ld 58 true 3 (.t 13)),(.al 14 [(.v (.int .u8 0)),(I 0),(I 0)]),(.st 3 (.t 14) (.t 58))]⟩] [3,4,5,6,13,14]) (.seq (.rgn [⟨none,[(.fa 59 (.t 13) 2),(.ld 60 false 1 (.t 59)),(.bin 61 .mul (.k (I 2)) (.t 60)),(.fa 62 (.t 14) 2),(.st 1 (.t 62) (.t 61))]⟩] [3,4,5,6,13,14]) (.seq (.rgn [⟨none,[(.ld 64 true 5 (.t 6)),(.ld 65 true 3 (.t 13)),(.call 66 36 [(.t 64),(.t 65)]),(.mv 63 (.t 66)),(.ext 67 (.t 63) 0),(.ext 68 (.t 63) 1),(.mv 15 (.t 67)),(.mv 16 (.t 68))]⟩] [3,4,5,6,13,14,15,16]) (.seq (.seq (.rgn [⟨none,[(.mv 69 (.t 16)),(.bin 70 .neq (.t 69) (.k (I 0))),(.mv 71 (.t 70))]⟩,⟨(some (71,false)),[(.mv 72 (.t 15)),(.bin 73 .lss (.t 72) (.k (I 1)))]⟩,⟨none,[(.pick 74 (.t 71) (.k (B true)) (.t 73))]⟩] [3,4,5,6,13,14,15,74]) (.cond (.t 74) (.seq (.rgn [⟨none,[(.mv 12 (.k (B false)))]⟩] [12]) .ret) .skip)) (.seq (.rgn [⟨none,[(.mv 75 (.t 3)),(.bin 76 .rem (.t 75) (.k (.v (.int .u64 4611686018427387904)))),(.cnv 77 .i64 (.t 76)),(.mv 78 (.t 15)),(.bin 79 .rem (.t 77) (.t 78)),(.mv 17 (.t 79))]⟩] [4,5,6,13,14,15,17]) (.seq (.rgn [⟨none,[(.mv 18 (.k (.v (.string ⟨#[]⟩))))]⟩] [4,5,6,13,14,15,17,18]) (.seq (.seq (.rgn [⟨none,[(.mv 19 (.k (I 0)))]⟩] [4,5,6,13,14,15,17,18,19]) (.block 0 (.loop (.seq (.seq (.rgn [⟨none,[(.mv 80 (.t 19)),(.mv 81 (.t 4)),(.cnv 82 .i64 (.t 81)),(.bin 83 .rem (.t 82) (.k (I 8))),(.bin 84 .add (.k (I 1)) (.t 83)),(.bin 85 .lss (.t 80) (.t 84)),(.mv 86 (.t 85))]⟩,⟨(some (86,true)),[(.mv 87 (.t 17)),(.mv 88 (.t 19)),(.bin 89 .add (.t 87) (.t 88)),(.mv 90 (.t 15)),(.bin 91 .lss (.t 89) (.t 90))]⟩,⟨none,[(.pick 92 (.t 86) (.t 91) (.k (B false)))]⟩] [4,5,6,13,14,15,17,18,19,92]) (.cond (.t 92) .skip (.exit 0))) (.seq (.block 1 (.seq (.rgn [⟨none,[(.ld 96 true 5 (.t 6)),(.ld 97 true 3 (.t 13)),(.mv 98 (.t 17)),(.mv 99 (.t 19)),(.bin 100 .add (.t 98) (.t 99)),(.call 101 38 [(.t 96),(.t 97),(.t 100)]),(.mv 95 (.t 101)),(.ext 102 (.t 95) 0),(.ext 103 (.t 95) 1),(.mv 20 (.t 102)),(.mv 21 (.t 103))]⟩] [4,5,6,13,14,15,17,18,19,20,21]) (.seq (.seq (.rgn [⟨none,[(.mv 104 (.t 21)),(.bin 105 .neq (.t 104) (.k (I 0))),(.mv 106 (.t 105))]⟩,⟨(some (106,false)),[(.mv 107 (.t 20)),(.call 108 55 [(.t 107)]),(.un 109 .not (.t 108))]⟩,⟨none,[(.pick 110 (.t 106) (.k (B true)) (.t 109))]⟩] [4,5,6,13,14,15,17,18,19,20,110]) (.cond (.t 110) (.seq (.rgn [⟨none,[(.mv 12 (.k (B false)))]⟩] [12]) .ret) .skip)) (.rgn [⟨none,[(.mv 111 (.t 18)),(.mv 112 (.t 20)),(.bsl 113 1 1 [(.v (.int .u8 0))] [(0,(.t 112))]),(.b2s 114 (.t 113)),(.bin 115 .add (.t 111) (.t 114)),(.mv 18 (.t 115))]⟩] [4,5,6,13,14,15,17,18,19])))) (.rgn [⟨none,[(.mv 93 (.t 19)),(.bin 94 .add (.t 93) (.k (I 1))),(.mv 19 (.t 94))]⟩] [4,5,6,13,14,15,17,18,19])))))) (.seq (.rgn [⟨none,[(.ld 117 true 5 (.t 6)),(.ld 118 true 3 (.t 13)),(.mv 119 (.t 18)),(.call 120 42 [(.t 117),(.t 118),(.t 119)]),(.mv 116 (.t 120)),(.ext 121 (.t 116) 0),(.ext 122 (.t 116) 1),(.mv 22 (.t 121)),(.mv 23 (.t 122))]⟩] [5,6,13,14,15,18,22,23]) (.seq (.rgn [⟨none,[(.ld 124 true 5 (.t 6)),(.ld 125 true 3 (.t 14)),(.mv 126 (.t 18)),(.call 127 42 [(.t 124),(.t 125),(.t 126)]),(.mv 123 (.t 127)),(.ext 128 (.t 123) 0),(.ext 129 (.t 123) 1),(.mv 24 (.t 128)),(.mv 25 (.t 129))]⟩] [5,6,13,15,18,22,23,24,25]) (.seq (.seq (.rgn [⟨none,[(.mv 130 (.t 23)),(.bin 131 .neq (.t 130) (.k (I 0))),(.mv 132 (.t 131))]⟩,⟨(some (132,false)),[(.mv 133 (.t 25)),(.bin 134 .neq (.t 133) (.k (I 0)))]⟩,⟨none,[(.pick 135 (.t 132) (.k (B true)) (.t 134)),(.mv 136 (.t 135))]⟩,⟨(some (136,false)),[(.mv 137 (.t 22)),(.bin 138 .lss (.t 137) (.k (I 1)))]⟩,⟨none,[(.pick 139 (.t 136) (.k (B true)) (.t 138)),(.mv 140 (.t 139))]⟩,⟨(some (140,false)),[(.mv 141 (.t 22)),(.mv 142 (.t 15)),(.mv 143 (.t 18)),(.lns 144 (.t 143)),(.bin 145 .sub (.t 142) (.t 144)),(.bin 146 .add (.t 145) (.k (I 1))),(.bin 147 .gtr (.t 141) (.t 146))]⟩,⟨none,[(.pick 148 (.t 140) (.k (B true)) (.t 147)),(.mv 149 (.t 148))]⟩,⟨(some (149,false)),[(.mv 150 (.t 24)),(.mv 151 (.t 22)),(.bin 152 .mul (.k (I 2)) (.t 151)),(.bin 153 .lss (.t 150) (.t 152))]⟩,⟨none,[(.pick 154 (.t 149) (.k (B true)) (.t 153)),(.mv 155 (.t 154))]⟩,⟨(some (155,false)),[(.mv 156 (.t 24)),(.mv 157 (.t 22)),(.bin 158 .mul (.k (I 2)) (.t 157)),(.mv 159 (.t 18)),(.lns 160 (.t 159)),(.bin 161 .add (.t 158) (.t 160)),(.bin 162 .sub (.t 161) (.k (I 1))),(.bin 163 .gtr (.t 156) (.t 162))]⟩,⟨none,[(.pick 164 (.t 155) (.k (B true)) (.t 163))]⟩] [5,6,13,18,22,164]) (.cond (.t 164) (.seq (.rgn [⟨none,[(.mv 12 (.k (B false)))]⟩] [12]) .ret) .skip)) (.seq (.seq (.rgn [⟨none,[(.mv 165 (.t 18)),(.lns 166 (.t 165)),(.bin 167 .geq (.t 166) (.k (I 8)))]⟩] [5,6,13,18,22,167]) (.cond (.t 167) (.seq (.rgn [⟨none,[(.call 168 18 []),(.mv 12 (.t 168))]⟩] [12]) .ret) .skip)) (.seq (.rgn [⟨none,[(.mv 169 (.t 5)),(.bin 170 .rem (.t 169) (.k (.v (.int .u8 26)))),(.bin 171 .add (.k (.v (.int .u8 97))) (.t 170)),(.bsl 172 1 1 [(.v (.int .u8 0))] [(0,(.t 171))]),(.b2s 173 (.t 172)),(.mv 26 (.t 173))]⟩] [6,13,18,22,26]) (.seq (.rgn [⟨none,[(.ld 175 true 5 (.t 6)),(.ld 176 true 3 (.t 13)),(.mv 177 (.t 18)),(.mv 178 (.t 26)),(.bin 179 .add (.t 177) (.t 178)),(.call 180 42 [(.t 175),(.t 176),(.t 179)]),(.mv 174 (.t 180)),(.ext 181 (.t 174) 0),(.ext 182 (.t 174) 1),(.mv 27 (.t 181)),(.mv 23 (.t 182))]⟩] [6,13,18,22,23,26,27]) (.seq (.rgn [⟨none,[(.ld 184 true 5 (.t 6)),(.ld 185 true 3 (.t 13)),(.mv 186 (.t 26)),(.mv 187 (.t 18)),(.bin 188 .add (.t 186) (.t 187)),(.call 189 42 [(.t 184),(.t 185),(.t 188)]),(.mv 183 (.t 189)),(.ext 190 (.t 183) 0),(.ext 191 (.t 183) 1),(.mv 28 (.t 190)),(.mv 25 (.t 191))]⟩] [22,23,25,27,28]) (.seq (.rgn [⟨none,[(.mv 192 (.t 23)),(.bin 193 .eql (.t 192) (.k (I 0))),(.mv 194 (.t 193))]⟩,⟨(some (194,true)),[(.mv 195 (.t 25)),(.bin 196 .eql (.t 195) (.k (I 0)))]⟩,⟨none,[(.pick 197 (.t 194) (.t 196) (.k (B false))),(.mv 198 (.t 197))]⟩,⟨(some (198,true)),[(.mv 199 (.t 27)),(.mv 200 (.t 22)),(.bin 201 .leq (.t 199) (.t 200))]⟩,⟨none,[(.pick 202 (.t 198) (.t 201) (.k (B false))),(.mv 203 (.t 202))]⟩,⟨(some (203,true)),[(.mv 204 (.t 28)),(.mv 205 (.t 22)),(.bin 206 .leq (.t 204) (.t 205))]⟩,⟨none,[(.pick 207 (.t 203) (.t 206) (.k (B false))),(.mv 208 (.t 207))]⟩,⟨(some (208,true)),[(.call 209 18 [])]⟩,⟨none,[(.pick 210 (.t 208) (.t 209) (.k (B false))),(.mv 12 (.t 210))]⟩] [12]) .ret))))))))))))))) ⟨fr,[.cells (dyC d),.cells (ptC (a,r,(τ:Int)))]⟩ (qfB [12] (Out (B true))):=by
 have ed:[Bks d.rc,I d.bath,I d.laid,Pts d.pat,Shs d.sh]=dyC d:=rfl
 have e1:[U a,I r,I (τ:Int)]=ptC (a,r,(τ:Int)):=rfl
 obtain ⟨τ2,hτ2⟩:∃ k:Nat,k=2*τ:=⟨_,rfl⟩
 have eτ:(2:Int)*(τ:Int)=(τ2:Int):=by omega
 have e2:[U a,I r,I (τ2:Int)]=ptC (a,r,(τ2:Int)):=rfl
 obtain ⟨l1,l2,l3⟩:=qxn V hp
 obtain ⟨p1,p2⟩:=qxl V hp (t:=(τ:Int)) (by omega)
 have hlen:=qwR (d:=d) (a:=a) (r:=r) (k:=τ)
 have hYn:((qwE d a r).length:Int)*(τ:Int)=((qwr d a r τ).length:Int):=by rw [hlen,Int.natCast_mul,Int.mul_comm]
 rw [hYn] at p2
 have hYb:((qwr d a r τ).length:Int)≤1099511627776*128:=by rw [←hYn];exact Int.mul_le_mul l2 (by omega) (by omega) (by decide)
 have hY1:1≤(qwr d a r τ).length:=by rw [hlen];exact Nat.mul_pos (by omega) l1
 have hat:=@qxQ d V a r τ hp (by omega)
 have hacts:=qw2 V hp τ
 have hf1:=fun {w:List UInt8}=>@qxA d V a r τ hp (by omega) w
 have hf2:=fun {w:List UInt8}=>@qxA d V a r τ2 hp (by omega) w
 have htwo:qwr d a r τ2=qwr d a r τ++qwr d a r τ:=by rw [hτ2];exact qxm
 rw [htwo] at hf2
 generalize hY:qwr d a r τ=Y at p2 hYb hY1 hat hacts hf1 hf2
 have ha:0≤a∧a≤255:=by
  rcases zk hp with ⟨_,h⟩ | ⟨h,_⟩
  · unfold VZ at h;simp only [Bool.and_eq_true,decide_eq_true_eq] at h;omega
  · have h : a = 0 := h
    omega
 obtain ⟨J,hJ⟩:∃ J:Nat,J=idx % 4611686018427387904:=⟨_,rfl⟩
 have hJl:J<4611686018427387904:=by rw [hJ];exact Nat.mod_lt _ (by decide)
 have m1:(idx:Int).tmod 4611686018427387904=(J:Int):=by rw [hJ];rfl
 obtain ⟨A,hA⟩:∃ A:Nat,A=J % Y.length:=⟨_,rfl⟩
 have hAl:A<Y.length:=by rw [hA];exact Nat.mod_lt _ (by omega)
 have m2:(J:Int).tmod (Y.length:Int)=(A:Int):=by rw [hA];rfl
 have z1:((Y.length:Int)==0)=false:=by rw [beq_eq_false_iff_ne];omega
 have c1:((Y.length:Int)<1)=False:=by simp only [eq_iff_iff,iff_false];omega
 rcases hfr with rfl | rfl
 all_goals
  refine zV ?_
  simp -implicitDefEqProofs (disch:=omega)[qb,qf,ptC]
  refine zV ?_
  simp -implicitDefEqProofs (disch:=omega)[qb,eτ]
  refine zV ?_
  simp -implicitDefEqProofs (disch:=omega)[qb,qf,dyC]
  simp only [ed,e1,e2]
  refine qg (ys:=[DyV d,.agg (ptC (a,r,(τ:Int)))]) (ids:=[]) rfl (qjY d dI (a,r,(τ:Int))) ?_
  rw [p1,p2]
  simp -implicitDefEqProofs (disch:=omega)[qb,AV.scalar]
  refine zV ?_
  simp -implicitDefEqProofs (disch:=omega)[qb,c1]
  refine zV ?_
  simp -implicitDefEqProofs (disch:=omega)[qb,m1,m2,z1]
  refine zV ?_
  simp -implicitDefEqProofs (disch:=omega)[qb]
  have fin:∀ (j:Nat),1≤j→j≤8→A+j≤Y.length→∀ (y4 y14 y17:AV) (zs:List (Nat × AV)),AWS Tryz.prog (.seq (.rgn [⟨none,[(.ld 117 true 5 (.t 6)),(.ld 118 true 3 (.t 13)),(.mv 119 (.t 18)),(.call 120 42 [(.t 117),(.t 118),(.t 119)]),(.mv 116 (.t 120)),(.ext 121 (.t 116) 0),(.ext 122 (.t 116) 1),(.mv 22 (.t 121)),(.mv 23 (.t 122))]⟩] [5,6,13,14,15,18,22,23]) (.seq (.rgn [⟨none,[(.ld 124 true 5 (.t 6)),(.ld 125 true 3 (.t 14)),(.mv 126 (.t 18)),(.call 127 42 [(.t 124),(.t 125),(.t 126)]),(.mv 123 (.t 127)),(.ext 128 (.t 123) 0),(.ext 129 (.t 123) 1),(.mv 24 (.t 128)),(.mv 25 (.t 129))]⟩] [5,6,13,15,18,22,23,24,25]) (.seq (.seq (.rgn [⟨none,[(.mv 130 (.t 23)),(.bin 131 .neq (.t 130) (.k (I 0))),(.mv 132 (.t 131))]⟩,⟨(some (132,false)),[(.mv 133 (.t 25)),(.bin 134 .neq (.t 133) (.k (I 0)))]⟩,⟨none,[(.pick 135 (.t 132) (.k (B true)) (.t 134)),(.mv 136 (.t 135))]⟩,⟨(some (136,false)),[(.mv 137 (.t 22)),(.bin 138 .lss (.t 137) (.k (I 1)))]⟩,⟨none,[(.pick 139 (.t 136) (.k (B true)) (.t 138)),(.mv 140 (.t 139))]⟩,⟨(some (140,false)),[(.mv 141 (.t 22)),(.mv 142 (.t 15)),(.mv 143 (.t 18)),(.lns 144 (.t 143)),(.bin 145 .sub (.t 142) (.t 144)),(.bin 146 .add (.t 145) (.k (I 1))),(.bin 147 .gtr (.t 141) (.t 146))]⟩,⟨none,[(.pick 148 (.t 140) (.k (B true)) (.t 147)),(.mv 149 (.t 148))]⟩,⟨(some (149,false)),[(.mv 150 (.t 24)),(.mv 151 (.t 22)),(.bin 152 .mul (.k (I 2)) (.t 151)),(.bin 153 .lss (.t 150) (.t 152))]⟩,⟨none,[(.pick 154 (.t 149) (.k (B true)) (.t 153)),(.mv 155 (.t 154))]⟩,⟨(some (155,false)),[(.mv 156 (.t 24)),(.mv 157 (.t 22)),(.bin 158 .mul (.k (I 2)) (.t 157)),(.mv 159 (.t 18)),(.lns 160 (.t 159)),(.bin 161 .add (.t 158) (.t 160)),(.bin 162 .sub (.t 161) (.k (I 1))),(.bin 163 .gtr (.t 156) (.t 162))]⟩,⟨none,[(.pick 164 (.t 155) (.k (B true)) (.t 163))]⟩] [5,6,13,18,22,164]) (.cond (.t 164) (.seq (.rgn [⟨none,[(.mv 12 (.k (B false)))]⟩] [12]) .ret) .skip)) (.seq (.seq (.rgn [⟨none,[(.mv 165 (.t 18)),(.lns 166 (.t 165)),(.bin 167 .geq (.t 166) (.k (I 8)))]⟩] [5,6,13,18,22,167]) (.cond (.t 167) (.seq (.rgn [⟨none,[(.call 168 18 []),(.mv 12 (.t 168))]⟩] [12]) .ret) .skip)) (.seq (.rgn [⟨none,[(.mv 169 (.t 5)),(.bin 170 .rem (.t 169) (.k (.v (.int .u8 26)))),(.bin 171 .add (.k (.v (.int .u8 97))) (.t 170)),(.bsl 172 1 1 [(.v (.int .u8 0))] [(0,(.t 171))]),(.b2s 173 (.t 172)),(.mv 26 (.t 173))]⟩] [6,13,18,22,26]) (.seq (.rgn [⟨none,[(.ld 175 true 5 (.t 6)),(.ld 176 true 3 (.t 13)),(.mv 177 (.t 18)),(.mv 178 (.t 26)),(.bin 179 .add (.t 177) (.t 178)),(.call 180 42 [(.t 175),(.t 176),(.t 179)]),(.mv 174 (.t 180)),(.ext 181 (.t 174) 0),(.ext 182 (.t 174) 1),(.mv 27 (.t 181)),(.mv 23 (.t 182))]⟩] [6,13,18,22,23,26,27]) (.seq (.rgn [⟨none,[(.ld 184 true 5 (.t 6)),(.ld 185 true 3 (.t 13)),(.mv 186 (.t 26)),(.mv 187 (.t 18)),(.bin 188 .add (.t 186) (.t 187)),(.call 189 42 [(.t 184),(.t 185),(.t 188)]),(.mv 183 (.t 189)),(.ext 190 (.t 183) 0),(.ext 191 (.t 183) 1),(.mv 28 (.t 190)),(.mv 25 (.t 191))]⟩] [22,23,25,27,28]) (.seq (.rgn [⟨none,[(.mv 192 (.t 23)),(.bin 193 .eql (.t 192) (.k (I 0))),(.mv 194 (.t 193))]⟩,⟨(some (194,true)),[(.mv 195 (.t 25)),(.bin 196 .eql (.t 195) (.k (I 0)))]⟩,⟨none,[(.pick 197 (.t 194) (.t 196) (.k (B false))),(.mv 198 (.t 197))]⟩,⟨(some (198,true)),[(.mv 199 (.t 27)),(.mv 200 (.t 22)),(.bin 201 .leq (.t 199) (.t 200))]⟩,⟨none,[(.pick 202 (.t 198) (.t 201) (.k (B false))),(.mv 203 (.t 202))]⟩,⟨(some (203,true)),[(.mv 204 (.t 28)),(.mv 205 (.t 22)),(.bin 206 .leq (.t 204) (.t 205))]⟩,⟨none,[(.pick 207 (.t 203) (.t 206) (.k (B false))),(.mv 208 (.t 207))]⟩,⟨(some (208,true)),[(.call 209 18 [])]⟩,⟨none,[(.pick 210 (.t 208) (.t 209) (.k (B false))),(.mv 12 (.t 210))]⟩] [12]) .ret)))))))) ⟨(4,y4)::(5,U (mo:Int))::(6,.ref 0 0)::(13,.ref 1 0)::(14,.ref 2 0)::(15,I (Y.length:Int))::(17,y17)::(18,S ((Y.drop A).take j))::zs,[.cells (dyC d),.cells (ptC (a,r,(τ:Int))),.cells (ptC (a,r,(τ2:Int)))]⟩ (qfB [12] (Out (B true))):=by
   intro j hj1 hj8 jYY y4 y14 y17 zs
   obtain ⟨o1,o2,o3,o4,o5⟩:=qxp jYY hj1
   have hwl:((Y.drop A).take j).length=j:=by rw [List.length_take,List.length_drop];omega
   have hwa:qw1 ((Y.drop A).take j):=fun c hc=>hacts c (List.mem_of_mem_drop (List.mem_of_mem_take hc))
   generalize (Y.drop A).take j=w at o1 o2 o3 o4 o5 hwl hwa
   have hw0:w≠[]:=fun e=>by rw [e] at hwl;simp at hwl;omega
   obtain ⟨u1,u2⟩:=hf1 (qwN hwa hw0 (by omega)) hw0 (by omega)
   obtain ⟨v1,v2⟩:=hf2 (qwN hwa hw0 (by omega)) hw0 (by omega)
   generalize hα:occ w Y=α at o1 o2 o3 o4 o5 u2
   generalize occ w (Y++Y)=β at o3 o4 v2
   refine zV ?_
   simp -implicitDefEqProofs (disch:=omega)[qb,qf,dyC,ptC]
   simp only [ed,e1,e2]
   refine qg (ys:=[DyV d,.agg (ptC (a,r,(τ:Int))),S w]) (ids:=[]) rfl (qjX d dI (a,r,(τ:Int)) ha w (by omega)) ?_
   rw [u1,u2]
   simp -implicitDefEqProofs (disch:=omega)[qb,AV.scalar]
   refine zV ?_
   simp -implicitDefEqProofs (disch:=omega)[qb,qf,dyC,ptC]
   simp only [ed,e1,e2]
   refine qg (ys:=[DyV d,.agg (ptC (a,r,(τ2:Int))),S w]) (ids:=[]) rfl (qjX d dI (a,r,(τ2:Int)) ha w (by omega)) ?_
   rw [v1,v2]
   simp -implicitDefEqProofs (disch:=omega)[qb,AV.scalar]
   have q1:(α<1)=False:=by simp only [eq_iff_iff,iff_false];omega
   have q2:((Y.length:Int) - (j:Int)+1<α)=False:=by simp only [eq_iff_iff,iff_false];omega
   have q3:(β<2*α)=False:=by simp only [eq_iff_iff,iff_false];omega
   have q4:(2*α+(j:Int) - 1<β)=False:=by simp only [eq_iff_iff,iff_false];omega
   refine zV ?_
   simp -implicitDefEqProofs (disch:=omega)[qb,q1,q2,q3,q4,hwl]
   by_cases h8:8≤j
   case pos =>
    have g8:((8:Int)≤(j:Int))=True:=by simp only [eq_iff_iff,iff_true];omega
    refine zV ?_
    simp -implicitDefEqProofs (disch:=omega)[qb,hwl,g8]
    refine qg (ys:=[]) (ids:=[]) rfl qqz ?_
    simp -implicitDefEqProofs (disch:=omega)[qb,AV.scalar]
   have g8:((8:Int)≤(j:Int))=False:=by simp only [eq_iff_iff,iff_false];omega
   obtain ⟨b0,hb0⟩:∃ k:Nat,k=mo % 26:=⟨_,rfl⟩
   have mb:(mo:Int).tmod 26=(b0:Int):=by rw [hb0];rfl
   have b0l:b0<26:=by omega
   obtain ⟨b1,hb1⟩:∃ k:Nat,k=97+b0:=⟨_,rfl⟩
   have mb1:(97:Int)+(b0:Int)=(b1:Int):=by omega
   have wb1:IntKind.u8.wrap (b1:Int)=(b1:Int):=qgP (by omega)
   have wb0:IntKind.u8.wrap (b0:Int)=(b0:Int):=qgP (by omega)
   have hcb:(UInt8.ofNat b1).toNat=b1:=by rw [UInt8.toNat_ofNat',Nat.mod_eq_of_lt (by omega)]
   obtain ⟨o6,o7⟩:=o5 (UInt8.ofNat b1)
   have hA1 : qw1 (w ++ [UInt8.ofNat b1]) := fun c hc => by
    rcases List.mem_append.1 hc with h | h
    · exact hwa c h
    · have h : c = UInt8.ofNat b1 := by simpa using h
      rw [h,hcb];omega
   have hA2 : qw1 (UInt8.ofNat b1 :: w) := fun c hc => by
    rcases List.mem_cons.1 hc with h | h
    · rw [h,hcb];omega
    · exact hwa c h
   have hl1:(w++[UInt8.ofNat b1]).length≤8:=by rw [List.length_append,List.length_singleton];omega
   have hl2:(UInt8.ofNat b1::w).length≤8:=by rw [List.length_cons];omega
   obtain ⟨x1,x2⟩:=hf1 (qwN hA1 (by simp) hl1) (by simp) hl1
   obtain ⟨x3,x4⟩:=hf1 (qwN hA2 (by simp) hl2) (by simp) hl2
   have hz:List.drop 1 (zP 1 [AV.v (Value.int .u8 0)])=[]:=rfl
   have hz2:zP 1 [AV.v (Value.int .u8 0)]=[AV.v (Value.int .u8 0)]:=rfl
   have ad1:w.length+([UInt8.ofNat b1]:List UInt8).length≤9223372036854775807:=by simp;omega
   have ad2:([UInt8.ofNat b1]:List UInt8).length+w.length≤9223372036854775807:=by simp;omega
   refine zV ?_
   simp -implicitDefEqProofs (disch:=omega)[qb,hwl,g8]
   refine zV ?_
   simp -implicitDefEqProofs (disch:=omega)[qb,mb,mb1,wb0,wb1]
   refine zq (ys:=[U (b1:Int)]) (ids:=[]) rfl rfl ?_
   simp -implicitDefEqProofs (disch:=omega)[qb,hz,hz2]
   refine zV ?_
   simp -implicitDefEqProofs (disch:=omega)[qb,qf,dyC,ptC,Z5 ad1]
   simp only [ed,e1,e2]
   refine qg (ys:=[DyV d,.agg (ptC (a,r,(τ:Int))),S (w++[UInt8.ofNat b1])]) (ids:=[]) rfl (qjX d dI (a,r,(τ:Int)) ha (w++[UInt8.ofNat b1]) (by omega)) ?_
   rw [x1,x2]
   simp -implicitDefEqProofs (disch:=omega)[qb,AV.scalar]
   refine zV ?_
   simp -implicitDefEqProofs (disch:=omega)[qb,qf,dyC,ptC,Z5 ad2]
   simp only [ed,e1,e2]
   refine qg (ys:=[DyV d,.agg (ptC (a,r,(τ:Int))),S (UInt8.ofNat b1::w)]) (ids:=[]) rfl (qjX d dI (a,r,(τ:Int)) ha (UInt8.ofNat b1::w) (by omega)) ?_
   rw [x3,x4]
   have g6:(occ (w++[UInt8.ofNat b1]) Y≤α)=True:=by simp only [eq_iff_iff,iff_true];exact o6
   have g7:(occ (UInt8.ofNat b1::w) Y≤α)=True:=by simp only [eq_iff_iff,iff_true];exact o7
   simp -implicitDefEqProofs (disch:=omega)[qb,AV.scalar]
   refine zV ?_
   simp -implicitDefEqProofs (disch:=omega)[qb,g6,g7]
   refine qg (ys:=[]) (ids:=[]) rfl qqz ?_
   simp -implicitDefEqProofs (disch:=omega)[qb,AV.scalar]
   refine qnu ?_
   simp -implicitDefEqProofs (disch:=omega)[qb]
  obtain ⟨L0,hL0⟩:∃ L:Nat,L=lg % 8:=⟨_,rfl⟩
  have mL:(lg:Int).tmod 8=(L0:Int):=by rw [hL0];rfl
  have L8:L0<8:=by omega
  refine zV ?_
  simp -implicitDefEqProofs (disch:=omega)[qb]
  refine qW fun K9 hK9=>?_
  refine qO (fun j:Nat=>⟨[(4,U (lg:Int)),(5,U (mo:Int)),(6,.ref 0 0),(13,.ref 1 0),(14,.ref 2 0),(15,I (Y.length:Int)),(17,I (A:Int)),(18,S ((Y.drop A).take j)),(19,I (j:Int))],[.cells (dyC d),.cells (ptC (a,r,(τ:Int))),.cells (ptC (a,r,(τ2:Int)))]⟩) (fun j=>j≤L0+1∧A+j≤Y.length) (fun j=>9 - j) 0 ⟨Nat.zero_le _,by omega⟩ (by simp) ?_
  rintro j ⟨hj1,hj2⟩
  refine qW fun K0 hK0=>?_
  obtain ⟨j',hj'⟩:∃ k:Nat,k=j+1:=⟨_,rfl⟩
  have jx:(j:Int)+1=(j':Int):=by omega
  obtain ⟨Aj,hAj⟩:∃ k:Nat,k=A+j:=⟨_,rfl⟩
  have ajx:(A:Int)+(j:Int)=(Aj:Int):=by omega
  by_cases hlt:j≤L0
  case neg =>
   have b1:((j:Int)<1+(L0:Int))=False:=by simp only [eq_iff_iff,iff_false];omega
   simp -implicitDefEqProofs (disch:=omega)[qb,mL,b1]
   subst hK0
   simp -implicitDefEqProofs (disch:=omega)[qb]
   subst hK9
   exact fin j (by omega) (by omega) hj2 _ .any _ _
  have b1:((j:Int)<1+(L0:Int))=True:=by simp only [eq_iff_iff,iff_true];omega
  by_cases hin:A+j<Y.length
  case neg =>
   have b2:((Aj:Int)<(Y.length:Int))=False:=by simp only [eq_iff_iff,iff_false];omega
   simp -implicitDefEqProofs (disch:=omega)[qb,mL,b1,ajx,b2]
   subst hK0
   simp -implicitDefEqProofs (disch:=omega)[qb]
   subst hK9
   exact fin j (by omega) (by omega) hj2 _ .any _ _
  have b2:((Aj:Int)<(Y.length:Int))=True:=by simp only [eq_iff_iff,iff_true];omega
  have hAjl:Aj<Y.length:=by omega
  obtain ⟨w1,w2⟩:=hat (i:=Aj) hAjl
  have hact:=hacts _ (List.getElem_mem hAjl)
  have hAct:VZ ((Y[Aj]).toNat:Int)=true:=by unfold VZ;simp;omega
  have hwj:(Y.drop A).take j++[Y[Aj]]=(Y.drop A).take j':=by
   have hd:j<(Y.drop A).length:=by rw [List.length_drop];omega
   rw [hj',List.take_succ_eq_append_getElem hd,List.getElem_drop]
   simp only [hAj]
  have hwl:((Y.drop A).take j).length=j:=by rw [List.length_take,List.length_drop];omega
  generalize Y[Aj]=c at w2 hact hAct hwj
  have ad:((Y.drop A).take j).length+([c]:List UInt8).length≤9223372036854775807:=by rw [hwl];simp;omega
  have hcn:(c.toNat:Int).toNat=c.toNat:=by omega
  have hz:List.drop 1 (zP 1 [AV.v (Value.int .u8 0)])=[]:=rfl
  have hz2:zP 1 [AV.v (Value.int .u8 0)]=[AV.v (Value.int .u8 0)]:=rfl
  simp -implicitDefEqProofs (disch:=omega)[qb,mL,b1,ajx,b2,qf,dyC,ptC]
  simp only [ed,e1,e2]
  refine qg (ys:=[DyV d,.agg (ptC (a,r,(τ:Int))),I (Aj:Int)]) (ids:=[]) rfl (qjV d dI (a,r,(τ:Int)) (Aj:Int) (by unfold i64;omega)) ?_
  rw [w1,w2]
  simp -implicitDefEqProofs (disch:=omega)[qb,AV.scalar]
  refine qg (ys:=[U (c.toNat:Int)]) (ids:=[]) rfl (qb7 (c.toNat:Int)) ?_
  rw [hAct]
  simp -implicitDefEqProofs (disch:=omega)[qb,AV.scalar]
  refine zq (ys:=[U (c.toNat:Int)]) (ids:=[]) rfl rfl ?_
  generalize hW:(Y.drop A).take j=w at ad hwj
  simp -implicitDefEqProofs (disch:=omega)[qb,hz,hz2,Z5 ad,hwj,jx]
  rw [hK0]
  exact qz j' ⟨by omega,by omega⟩ (by omega) rfl
theorem qxS {w : World} : RdT Tryz.prog w 81 fun xs => ∃ n,xs = [.v (.int .u64 n)] ∧ 0 ≤ n ∧ n < 18446744073709551616 := ZE (qhO Tryz.underlying81 (by kernel_rfl)) fun xs ⟨n,h1,h2⟩ => ⟨n,h1,by
 simp [Lit.wf,IntKind.min,IntKind.max,IntKind.signed,IntKind.bits] at h2
 omega⟩
theorem qwF (d : Dy) (hd : DyT d) (r0 : Nat) (hr : r0 ≤ 255) (t0 : Nat) (ht : t0 ≤ 255) (idx : Nat) (hidx : idx < 18446744073709551616) (lg : Nat) (hlg : lg ≤ 255) (mo : Nat) (hmo : mo ≤ 255) :
 qC Tryz.prog 15 [DyV d,U (r0:Int),U (t0:Int),.v (.int .u64 (idx:Int)),U (lg:Int),U (mo:Int)] (B true):=by
 refine qT (qjr Tryz.func15 qwC (by kernel_rfl) (by show 6≤_;decide) ?_)
 unfold qwv
 have ed:[Bks d.rc,I d.bath,I d.laid,Pts d.pat,Shs d.sh]=dyC d:=rfl
 refine zV ?_
 simp -implicitDefEqProofs (disch:=omega)[qb,dyC]
 simp only [ed]
 refine zV ?_
 simp -implicitDefEqProofs (disch:=omega)[qb,qf,dyC]
 simp only [ed]
 refine qg (ys:=[DyV d]) (ids:=[]) rfl (qw7 d hd) ?_
 by_cases hv:qjT d=false∧Wh d=0
 case neg =>
  have e:(!qjT d&&decide (Wh d=0))=false:=by
   rw [Bool.and_eq_false_iff]
   cases h:qjT d with
   | true=>exact .inl rfl
   | false=>exact .inr (decide_eq_false fun h2=>hv ⟨h,h2⟩)
  rw [e]
  simp -implicitDefEqProofs (disch:=omega)[qb,AV.scalar]
  refine qg (ys:=[]) (ids:=[]) rfl qqz ?_
  simp -implicitDefEqProofs (disch:=omega)[qb,AV.scalar]
 obtain ⟨hg,hE⟩:=hv
 have e:(!qjT d&&decide (Wh d=0))=true:=by rw [hg,decide_eq_true hE];rfl
 rw [e]
 simp -implicitDefEqProofs (disch:=omega)[qb,AV.scalar]
 have dI:=hd.i hg
 have V:DayV d:=by
  unfold Wh at hE
  split at hE
  · rename_i h;exact jw.1 h
  · exact absurd hE (by decide)
 obtain ⟨a0,ha0⟩:∃ a0:Nat,a0=r0 % 26:=⟨_,rfl⟩
 have m0:(r0:Int).tmod 26=(a0:Int):=by rw [ha0];rfl
 have a0l:a0<26:=by omega
 obtain ⟨a1,ha1⟩:∃ a1:Nat,a1=97+a0:=⟨_,rfl⟩
 have m1:(97:Int)+(a0:Int)=(a1:Int):=by omega
 have w1:IntKind.u8.wrap (a1:Int)=(a1:Int):=qgP (by omega)
 have w0:IntKind.u8.wrap (a0:Int)=(a0:Int):=qgP (by omega)
 obtain ⟨q0,hq0⟩:∃ q0:Nat,q0=t0 % 128:=⟨_,rfl⟩
 have mq:(t0:Int).tmod 128=(q0:Int):=by rw [hq0];rfl
 obtain ⟨τ,hτ⟩:∃ k:Nat,k=1+q0:=⟨_,rfl⟩
 have mτ:(1:Int)+(q0:Int)=(τ:Int):=by omega
 have hτ2:1≤τ∧τ≤128:=by omega
 refine zV ?_
 simp -implicitDefEqProofs (disch:=omega)[qb,m0,m1,w0,w1,mq,mτ]
 refine qg (ys:=[U (a1:Int),I (τ:Int)]) (ids:=[]) rfl (qxr (a1:Int) (τ:Int)) ?_
 have e1:[U (a1:Int),I (-1),I (τ:Int)]=ptC ((a1:Int),-1,(τ:Int)):=rfl
 simp -implicitDefEqProofs (disch:=omega)[qb,AV.scalar,ptC]
 simp only [e1]
 have hp1:qI d.rc.length ((a1:Int),-1,1)=true:=by
  unfold qI VZ;simp;omega
 have rest:=@qw5 d hg dI V
 by_cases hc:0<d.rc.length∧r0<200
 case neg =>
  refine zV ?_
  by_cases hc0:0<d.rc.length
  · have g0 : (0 < (d.rc.length : Int)) = True := by simp only [eq_iff_iff,iff_true]; omega
    have g1:((r0:Int)<200)=False:=by simp only [eq_iff_iff,iff_false];omega
    simp -implicitDefEqProofs (disch:=omega)[qb,qf,dyC,g0,g1,hc0]
    exact rest hp1 τ hτ2 idx hidx lg hlg mo hmo _ _ _ (.inr rfl)
  · have g0 : (0 < (d.rc.length : Int)) = False := by simp only [eq_iff_iff,iff_false]; omega
    simp -implicitDefEqProofs (disch:=omega)[qb,qf,dyC,g0,hc0]
    exact rest hp1 τ hτ2 idx hidx lg hlg mo hmo _ _ _ (.inr rfl)
 obtain ⟨h0,h2⟩:=hc
 have g0:(0<(d.rc.length:Int))=True:=by simp only [eq_iff_iff,iff_true];omega
 have g1:((r0:Int)<200)=True:=by simp only [eq_iff_iff,iff_true];omega
 obtain ⟨R,hR⟩:∃ R:Nat,R=r0 % d.rc.length:=⟨_,rfl⟩
 have hRl:R<d.rc.length:=by rw [hR];exact Nat.mod_lt _ h0
 have mR:(r0:Int).tmod (d.rc.length:Int)=(R:Int):=by rw [hR];rfl
 have zR:((d.rc.length:Int)==0)=false:=by rw [beq_eq_false_iff_ne];omega
 have hl32:=V.rl
 have hp2:qI d.rc.length (0,(R:Int),1)=true:=by
  unfold qI
  rw [if_neg (by simp)]
  simp;omega
 refine zV ?_
 simp -implicitDefEqProofs (disch:=omega)[qb,qf,dyC,ptC,g0,g1,h0,mR,zR,zW,zJ,zE]
 refine qQ (ys:=[I (R:Int),I (τ:Int)]) (ids:=[]) rfl (Jv (R:Int) (τ:Int)) ?_
 simp -implicitDefEqProofs (disch:=omega)[qb,AV.scalar,ptC,zW,zJ,zE]
 exact rest hp2 τ hτ2 idx hidx lg hlg mo hmo _ _ .any (.inl rfl)
theorem qwK (d:Dy) (hd:DyT d) (n:Int) (hn:0≤n∧n≤255) (m:Int) (hm:0≤m∧m≤255) (q:Int) (hq:0≤q∧q<18446744073709551616) (u:Int) (hu:0≤u∧u≤255) (v:Int) (hv:0≤v∧v≤255):qC Tryz.prog 15 [DyV d,U n,U m,.v (.int .u64 q),U u,U v] (B true):=by
 have h:=qwF d hd n.toNat (by omega) m.toNat (by omega) q.toNat (by omega) u.toNat (by omega) v.toNat (by omega)
 have e1:((n.toNat:Nat):Int)=n:=by omega
 have e2:((m.toNat:Nat):Int)=m:=by omega
 have e3:((q.toNat:Nat):Int)=q:=by omega
 have e4:((u.toNat:Nat):Int)=u:=by omega
 have e5:((v.toNat:Nat):Int)=v:=by omega
 rw [e1,e2,e3,e4,e5] at h
 exact h
end Go.AM
