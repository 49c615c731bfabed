/-
  KxI1: texts joined: FmNR Ns16 Ns19 Ns23 Nt13 Ns24 Nt14 Ns25 FmNL Lk3 Lx6. Own work.
-/
import Derived.Test.YtopelhnmgjkneaaGreatDoorKn7
import Derived.Test.YtopelhnmgjkneaaGreatDoorProg
set_option linter.all false
set_option linter.unusedSimpArgs false
set_option linter.unusedVariables false
set_option linter.unusedSectionVars false

set_option maxRecDepth 100000
set_option maxHeartbeats 0
namespace Go.AM
open Go.RowKit Go.Proofs
def qwN:AC:=Subtype.val (p:=fun g=>qo Tryz.prog Tryz.f43 [6,7]=some g) (by refine ⟨?g,?h⟩;case h=>conv=>lhs;reduce)
theorem qwJ:qo Tryz.prog Tryz.f43 [6,7]=some qwN:=by kernel_rfl
def qwO:AC:=Subtype.val (p:=fun g=>qo Tryz.prog Tryz.f77 [4]=some g) (by refine ⟨?g,?h⟩;case h=>conv=>lhs;reduce)
theorem qwK:qo Tryz.prog Tryz.f77 [4]=some qwO:=by kernel_rfl
def qwB:AC:=Subtype.val (p:=fun g=>qo Tryz.prog Tryz.f86 [2]=some g) (by refine ⟨?g,?h⟩;case h=>conv=>lhs;reduce)
theorem qwC:qo Tryz.prog Tryz.f86 [2]=some qwB:=by kernel_rfl
def qwx:AC:=Subtype.val (p:=fun g=>qo Tryz.prog Tryz.f87 [10,11]=some g) (by refine ⟨?g,?h⟩;case h=>conv=>lhs;reduce)
theorem qwz:qo Tryz.prog Tryz.f87 [10,11]=some qwx:=by kernel_rfl
def qwP:AC:=Subtype.val (p:=fun g=>qo Tryz.prog Tryz.f129 [6]=some g) (by refine ⟨?g,?h⟩;case h=>conv=>lhs;reduce)
theorem qwL:qo Tryz.prog Tryz.f129 [6]=some qwP:=by kernel_rfl
theorem qxc {d:Dy} (h:Wg d=true):(Wh d != 0)=false:=by unfold Wh;rw [h];rfl
theorem qxd {d:Dy} (h:Wg d=false):(Wh d != 0)=true:=by unfold Wh;rw [h];rfl
theorem qwH (d:Dy) (hd:DyI d) (p:Pt):qC Tryz.prog 77 [DyV d,.agg (ptC p)] (I (Zb d p)):=by
 refine qT (walk Tryz.func77 qwK (by kernel_rfl) (by show 2≤_;decide) ?_)
 simp -implicitDefEqProofs (disch:=omega)[qwO,qb,dyC,ptC]
 refine qg (ys:=[DyV d]) (ids:=[]) rfl (qdl d hd) ?_
 simp -implicitDefEqProofs (disch:=omega)[qb,AV.scalar]
 cases hb:Wg d with
 | false =>
   have hE:Zb d p=2:=by unfold Zb;rw [hb];rfl
   rw [hE]
   simp -implicitDefEqProofs (disch:=omega)[qb,qxd hb]
 | true =>
   simp -implicitDefEqProofs (disch:=omega)[qb,qxc hb]
   refine qg (ys:=[I (d.rc.length:Int),.agg (ptC p)]) (ids:=[]) rfl (qaN _ _) ?_
   simp -implicitDefEqProofs (disch:=omega)[qb,AV.scalar]
   cases hp:qI d.rc.length p with
   | false =>
     have hE:Zb d p=3:=by unfold Zb;rw [hb,hp];rfl
     rw [hE]
     simp -implicitDefEqProofs (disch:=omega)[qb]
   | true =>
     have hE:Zb d p=0:=by unfold Zb;rw [hb,hp];rfl
     rw [hE]
     simp -implicitDefEqProofs (disch:=omega)[qb]
theorem qwM (s:List UInt8) (hs:s.length≤1000000):qC Tryz.prog 86 [S s] (B (qgg s)):=by
 refine qT (walk Tryz.func86 qwC (by kernel_rfl) (by show 1≤_;decide) ?_)
 simp -implicitDefEqProofs (disch:=omega)[qwB,qb]
 refine qO (fun i:Nat=>⟨[(0,S s),(3,I (i:Int))],[]⟩) (fun i=>i≤s.length∧(s.take i).all YN=true) (fun i=>s.length - i) 0 ⟨Nat.zero_le _,rfl⟩ rfl ?_
 rintro i ⟨c1,c2⟩
 refine qW fun K0 hK0=>?_
 simp -implicitDefEqProofs (disch:=omega)[qb]
 refine qP (fun hc=>?_) (fun hc=>?_)
 · have hi : i < s.length := by simpa using hc
   have ix:((i:Int)+1)=((i+1:Nat):Int):=by omega
   simp -implicitDefEqProofs (disch:=omega)[qb,hi]
   refine qg (ys:=[U (s[i].toNat:Int)]) (ids:=[]) rfl (qb7 _) ?_
   simp -implicitDefEqProofs (disch:=omega)[qb,AV.scalar,qcl]
   cases hb:YN s[i] with
   | false =>
     have:qgg s=false:=by
      unfold qgg
      have:s.all YN=false:=by rw [List.all_eq_false];exact ⟨_,List.getElem_mem hi,by rw [hb];decide⟩
      rw [this];rfl
     rw [hK0,this]
     simp -implicitDefEqProofs (disch:=omega)[qb]
   | true =>
     simp -implicitDefEqProofs (disch:=omega)[qb]
     rw [hK0]
     refine qz (i+1) ⟨by omega,?_⟩ (by omega) (by simp only [ix])
     rw [List.take_succ_eq_append_getElem hi,List.all_append,c2]
     simp [hb]
 · have hi : i = s.length := by simp at hc; omega
   subst hi
   subst hK0
   rw [List.take_length] at c2
   unfold qgg
   rw [c2]
   by_cases h1:1≤s.length
   · have h1' : ((1 : Int) ≤ s.length) = True := by simp only [eq_iff_iff,iff_true]; omega
     have h8:((s.length:Int)≤8)=(s.length≤8):=by simp only [eq_iff_iff];omega
     simp -implicitDefEqProofs (disch:=omega)[qb,h1',h1,h8]
   · have h1' : ((1 : Int) ≤ s.length) = False := by simp only [eq_iff_iff,iff_false]; omega
     simp -implicitDefEqProofs (disch:=omega)[qb,h1',h1]
theorem qw0 (w:List UInt8) (st:Nat) (act:Int) (hst:st≤w.length) (hw:w.length≤1000) (ha:0≤act∧act≤255):qC Tryz.prog 129 [S w,I (st:Int),U act] (I (qbb w st act:Int)):=by
 refine qT (walk Tryz.func129 qwL (by kernel_rfl) (by show 3≤_;decide) ?_)
 simp -implicitDefEqProofs (disch:=omega)[qwP,qb]
 refine zq (ys:=[U act]) (ids:=[]) rfl rfl ?_
 have hb:∀ K:AV→List (Nat × HObj)→Prop,qtl [] (.sl true 1 [U act]) K=K (S [UInt8.ofNat act.toNat]) []:=fun K=>qjp ha.1 ha.2
 have htl:(w.take st).length=st:=by rw [List.length_take];omega
 simp -implicitDefEqProofs (disch:=first | omega | (simp only [List.length_append,List.length_cons,List.length_nil];omega)) [qb,zP,hb]
 have hsl:(w.take st++[UInt8.ofNat act.toNat]).length=st+1:=by rw [List.length_append,htl];rfl
 have hE:qbb w st act=qet (w.take st++[UInt8.ofNat act.toNat]) w (min (st+1) w.length):=rfl
 generalize w.take st++[UInt8.ofNat act.toNat]=s at *
 have em:min ((st:Int)+1) (w.length:Int)=((min (st+1) w.length:Nat):Int):=by omega
 rw [em]
 refine qO (fun n:Nat=>⟨[(0,S w),(7,S s),(8,I (n:Int))],[]⟩) (fun n=>n≤st+1∧n≤w.length∧qbb w st act=qet s w n) (fun n=>n) (min (st+1) w.length) ⟨by omega,by omega,hE⟩ rfl ?_
 rintro n ⟨c1,c2,c3⟩
 refine qW fun K0 hK0=>?_
 simp -implicitDefEqProofs (disch:=omega)[qb]
 refine qP (fun hc=>?_) (fun hc=>?_)
 · obtain ⟨m,rfl⟩ : ∃ m,n = m + 1 := ⟨n - 1,by simp at hc; omega⟩
   have e1:((s.length:Int) - ((m+1:Nat):Int))=((s.length - (m+1):Nat):Int):=by omega
   have e2:(((m+1:Nat):Int) - 1)=(m:Int):=by omega
   simp -implicitDefEqProofs (disch:=omega)[qb,e1,e2]
   have et:((s.length:Int) - ((m:Int)+1)).toNat=s.length - (m+1):=by omega
   rw [et]
   have uf:qet s w (m+1)=if s.drop (s.length - (m+1))=w.take (m+1) then m+1 else qet s w m:=rfl
   by_cases h:s.drop (s.length - (m+1))=w.take (m+1)
   · have h' : (s.drop (s.length - (m + 1)) == w.take (m + 1)) = true := by rw [beq_iff_eq]; exact h
     rw [hK0,c3,uf,if_pos h]
     simp -implicitDefEqProofs (disch:=omega)[qb,h']
   · have h' : (s.drop (s.length - (m + 1)) == w.take (m + 1)) = false := by rw [beq_eq_false_iff_ne]; exact h
     simp -implicitDefEqProofs (disch:=omega)[qb,h']
     rw [hK0]
     refine qz m ⟨by omega,by omega,by rw [c3,uf,if_neg h]⟩ (Nat.lt_succ_self m) ?_
     have e3:(m:Int)+1 - 1=m:=by omega
     simp only [e3]
 · have hn : n = 0 := by simp at hc; omega
   subst hn
   rw [hK0,c3]
   simp -implicitDefEqProofs (disch:=omega)[qb,qet]
end Go.AM

namespace Go.AM
open Go.RowKit
def qwI (r:List Int):List AV:=[Ls false r]
theorem qwT (r:List Int):(qwI r).length=1:=rfl
abbrev qwt (f:Bool) (T:List (List Int)):AV := .sl f T.length (fl qwI T)
theorem qw8 {T:List (List Int)} {i:Nat} (h:i<T.length):YO (fl qwI T) i=some (Ls false T[i]):=by
 have:=Ja qwT h (j:=0) (by decide)
 simp only [Nat.mul_one,Nat.add_zero] at this
 rw [this];rfl
theorem qwU {T:List (List Int)}:(fl qwI T).length=T.length:=by rw [J9 qwT,Nat.mul_one]
theorem qw5 {T:List (List Int)} {r:Int} {s:Nat} (h:r.toNat<T.length) (h2:s<T[r.toNat].length):atT T r s=T[r.toNat][s]:=by
 unfold atT
 rw [List.getD_eq_getElem?_getD (l:=T),List.getElem?_eq_getElem h,Option.getD_some,List.getD_eq_getElem?_getD,List.getElem?_eq_getElem h2,Option.getD_some]
structure TbOK (w:List UInt8) (to found:List (List Int)) (n:Nat):Prop where
 tl:to.length=n
 fl:found.length=n
 tr:∀ i (h:i<to.length),to[i].length=9
 fr:∀ i (h:i<found.length),found[i].length=9
 tv:∀ i s,i<n→s≤w.length→0≤atT to (i:Int) s∧atT to (i:Int) s≤w.length
 fv:∀ i s,i<n→s≤w.length→0≤atT found (i:Int) s∧atT found (i:Int) s≤QM
theorem qwY {w:List UInt8} {to found:List (List Int)} {n:Nat} (h:TbOK w to found n) {p:Pt} (hp:qI n p=true) {x:Nat × Int} (hx:x.1≤w.length):(qqA w to found p x).1≤w.length∧x.2≤(qqA w to found p x).2∧(qqA w to found p x).2≤x.2+QM:=by
 have hm:QM=1099511627776:=rfl
 unfold qqA
 by_cases e:0≤p.2.1
 · rw [if_pos e]
   have hi:p.2.1.toNat<n:=by
    rcases zk hp with ⟨h,_⟩ | ⟨_,_,h⟩ <;> omega
   have a:=h.tv _ x.1 hi hx
   have b:=h.fv _ x.1 hi hx
   have e2:((p.2.1.toNat:Nat):Int)=p.2.1:=by omega
   rw [e2] at a b
   refine ⟨?_,?_,?_⟩ <;> simp only <;> omega
 · rw [if_neg e]
   have:=qcA w x.1 p.1
   refine ⟨this,?_,?_⟩ <;> simp only <;> split <;> omega
theorem qww {w : List UInt8} {to found : List (List Int)} {n : Nat} (h : TbOK w to found n) {p : Pt} (hp : qI n p = true) {x : Nat × Int} (hx : x.1 ≤ w.length) : ∀ k : Nat,(qiD w to found p k x).1 ≤ w.length ∧ x.2 ≤ (qiD w to found p k x).2 ∧ (qiD w to found p k x).2 ≤ x.2 + k * QM
 | 0=>⟨hx,Int.le_refl _,by simp [qiD]⟩
 | k+1=>by
   have ih:=qww h hp hx k
   have o:=qwY h hp ih.1
   have e:((k+1:Nat):Int)*QM=k*QM+QM:=by
    rw [show ((k+1:Nat):Int)=(k:Int)+1 by omega,Int.add_mul,Int.one_mul]
   refine ⟨o.1,?_,?_⟩
   · exact Int.le_trans ih.2.1 o.2.1
   · rw [e];show (qqA w to found p (qiD w to found p k x)).2≤_;omega
theorem qw3 {w:List UInt8} {to found:List (List Int)} {n:Nat} (h:TbOK w to found n) {st:Nat} (hs:st≤w.length) {l:List Pt} (hp:∀ p∈l,qI n p=true):∀ i,i≤l.length→(qqC w to found (l.take i) st).1≤w.length∧0≤(qqC w to found (l.take i) st).2∧(qqC w to found (l.take i) st).2≤(i:Int)*1099511627776000:=by
 intro i
 induction i with
 | zero=>intro _;exact ⟨hs,Int.le_refl _,Int.le_refl _⟩
 | succ i ih =>
   intro hi
   have ih:=ih (by omega)
   have hpi:=hp _ (List.getElem_mem (show i<l.length by omega))
   have m:=qww h hpi ih.1 l[i].2.2.toNat
   have t:=Qd hpi
   have b:(l[i].2.2.toNat:Int)*QM≤1099511627776000:=by
    have:(l[i].2.2.toNat:Int)≤1000:=by omega
    exact Int.le_trans (Int.mul_le_mul_of_nonneg_right this (by decide)) (by decide)
   rw [qne (by omega)]
   refine ⟨m.1,by omega,by omega⟩
end Go.AM

namespace Go.AM
open Go.RowKit Go.Proofs
theorem qwu (f g k : Bool) (to found : List (List Int)) (l : List Pt) (w : List UInt8) (st n : Nat) (h : TbOK w to found n) (hn : n ≤ 1000) (hst : st ≤ w.length) (hw : w.length ≤ 8) (hp : ∀ p ∈ l,qI n p = true) (hl : l.length ≤ 64) :
 qC Tryz.prog 87 [qwt f to,qwt g found,JG k l,S w,I (st:Int)] (.tup [I ((qqC w to found l st).1:Int),I (qqC w to found l st).2]):=by
 refine qT (walk Tryz.func87 qwz (by kernel_rfl) (by show 5≤_;decide) ?_)
 simp -implicitDefEqProofs (disch:=omega)[qwx,qb]
 refine qO (fun q:Nat × List HObj=>⟨[(0,qwt f to),(1,qwt g found),(2,JG k l),(3,S w),(4,I ((qqC w to found (l.take q.1) st).1:Int)),(12,I (qqC w to found (l.take q.1) st).2),(13,I (q.1:Int))],q.2⟩) (fun q=>q.1≤l.length) (fun q=>l.length - q.1) (0,[]) (Nat.zero_le _) rfl ?_
 rintro ⟨i,H⟩ c1
 simp only at c1 ⊢
 refine qW fun K0 hK0=>?_
 simp -implicitDefEqProofs (disch:=omega)[qb]
 have B:=qw3 h hst hp i c1
 refine qP (fun hc=>?_) (fun hc=>?_)
 · have hi : i < l.length := by simpa using hc
   have ix:((i:Int)+1)=((i+1:Nat):Int):=by omega
   have stp:=qne (w:=w) (to:=to) (found:=found) (st:=st) hi
   have hpi:=hp _ (List.getElem_mem hi)
   have tm:=Qd hpi
   have rc:=zk hpi
   simp -implicitDefEqProofs (disch:=omega)[qb,hi,ptC]
   generalize hx:qqC w to found (l.take i) st=x0 at *
   generalize hpp:l[i]=p at *
   have g0:=Qn (H:=H) (o:=HObj.cells [U p.1,I p.2.1,I p.2.2])
   generalize H++[HObj.cells [U p.1,I p.2.1,I p.2.2]]=H1 at *
   generalize H.length=L at *
   have M:=qww h hpi B.1
   refine qO (fun t:Nat=>⟨[(0,qwt f to),(1,qwt g found),(2,JG k l),(3,S w),(4,I ((qiD w to found p t x0).1:Int)),(12,I (qiD w to found p t x0).2),(13,I (i:Int)),(14,.ref L 0),(15,I (t:Int))],H1⟩) (fun t=>t≤p.2.2.toNat) (fun t=>p.2.2.toNat - t) 0 (Nat.zero_le _) rfl ?_
   intro t d1
   refine qW fun K1 hK1=>?_
   simp -implicitDefEqProofs (disch:=omega)[qb,g0,qf]
   have Mt:=M t
   have O:=qwY h hpi Mt.1
   have mt1:(t:Int)*QM≤1099511627776000:=by
    have:(t:Int)≤1000:=by omega
    exact Int.le_trans (Int.mul_le_mul_of_nonneg_right this (by decide)) (by decide)
   have bi:(i:Int)*1099511627776000≤64*1099511627776000:=Int.mul_le_mul_of_nonneg_right (by omega) (by decide)
   refine qP (fun hc2=>?_) (fun hc2=>?_)
   · have ht : t < p.2.2.toNat := by simp at hc2; omega
     have tx:((t:Int)+1)=((t+1:Nat):Int):=by omega
     have ms:qiD w to found p (t+1) x0=qqA w to found p (qiD w to found p t x0):=rfl
     generalize qiD w to found p t x0=x at *
     obtain ⟨s,m⟩:=x
     simp only at *
     by_cases h0:0≤p.2.1
     case pos =>
      have hr:p.2.1.toNat<n:=by
       rcases rc with ⟨h,_⟩ | ⟨_,_,h⟩ <;> omega
      have htl:=h.tl
      have hfl:=h.fl
      have r1:p.2.1.toNat<to.length:=by omega
      have r2:p.2.1.toNat<found.length:=by omega
      have q1:s<to[p.2.1.toNat].length:=by rw [h.tr _ r1];omega
      have q2:s<found[p.2.1.toNat].length:=by rw [h.fr _ r2];omega
      have r3:p.2.1<(to.length:Int):=by omega
      have r4:p.2.1<(found.length:Int):=by omega
      have a1:=qw5 r1 q1
      have a2:=qw5 r2 q2
      have ho:qqA w to found p (s,m)=((atT to p.2.1 s).toNat,m+atT found p.2.1 s):=if_pos h0
      simp -implicitDefEqProofs (disch:=omega)[qb,g0,qf,h0,r1,r2,r3,r4,q1,q2,qw8,JH]
      refine ⟨qwU,qwU,?_⟩
      have tv:=h.tv _ s hr Mt.1
      have fv:=h.fv _ s hr Mt.1
      have e2:((p.2.1.toNat:Nat):Int)=p.2.1:=by omega
      rw [e2] at tv fv
      have hmx:QM=1099511627776:=rfl
      rw [←a1,←a2,qb (by omega),hK1]
      refine qz (t+1) (by omega) (by omega) ?_
      have e3:(((atT to p.2.1 s).toNat:Nat):Int)=atT to p.2.1 s:=by omega
      simp only [tx,ms,ho,e3]
     case neg =>
      have ho:qqA w to found p (s,m)=(qbb w s p.1,if qbb w s p.1=w.length then m+1 else m):=if_neg h0
      simp -implicitDefEqProofs (disch:=omega)[qb,g0,qf,h0]
      have hact:VZ p.1=true:=by
       rcases rc with ⟨_,h⟩ | ⟨_,h1,_⟩
       · exact h
       · exact absurd h1 h0
      have ha:0≤p.1∧p.1≤255:=by unfold VZ at hact;simp only [Bool.and_eq_true,decide_eq_true_eq] at hact;omega
      refine qg (ys:=[S w,I (s:Int),U p.1]) (ids:=[]) rfl (qw0 w s p.1 Mt.1 (by omega) ha) ?_
      simp -implicitDefEqProofs (disch:=omega)[qb,AV.scalar]
      by_cases hE:qbb w s p.1=w.length
      case pos =>
       have hE':((qbb w s p.1:Int)==(w.length:Int))=true:=by rw [beq_iff_eq];omega
       have hmx:QM=1099511627776:=rfl
       simp -implicitDefEqProofs (disch:=omega)[qb,hE']
       rw [hK1]
       refine qz (t+1) (by omega) (by omega) ?_
       simp only [tx,ms,ho,if_pos hE]
      case neg =>
       have hE':((qbb w s p.1:Int)==(w.length:Int))=false:=by rw [beq_eq_false_iff_ne];omega
       simp -implicitDefEqProofs (disch:=omega)[qb,hE']
       rw [hK1]
       refine qz (t+1) (by omega) (by omega) ?_
       simp only [tx,ms,ho,if_neg hE]
   · have ht : t = p.2.2.toNat := by simp at hc2; omega
     subst ht
     subst hK1
     simp -implicitDefEqProofs (disch:=omega)[qb]
     rw [hK0]
     exact qz (i+1,H1) (by simp only;omega) (by simp only;omega) (by simp only [ix,stp])
 · have hi : i = l.length := by simp at hc; omega
   subst hi
   subst hK0
   rw [List.take_length]
   simp -implicitDefEqProofs (disch:=omega)[qb]
   exact ⟨[],rfl⟩
end Go.AM

namespace Go.AM
open Go.RowKit
structure TbL (w:List UInt8) (to found:List (List Int)) (long:List Int):Prop where
 ok:TbOK w to found long.length
 le:∀ i s,i<long.length→s≤w.length→atT found (i:Int) s≤long.getD i 0
theorem qw9 {w:List UInt8} {to found:List (List Int)} {long:List Int} (h:TbL w to found long) {p:Pt} (hp:qI long.length p=true) {x:Nat × Int} (hx:x.1≤w.length):(qqA w to found p x).2≤x.2+ja long p:=by
 unfold qqA ja
 by_cases e:0≤p.2.1
 · rw [if_pos e,if_pos e]
   have hi:p.2.1.toNat<long.length:=by
    rcases zk hp with ⟨h,_⟩ | ⟨_,_,h⟩ <;> omega
   have b:=h.le _ x.1 hi hx
   have e2:((p.2.1.toNat:Nat):Int)=p.2.1:=by omega
   rw [e2] at b
   simp only;omega
 · rw [if_neg e,if_neg e]
   simp only;split <;> omega
theorem qwR {w : List UInt8} {to found : List (List Int)} {long : List Int} (h : TbL w to found long) {p : Pt} (hp : qI long.length p = true) {x : Nat × Int} (hx : x.1 ≤ w.length) : ∀ k : Nat,(qiD w to found p k x).2 ≤ x.2 + ja long p * k
 | 0=>by simp [qiD]
 | k+1=>by
   have ih:=qwR h hp hx k
   have o:=qw9 h hp (qww h.ok hp hx k).1
   have e:ja long p*((k+1:Nat):Int)=ja long p*k+ja long p:=by
    rw [show ((k+1:Nat):Int)=(k:Int)+1 by omega,Int.mul_add,Int.mul_one]
   rw [e]
   show (qqA w to found p (qiD w to found p k x)).2≤_
   omega
theorem qxa {w:List UInt8} {to found:List (List Int)} {long:List Int} (h:TbL w to found long) {p:Pt} (hp:qI long.length p=true):0≤ja long p:=by
 unfold ja
 split
 · rename_i e
   have hi:p.2.1.toNat<long.length:=by
    rcases zk hp with ⟨h,_⟩ | ⟨_,_,h⟩ <;> omega
   exact Int.le_trans (h.ok.fv _ 0 hi (Nat.zero_le _)).1 (h.le _ 0 hi (Nat.zero_le _))
 · decide
theorem qxb {w:List UInt8} {to found:List (List Int)} {long:List Int} (h:TbL w to found long) {st:Nat} (hs:st≤w.length) {l:List Pt} (hp:∀ p∈l,qI long.length p=true):∀ i,i≤l.length→min JS (qqC w to found (l.take i) st).2≤QZ long (l.take i):=by
 have hfar:JS=1125899906842624:=rfl
 intro i
 induction i with
 | zero=>intro _;show min JS 0≤0;omega
 | succ i ih =>
   intro hi
   have ih:=ih (by omega)
   have hlt:i<l.length:=by omega
   have hpi:=hp _ (List.getElem_mem hlt)
   have t:=qw3 h.ok hs hp i (by omega)
   have m:=qwR h hpi t.1 l[i].2.2.toNat
   have tm:=Qd hpi
   have e:((l[i].2.2.toNat:Nat):Int)=l[i].2.2:=by omega
   rw [e] at m
   have o0:0≤ja long l[i]*l[i].2.2:=Int.mul_nonneg (qxa h hpi) (by omega)
   rw [qne hlt,show QZ long (l.take (i+1))=jU long (QZ long (l.take i)) l[i] from zI hlt]
   unfold jU
   omega
theorem qwD {w to found l}:(qvx w to found l).length=9:=by simp [qvx]
theorem qwE {w to found l}:(qvy w to found l).length=9:=by simp [qvy]
theorem qwX {α:Type} {l:List α} {a:α} {i:Nat} (h:i<(l++[a]).length) {P:α→Prop} (h1:∀ i (h:i<l.length),P l[i]) (h2:P a):P (l++[a])[i]:=by
 rcases qjP h with ⟨h',e1,_⟩ | ⟨_,e1,_⟩
 · rw [e1];exact h1 i h'
 · rw [e1];exact h2
theorem qw6 {w:List UInt8} (hw:w.length≤8) {l:List Bk} (hR:RecV l) (hm:∀ x∈qu l,x≤QM):∀ i,i≤l.length→TbL w (qik w (l.take i)).1 (qik w (l.take i)).2 (qu (l.take i)):=by
 intro i
 induction i with
 | zero =>
   intro _
   exact ⟨⟨rfl,rfl,fun i h=>by simp [qik] at h,fun i h=>by simp [qik] at h,fun i s h=>by simp [qu] at h,fun i s h=>by simp [qu] at h⟩,fun i s h=>by simp [qu] at h⟩
 | succ i ih =>
   intro hi
   have ih:=ih (by omega)
   have hlt:i<l.length:=by omega
   have hll:(qu (l.take i)).length=i:=by rw [zy,List.length_take];omega
   have hpv:∀ p∈l[i].2,qI (qu (l.take i)).length p=true:=by rw [hll];exact hR.1 i hlt
   have htm:QZ (qu (l.take i)) l[i].2≤QM:=by
    obtain ⟨r,hr⟩:=jz (l:=l) (i+1)
    rw [QL hlt] at hr
    exact hm _ (by rw [hr];simp)
   have hmx:QM=1099511627776:=rfl
   have hfar:JS=1125899906842624:=rfl
   rw [qil hlt,QL hlt]
   unfold qp1
   generalize qik w (l.take i)=T at *
   obtain ⟨to,found⟩:=T
   simp only at ih ⊢
   have tl:=ih.ok.tl
   have fl:=ih.ok.fl
   generalize hP:l[i].2=ps at *
   have thr : ∀ s,s ≤ w.length → (qqC w to found ps s).1 ≤ w.length ∧ 0 ≤ (qqC w to found ps s).2 ∧ (qqC w to found ps s).2 ≤ QZ (qu (l.take i)) ps := fun s hs => by
    have a:=qw3 ih.ok hs hpv ps.length (Nat.le_refl _)
    have b:=qxb ih hs hpv ps.length (Nat.le_refl _)
    rw [List.take_length] at a b
    exact ⟨a.1,a.2.1,by omega⟩
   have ra:∀ s,s≤w.length→(qvx w to found ps).getD s 0=((qqC w to found ps s).1:Int):=fun s hs=>by unfold qvx;rw [qkD (by omega),if_pos hs]
   have rb:∀ s,s≤w.length→(qvy w to found ps).getD s 0=(qqC w to found ps s).2:=fun s hs=>by unfold qvy;rw [qkD (by omega),if_pos hs]
   refine ⟨⟨by simp;omega,by simp;omega,fun j hj=>qwX (P:=fun r=>r.length=9) hj ih.ok.tr qwD,fun j hj=>qwX (P:=fun r=>r.length=9) hj ih.ok.fr qwE,fun j s hj hs=>?_,fun j s hj hs=>?_⟩,fun j s hj hs=>?_⟩
   · rw [qnt]
     by_cases h:j<to.length
     · rw [if_pos h];exact ih.ok.tv j s (by omega) hs
     · rw [if_neg h,if_pos (by simp at hj; omega),ra s hs]
       have:=thr s hs;omega
   · rw [qnt]
     by_cases h:j<found.length
     · rw [if_pos h];exact ih.ok.fv j s (by omega) hs
     · rw [if_neg h,if_pos (by simp at hj; omega),rb s hs]
       have:=thr s hs;omega
   · rw [qnt,VF]
     by_cases h:j<found.length
     · rw [if_pos h,if_pos (by omega)];exact ih.le j s (by omega) hs
     · have e : j = found.length := by simp at hj; omega
       rw [if_neg h,if_pos e,if_neg (by omega),rb s hs,show j - (qu (l.take i)).length=0 by omega]
       exact (thr s hs).2.2
end Go.AM

namespace Go.AM
open Go.RowKit Go.Proofs
def qwy (f:Nat→Int) (s:Nat):List AV:=(List.range 9).map fun t=>I (if t<s then f t else 0)
theorem qwF {f s}:(qwy f s).length=9:=by simp [qwy]
theorem qw1 {f s}:((qwy f s).all AV.isPC)=true:=by
 rw [List.all_eq_true];intro x hx
 obtain ⟨t,_,rfl⟩:=List.mem_map.1 hx
 rfl
theorem qw4 {f:Nat→Int} {s:Nat} (h:s<9):(qwy f s).set s (I (f s))=qwy f (s+1):=by
 refine List.ext_getElem (by simp [qwy]) fun i h1 h2=>?_
 simp only [qwy,List.getElem_set,List.getElem_map,List.getElem_range]
 by_cases e:s=i
 · subst e;simp
 · rw [if_neg e]
   by_cases hi:i<s
   · rw [if_pos hi,if_pos (by omega)]
   · rw [if_neg hi,if_neg (by omega)]
theorem qwS {f:Nat→Int} {s:Nat} (h:s<9):(qwy f s).take s++I (f s)::(qwy f s).drop (s+1)=qwy f (s+1):=by
 rw [←qw4 h,List.set_eq_take_append_cons_drop,if_pos (by rw [qwF];exact h)]
theorem qw2 {f:Nat→Int}:qwy f 0=zP 9 [I 0]:=rfl
theorem qwZ (d:Dy) (hd:DyI d) (p:Pt) (w:List UInt8) (hw:w.length≤1000000):qC Tryz.prog 43 [DyV d,.agg (ptC p),S w] (.tup [I (qfT d p w),I (qbc d p w)]):=by
 refine qT (walk Tryz.func43 qwJ (by kernel_rfl) (by show 3≤_;decide) ?_)
 simp -implicitDefEqProofs (disch:=omega)[qwN,qb,dyC,ptC]
 refine qg (ys:=[DyV d,.agg (ptC p)]) (ids:=[]) rfl (qwH d hd p) ?_
 simp -implicitDefEqProofs (disch:=omega)[qb,AV.scalar]
 by_cases hE:Zb d p=0
 case neg =>
  have hE':(Zb d p != 0)=true:=by rw [bne_iff_ne];exact hE
  have hm:qbc d p w=Zb d p:=if_neg hE
  have hl:qfT d p w=0:=if_neg (by rw [hm];exact hE)
  rw [hm,hl]
  simp -implicitDefEqProofs (disch:=omega)[qb,hE']
  refine qg (ys:=[DyV d,.agg (ptC p)]) (ids:=[]) rfl (qwH d hd p) ?_
  simp -implicitDefEqProofs (disch:=omega)[qb,AV.scalar]
  exact ⟨[],rfl⟩
 have hE':(Zb d p != 0)=false:=by rw [hE];rfl
 simp -implicitDefEqProofs (disch:=omega)[qb,hE']
 refine qg (ys:=[S w]) (ids:=[]) rfl (qwM w hw) ?_
 simp -implicitDefEqProofs (disch:=omega)[qb,AV.scalar]
 cases ha:qgg w with
 | false =>
   have hm:qbc d p w=8:=by unfold qbc;rw [if_pos hE,ha];rfl
   have hl:qfT d p w=0:=if_neg (by rw [hm];decide)
   rw [hm,hl]
   simp -implicitDefEqProofs (disch:=omega)[qb]
   exact ⟨[],rfl⟩
 | true =>
 have hm:qbc d p w=0:=by unfold qbc;rw [if_pos hE,ha];rfl
 have hr:qfT d p w=(qqC w (qik w d.rc).1 (qik w d.rc).2 [p] 0).2:=if_pos hm
 have hw8:w.length≤8:=by unfold qgg at ha;simp only [Bool.and_eq_true,decide_eq_true_eq] at ha;exact ha.2.2
 obtain ⟨hb,hp⟩:=VL.1 hE
 have V:=jw.1 hb
 have hrl:=V.rl
 have hTB:=qw6 hw8 V.recV V.rm
 rw [hm,hr]
 simp -implicitDefEqProofs (disch:=omega)[qb]
 refine qO (fun q:Nat × AV × AV × List HObj=>⟨[(2,S w),(3,.ref 0 0),(4,.ref 1 0),(8,q.2.1),(9,q.2.2.1),(10,I (q.1:Int))],q.2.2.2⟩) (fun q=>q.1≤d.rc.length∧AccG q.2.2.2 q.2.1 1 q.1 (fl qwI (qik w (d.rc.take q.1)).1)∧AccG q.2.2.2 q.2.2.1 1 q.1 (fl qwI (qik w (d.rc.take q.1)).2)∧qr q.2.2.2 0=some (.cells (dyC d))∧qr q.2.2.2 1=some (.cells (ptC p))∧(∀ j,rid q.2.1=some j→2≤j)∧(∀ j,rid q.2.2.1=some j→2≤j∧rid q.2.1≠some j)) (fun q=>d.rc.length - q.1) (0,.sl true 0 [],.sl true 0 [],[.cells (dyC d),.cells (ptC p)]) ⟨Nat.zero_le _,.nil,.nil,rfl,rfl,by simp [rid],by simp [rid]⟩ rfl ?_
 rintro ⟨i,x8,x9,H⟩ ⟨c1,c8,c9,z0,z1,r8,r9⟩
 simp only at c1 c8 c9 z0 z1 r8 r9 ⊢
 refine qW fun K0 hK0=>?_
 have hll:(qu (d.rc.take i)).length=i:=by rw [zy,List.length_take];omega
 have TB:=hTB i c1
 have tl:=TB.ok.tl
 have tf:=TB.ok.fl
 rw [hll] at tl tf
 simp -implicitDefEqProofs (disch:=omega)[qb,z0,qf,dyC]
 refine qP (fun hc=>?_) (fun hc=>?_)
 · have hi : i < d.rc.length := by simpa using hc
   have ix:((i:Int)+1)=((i+1:Nat):Int):=by omega
   have stp:=qil (w:=w) hi
   have hpv:∀ p∈d.rc[i].2,qI (qu (d.rc.take i)).length p=true:=by rw [hll];exact V.recV.1 i hi
   have hbl:=(Q6 (V.rb i hi)).2.2.1
   simp -implicitDefEqProofs (disch:=omega)[qb,hi]
   refine ⟨9,rfl,rfl,by decide,by decide,rfl,?_⟩
   simp -implicitDefEqProofs (disch:=omega)[qb]
   refine ⟨9,rfl,rfl,by decide,by decide,rfl,?_⟩
   simp -implicitDefEqProofs (disch:=omega)[qb,zW,zJ,zE]
   generalize hT:qik w (d.rc.take i)=T at *
   obtain ⟨to,found⟩:=T
   simp only at c8 c9 tl tf TB stp
   generalize hps:d.rc[i].2=ps at *
   have thr:=fun f g (s:Nat) (hs:s≤w.length)=>qwu f g false to found ps w s _ TB.ok (by omega) hs hw8 hpv (by omega)
   have fA0:∀ s,s≤w.length→True:=fun _ _=>trivial
   have z00:=qj z0
   have z11:=qj z1
   have hzz:(H++[HObj.cells (zP 9 [I 0])]).length=H.length+1:=by simp
   refine qO (fun s:Nat=>⟨[(2,S w),(3,.ref 0 0),(4,.ref 1 0),(8,x8),(9,x9),(10,I (i:Int)),(11,.ms H.length 0 9 1),(12,.ms (H.length+1) 0 9 1),(13,I (s:Int))],H++[.cells (qwy (fun s=>((qqC w to found ps s).1:Int)) s),.cells (qwy (fun s=>(qqC w to found ps s).2) s)]⟩) (fun s=>s≤w.length+1) (fun s=>w.length+1 - s) 0 (Nat.zero_le _) (by simp [qw2]) ?_
   intro s d1
   refine qW fun K1 hK1=>?_
   have y0:qr (H++[.cells (qwy (fun s=>((qqC w to found ps s).1:Int)) s),.cells (qwy (fun s=>(qqC w to found ps s).2) s)]) 0=some (.cells (dyC d)):=(qk z00).trans z0
   have c8':=c8.mono (H:=H++[.cells (qwy (fun s=>((qqC w to found ps s).1:Int)) s),.cells (qwy (fun s=>(qqC w to found ps s).2) s)]) fun j hj=>qk (c8.lt hj)
   have c9':=c9.mono (H:=H++[.cells (qwy (fun s=>((qqC w to found ps s).1:Int)) s),.cells (qwy (fun s=>(qqC w to found ps s).2) s)]) fun j hj=>qk (c9.lt hj)
   obtain ⟨id8,pu8,_⟩:=c8'.pur
   obtain ⟨id9,pu9,_⟩:=c9'.pur
   simp -implicitDefEqProofs (disch:=omega)[qb]
   refine qP (fun hc2=>?_) (fun hc2=>?_)
   · have hs : s ≤ w.length := by simp at hc2; omega
     have sx:((s:Int)+1)=((s+1:Nat):Int):=by omega
     have e8:AV.sl (decide (i=0)) i (fl qwI to)=qwt (decide (i=0)) to:=by show _=AV.sl _ to.length _;rw [tl]
     have e9:AV.sl (decide (i=0)) i (fl qwI found)=qwt (decide (i=0)) found:=by show _=AV.sl _ found.length _;rw [tf]
     rw [e8] at pu8
     rw [e9] at pu9
     simp -implicitDefEqProofs (disch:=omega)[qb,y0,qf,dyC,hi,hps]
     refine qg (ys:=[qwt (decide (i=0)) to,qwt (decide (i=0)) found,Pts ps,S w,I (s:Int)]) (ids:=id8++(id9++[])) (by simp only [qE,pu8,pu9];rfl) (thr _ _ s hs) ?_
     simp -implicitDefEqProofs (disch:=omega)[qb,AV.scalar]
     refine ⟨by omega,?_⟩
     rw [V1,qt]
     simp -implicitDefEqProofs (disch:=omega)[qb,qwF,jY]
     have k1:=qwS (f:=fun s=>((qqC w to found ps s).1:Int)) (s:=s) (by omega)
     have k2:=qwS (f:=fun s=>(qqC w to found ps s).2) (s:=s) (by omega)
     rw [k1]
     refine ⟨by omega,by omega,?_⟩
     rw [WL,qt]
     simp -implicitDefEqProofs (disch:=omega)[qb,qwF,jZ]
     rw [k2]
     refine ⟨by omega,?_⟩
     rw [hK1]
     exact qz (s+1) (by omega) (by omega) (by simp only [sx])
   · have hs : s = w.length + 1 := by simp at hc2; omega
     subst hs
     subst hK1
     simp -implicitDefEqProofs (disch:=omega)[qb]
     have hA : qwy (fun s => ((qqC w to found ps s).1 : Int)) (w.length + 1) = (qvx w to found ps).map fun n => I n := by
      unfold qwy qvx;rw [List.map_map]
      refine List.map_congr_left fun t _=>?_
      simp only [Function.comp,Nat.lt_succ_iff]
     have hB : qwy (fun s => (qqC w to found ps s).2) (w.length + 1) = (qvy w to found ps).map fun n => I n := by
      unfold qwy qvy;rw [List.map_map]
      refine List.map_congr_left fun t _=>?_
      simp only [Function.comp,Nat.lt_succ_iff]
     have eA:AV.sl false 9 ((qvx w to found ps).map fun n=>I n)=Ls false (qvx w to found ps):=by show _=AV.sl _ (qvx w to found ps).length _;rw [qwD]
     have eB:AV.sl false 9 ((qvy w to found ps).map fun n=>I n)=Ls false (qvy w to found ps):=by show _=AV.sl _ (qvy w to found ps).length _;rw [qwE]
     clear c8' c9' pu8 pu9 y0
     rw [hA,hB]
     have pA:=qgt (n:=9) (sz:=1) (V1 (H:=H) (a := .cells ((qvx w to found ps).map fun n=>I n)) (b := .cells ((qvy w to found ps).map fun n=>I n))) (by rw [List.length_map,qwD]) (by rw [←hA];exact qw1)
     rw [eA] at pA
     refine zq (ys:=[Ls false (qvx w to found ps)]) (ids:=[H.length]++[]) (by simp only [qE,pA]) rfl ?_
     simp -implicitDefEqProofs (disch:=omega)[qb,zP,jY,zB]
     have q8:AccG (H++[HObj.gone,HObj.cells ((qvy w to found ps).map fun n=>I n)]) x8 1 i (fl qwI to):=c8.mono fun j hj=>qk (c8.lt hj)
     have q9:AccG (H++[HObj.gone,HObj.cells ((qvy w to found ps).map fun n=>I n)]) x9 1 i (fl qwI found):=c9.mono fun j hj=>qk (c9.lt hj)
     have q0:qr (H++[HObj.gone,HObj.cells ((qvy w to found ps).map fun n=>I n)]) 0=some (.cells (dyC d)):=(qk z00).trans z0
     have q1:qr (H++[HObj.gone,HObj.cells ((qvy w to found ps).map fun n=>I n)]) 1=some (.cells (ptC p)):=(qk z11).trans z1
     have qB:qr (H++[HObj.gone,HObj.cells ((qvy w to found ps).map fun n=>I n)]) (H.length+1)=some (.cells ((qvy w to found ps).map fun n=>I n)):=WL
     have qL:(H++[HObj.gone,HObj.cells ((qvy w to found ps).map fun n=>I n)]).length=H.length+2:=by simp
     have n8:∀ j,rid x8=some j→j<H.length:=fun j hj=>c8.lt hj
     have n9:∀ j,rid x9=some j→j<H.length:=fun j hj=>c9.lt hj
     generalize H++[HObj.gone,HObj.cells ((qvy w to found ps).map fun n=>I n)]=G1 at *
     refine Q5 (ys:=qwI (qvx w to found ps)) q8 (by omega) (by decide) rfl rfl fun ws w1 w2 w3=>?_
     have t9:=q9.mono (H:=qH G1 ws) fun j hj=>w1 j (by have:=n9 j hj;omega) fun e=>(r9 j hj).2 e
     have t0:=(w1 0 (by omega) (fun e=>by have:=r8 0 e;omega)).trans q0
     have t1:=(w1 1 (by omega) (fun e=>by have:=r8 1 e;omega)).trans q1
     have tB:=(w1 (H.length+1) (by omega) (fun e=>by have:=n8 _ e;omega)).trans qB
     have pB:=qgt (n:=9) (sz:=1) tB (by rw [List.length_map,qwE]) (by rw [←hB];exact qw1)
     rw [eB] at pB
     simp -implicitDefEqProofs (disch:=omega)[qb]
     generalize hG2:qH G1 ws=G2 at *
     refine zq (ys:=[Ls false (qvy w to found ps)]) (ids:=[H.length+1]++[]) (by simp only [qE,pB]) rfl ?_
     have lB:=qj tB
     simp -implicitDefEqProofs (disch:=omega)[qb,zP,zB,lB]
     have u8:AccG (G2.set (H.length+1) HObj.gone) (.ms G1.length 0 (i+1) 1) 1 (i+1) (fl qwI to++qwI (qvx w to found ps)):=w3.mono fun j hj=>qh (by simp only [rid] at hj;injection hj;omega)
     have u9:AccG (G2.set (H.length+1) HObj.gone) x9 1 i (fl qwI found):=t9.mono fun j hj=>qh (by have:=n9 j hj;omega)
     have u0:qr (G2.set (H.length+1) HObj.gone) 0=some (.cells (dyC d)):=(qh (by omega)).trans t0
     have u1:qr (G2.set (H.length+1) HObj.gone) 1=some (.cells (ptC p)):=(qh (by omega)).trans t1
     have uL:(G2.set (H.length+1) HObj.gone).length=G2.length:=by simp
     generalize G2.set (H.length+1) HObj.gone=G3 at *
     refine Q5 (ys:=qwI (qvy w to found ps)) u9 (by omega) (by decide) rfl rfl fun vs v1 v2 v3=>?_
     simp -implicitDefEqProofs (disch:=omega)[qb]
     rw [hK0]
     refine qz (i+1,.ms G1.length 0 (i+1) 1,.ms G3.length 0 (i+1) 1,qH G3 vs) ⟨by simp only;omega,?_,?_,(v1 0 (by omega) (fun e=>by have:=(r9 0 e).1;omega)).trans u0,(v1 1 (by omega) (fun e=>by have:=(r9 1 e).1;omega)).trans u1,fun j hj=>?_,fun j hj=>?_⟩ (by simp only;omega) (by simp only [ix])
     · have e : (qik w (d.rc.take (i + 1))).1 = to ++ [qvx w to found ps] := by rw [stp]; unfold qp1; rw [hps]
       simp only [e,jr]
       exact u8.mono fun j hj=>v1 j (by simp only [rid] at hj;injection hj;omega) fun h=>by have:=n9 j h;simp only [rid] at hj;injection hj;omega
     · have e : (qik w (d.rc.take (i + 1))).2 = found ++ [qvy w to found ps] := by rw [stp]; unfold qp1; rw [hps]
       simp only [e,jr]
       exact v3
     · simp only [rid] at hj;injection hj;omega
     · simp only [rid] at hj; injection hj
       refine ⟨by omega,fun e=>?_⟩
       simp only [rid] at e;injection e;omega
 · have hi : i = d.rc.length := by simp at hc; omega
   subst hi
   subst hK0
   rw [List.take_length] at *
   obtain ⟨id8,pu8,_⟩:=c8.pur
   obtain ⟨id9,pu9,_⟩:=c9.pur
   have hp1:∀ q∈[p],qI (qu d.rc).length q=true:=fun q hq=>by rw [List.mem_singleton] at hq;rw [hq,zy];exact hp
   generalize qik w d.rc=T at *
   obtain ⟨to,found⟩:=T
   simp only at c8 c9 tl tf TB pu8 pu9
   have e8:AV.sl (decide (d.rc.length=0)) d.rc.length (fl qwI to)=qwt (decide (d.rc.length=0)) to:=by show _=AV.sl _ to.length _;rw [tl]
   have e9:AV.sl (decide (d.rc.length=0)) d.rc.length (fl qwI found)=qwt (decide (d.rc.length=0)) found:=by show _=AV.sl _ found.length _;rw [tf]
   rw [e8] at pu8
   rw [e9] at pu9
   have thr:=qwu (decide (d.rc.length=0)) (decide (d.rc.length=0)) true to found [p] w 0 _ TB.ok (by omega) (Nat.zero_le _) hw8 hp1 (by simp)
   simp -implicitDefEqProofs (disch:=omega)[qb,z1,qf,ptC]
   refine zq (ys:=[.agg (ptC p)]) (ids:=[]) rfl rfl ?_
   simp -implicitDefEqProofs (disch:=omega)[qb,zP,ptC]
   refine qg (ys:=[qwt (decide (d.rc.length=0)) to,qwt (decide (d.rc.length=0)) found,JG true [p],S w,I ((0:Nat):Int)]) (ids:=id8++(id9++[])) (by simp only [qE,pu8,pu9];rfl) thr ?_
   simp -implicitDefEqProofs (disch:=omega)[qb,AV.scalar]
   exact ⟨[],rfl⟩
end Go.AM

set_option maxRecDepth 100000
namespace Go.AM
open Go.RowKit Go.Proofs
def qws:AC:=Subtype.val (p:=fun g=>qo Tryz.prog Tryz.f7 [6]=some g) (by refine ⟨?g,?h⟩;case h=>conv=>lhs;reduce)
theorem qwv:qo Tryz.prog Tryz.f7 [6]=some qws:=by kernel_rfl
def qwq:AC:=Subtype.val (p:=fun g=>qo Tryz.prog Tryz.f30 [2]=some g) (by refine ⟨?g,?h⟩;case h=>conv=>lhs;reduce)
theorem qwG:qo Tryz.prog Tryz.f30 [2]=some qwq:=by kernel_rfl
theorem qwQ {α:Type} {f:α→Bool} {l:List α} {i:Nat} (h:i<l.length) (hn:(l.take i).any f=false) (hf:f l[i]=false):(l.take (i+1)).any f=false:=by
 rw [List.take_succ_eq_append_getElem h,List.any_append,hn];simp [hf]
theorem qwW {α:Type} {f:α→Bool} {l:List α} {i:Nat} (h:i<l.length) (hf:f l[i]=true):l.any f=true:=List.any_eq_true.2 ⟨_,List.getElem_mem h,hf⟩
theorem qxf {n:Nat} {k:Int} (h:k<n):(k<(n:Int))=True:=by simp only [eq_iff_iff,iff_true];exact h
theorem qxe {n:Nat} {k:Int} (h:¬ k<n):(k<(n:Int))=False:=by simp only [eq_iff_iff,iff_false];exact h
def qwr:AC:=match qwq with
 | .seq _ (.seq _ (.seq _ t))=>t
 | x=>x
theorem qw7 {d : Dy} (hs : d.sh.length ≤ 60) {H : List HObj} (h0 : qr H 0 = some (.cells (dyC d))) (fr : List (Nat × AV)) :
 AWP Tryz.prog (E1 Tryz.prog) qwr ⟨(1,.ref 0 0)::fr,H⟩ (qfB [2] (Out (B (d.sh.any qvt)))):=by
 simp -implicitDefEqProofs (disch:=omega)[qwr,qwq,qb]
 refine qO (fun q:Nat × List HObj=>⟨[(1,.ref 0 0),(4,I (q.1:Int))],q.2⟩) (fun q=>q.1≤d.sh.length∧(d.sh.take q.1).any qvt=false∧q.2=H) (fun q=>d.sh.length - q.1) (0,H) ⟨Nat.zero_le _,rfl,rfl⟩ rfl ?_
 rintro ⟨i,H2⟩ ⟨c1,c2,rfl⟩
 simp only at c1 c2 ⊢
 refine qW fun K0 hK0=>?_
 simp -implicitDefEqProofs (disch:=omega)[qb,h0,qf,dyC]
 refine qP (fun hc=>?_) (fun hc=>?_)
 · have hi : i < d.sh.length := by simpa using hc
   have ix:((i:Int)+1)=((i+1:Nat):Int):=by omega
   by_cases hb:70<d.sh[i].pat.length
   · have hb' : (70 < (d.sh[i].pat.length : Int)) = True := by simp only [eq_iff_iff,iff_true]; omega
     have:=qwW (f:=qvt) hi (decide_eq_true hb)
     rw [hK0]
     simp -implicitDefEqProofs (disch:=omega)[qb,hi,h0,qf,dyC,hb',this]
   · have hb' : (70 < (d.sh[i].pat.length : Int)) = False := by simp only [eq_iff_iff,iff_false]; omega
     simp -implicitDefEqProofs (disch:=omega)[qb,hi,h0,qf,dyC,hb']
     rw [hK0]
     exact qz (i+1,H2) ⟨by simp only;omega,qwQ hi c2 (decide_eq_false hb),rfl⟩ (by simp only;omega) (by simp only [ix])
 · have hi : i = d.sh.length := by simp at hc; omega
   subst hi
   rw [List.take_length] at c2
   rw [hK0]
   simp -implicitDefEqProofs (disch:=omega)[qb,c2]
theorem qwV (d:Dy):qC Tryz.prog 30 [DyV d] (B (qjT d)):=by
 refine qT (walk Tryz.func30 qwG (by kernel_rfl) (by show 1≤_;decide) ?_)
 simp -implicitDefEqProofs (disch:=omega)[qwq,qb,dyC]
 unfold qjT
 by_cases q1:40<d.rc.length
 case pos =>
  have e1:=qxf (n:=d.rc.length) (k:=40) (by omega)
  simp -implicitDefEqProofs (disch:=omega)[qb,e1,q1]
 have e1:=qxe (n:=d.rc.length) (k:=40) (by omega)
 simp -implicitDefEqProofs (disch:=omega)[qb,e1,q1]
 by_cases q2:70<d.pat.length
 case pos =>
  have e2:=qxf (n:=d.pat.length) (k:=70) (by omega)
  simp -implicitDefEqProofs (disch:=omega)[qb,e2,q2]
 have e2:=qxe (n:=d.pat.length) (k:=70) (by omega)
 simp -implicitDefEqProofs (disch:=omega)[qb,e2,q2]
 by_cases q3:60<d.sh.length
 case pos =>
  have e3:=qxf (n:=d.sh.length) (k:=60) (by omega)
  simp -implicitDefEqProofs (disch:=omega)[qb,e3,q3]
 have e3:=qxe (n:=d.sh.length) (k:=60) (by omega)
 simp -implicitDefEqProofs (disch:=omega)[qb,e3,q3]
 refine qO (fun q:Nat × List HObj=>⟨[(1,.ref 0 0),(3,I (q.1:Int))],q.2⟩) (fun q=>q.1≤d.rc.length∧(d.rc.take q.1).any qvs=false∧q.2=[.cells (dyC d)]) (fun q=>d.rc.length - q.1) (0,[.cells (dyC d)]) ⟨Nat.zero_le _,rfl,rfl⟩ rfl ?_
 rintro ⟨i,H2⟩ ⟨c1,c2,rfl⟩
 simp only at c1 c2 ⊢
 refine qW fun K0 hK0=>?_
 simp -implicitDefEqProofs (disch:=omega)[qb,qf,dyC]
 refine qP (fun hc=>?_) (fun hc=>?_)
 · have hi : i < d.rc.length := by simpa using hc
   have ix:((i:Int)+1)=((i+1:Nat):Int):=by omega
   by_cases hb:20<d.rc[i].2.length
   · have hb' : (20 < (d.rc[i].2.length : Int)) = True := by simp only [eq_iff_iff,iff_true]; omega
     have:=qwW (f:=qvs) hi (by unfold qvs;simp [hb])
     rw [hK0]
     simp -implicitDefEqProofs (disch:=omega)[qb,hi,qf,dyC,hb',this]
   have hb':(20<(d.rc[i].2.length:Int))=False:=by simp only [eq_iff_iff,iff_false];omega
   by_cases hc2:100<d.rc[i].1.length
   · have hc' : (100 < (d.rc[i].1.length : Int)) = True := by simp only [eq_iff_iff,iff_true]; omega
     have:=qwW (f:=qvs) hi (by unfold qvs;simp [hc2])
     rw [hK0]
     simp -implicitDefEqProofs (disch:=omega)[qb,hi,qf,dyC,hb',hc',this]
   have hc':(100<(d.rc[i].1.length:Int))=False:=by simp only [eq_iff_iff,iff_false];omega
   simp -implicitDefEqProofs (disch:=omega)[qb,hi,qf,dyC,hb',hc']
   rw [hK0]
   refine qz (i+1,[.cells (dyC d)]) ⟨by simp only;omega,qwQ hi c2 (by unfold qvs;simp [hb,hc2]),rfl⟩ (by simp only;omega) (by simp only [ix,dyC])
 · have hi : i = d.rc.length := by simp at hc; omega
   subst hi
   rw [List.take_length] at c2
   rw [hK0]
   have t:=qw7 (d:=d) (by omega) (H:=[.cells (dyC d)]) rfl [(3,I (d.rc.length:Int))]
   simp -implicitDefEqProofs (disch:=omega)[qwr,qwq,qb,dyC,c2] at t ⊢
   exact t
theorem qwA (d:Dy) (hd:DyT d) (p:Pt) (hp:0≤p.1∧p.1≤255) (s:List UInt8):qC Tryz.prog 7 [DyV d,.agg (ptC p),S s] (B true):=by
 refine qT (qjr Tryz.func7 qwv (by kernel_rfl) (by show 3≤_;decide) ?_)
 unfold qws
 have ed:[Bks d.rc,I d.bath,I d.laid,Pts d.pat,Shs d.sh]=dyC d:=rfl
 have ep:[U p.1,I p.2.1,I p.2.2]=ptC p:=rfl
 refine zV ?_
 simp -implicitDefEqProofs (disch:=omega)[qb,dyC,ptC]
 simp only [ed,ep]
 refine zV ?_
 simp -implicitDefEqProofs (disch:=omega)[qb,qf,dyC]
 simp only [ed]
 refine qg (ys:=[DyV d]) (ids:=[]) rfl (qwV d) ?_
 simp -implicitDefEqProofs (disch:=omega)[qb,AV.scalar]
 cases hg:qjT d with
 | true =>
   simp -implicitDefEqProofs (disch:=omega)[qb,AV.scalar]
   refine qg (ys:=[]) (ids:=[]) rfl qqz ?_
   simp -implicitDefEqProofs (disch:=omega)[qb,AV.scalar]
 | false =>
 have dI:=hd.i hg
 by_cases h12:12<s.length
 case pos =>
  have e1:(12<(s.length:Int))=True:=by simp only [eq_iff_iff,iff_true];omega
  simp -implicitDefEqProofs (disch:=omega)[qb,e1]
  refine qg (ys:=[]) (ids:=[]) rfl qqz ?_
  simp -implicitDefEqProofs (disch:=omega)[qb,AV.scalar]
 have e1:(12<(s.length:Int))=False:=by simp only [eq_iff_iff,iff_false];omega
 have fin:∀ x:List (Nat × AV),AWS Tryz.prog (.seq (.rgn [⟨none,[(.ld 45 true 5 (.t 3)),(.ld 46 true 3 (.t 4)),(.mv 47 (.t 2)),(.call 48 42 [(.t 45),(.t 46),(.t 47)]),(.mv 44 (.t 48)),(.ext 49 (.t 44) 0),(.ext 50 (.t 44) 1),(.mv 8 (.t 49)),(.mv 9 (.t 50))]⟩] [2,3,4,8,9]) (.seq (.rgn [⟨none,[(.ld 52 true 5 (.t 3)),(.ld 53 true 3 (.t 4)),(.mv 54 (.t 2)),(.call 55 43 [(.t 52),(.t 53),(.t 54)]),(.mv 51 (.t 55)),(.ext 56 (.t 51) 0),(.ext 57 (.t 51) 1),(.mv 10 (.t 56)),(.mv 11 (.t 57))]⟩] [8,9,10,11]) (.seq (.rgn [⟨none,[(.mv 58 (.t 8)),(.mv 59 (.t 10)),(.bin 60 .eql (.t 58) (.t 59)),(.mv 61 (.t 60))]⟩,⟨(some (61,true)),[(.mv 62 (.t 9)),(.mv 63 (.t 11)),(.bin 64 .eql (.t 62) (.t 63))]⟩,⟨none,[(.pick 65 (.t 61) (.t 64) (.k (B false))),(.mv 66 (.t 65))]⟩,⟨(some (66,true)),[(.call 67 18 [])]⟩,⟨none,[(.pick 68 (.t 66) (.t 67) (.k (B false))),(.mv 6 (.t 68))]⟩] [6]) .ret))) ⟨(2,S s)::(3,.ref 0 0)::(4,.ref 1 0)::x,[.cells (dyC d),.cells (ptC p)]⟩ (qfB [6] (Out (B true))):=by
  intro x
  refine zV ?_
  simp -implicitDefEqProofs (disch:=omega)[qb,qf,dyC,ptC]
  simp only [ed,ep]
  refine qg (ys:=[DyV d,.agg (ptC p),S s]) (ids:=[]) rfl (qjX d dI p hp s (by omega)) ?_
  simp -implicitDefEqProofs (disch:=omega)[qb,AV.scalar]
  refine zV ?_
  simp -implicitDefEqProofs (disch:=omega)[qb,qf,dyC,ptC]
  simp only [ed,ep]
  refine qg (ys:=[DyV d,.agg (ptC p),S s]) (ids:=[]) rfl (qwZ d dI p s (by omega)) ?_
  simp -implicitDefEqProofs (disch:=omega)[qb,AV.scalar]
  refine zV ?_
  simp -implicitDefEqProofs (disch:=omega)[qb]
  refine qg (ys:=[]) (ids:=[]) rfl qqz ?_
  simp -implicitDefEqProofs (disch:=omega)[qb,AV.scalar]
  refine qnu ?_
  simp -implicitDefEqProofs (disch:=omega)[qb]
 simp -implicitDefEqProofs (disch:=omega)[qb,e1]
 refine zV ?_
 simp -implicitDefEqProofs (disch:=omega)[qb,qf,dyC]
 simp only [ed]
 refine qg (ys:=[DyV d]) (ids:=[]) rfl (qdl d dI) ?_
 by_cases hE:Wh d=0
 case neg =>
  have e2:(Wh d==0)=false:=by rw [beq_eq_false_iff_ne];exact hE
  simp -implicitDefEqProofs (disch:=omega)[qb,AV.scalar,e2]
  exact fin _
 have e2:(Wh d==0)=true:=by rw [beq_iff_eq];exact hE
 simp -implicitDefEqProofs (disch:=omega)[qb,AV.scalar,e2,qf,dyC]
 by_cases h10:10<d.rc.length
 case pos =>
  have e3:(10<(d.rc.length:Int))=True:=by simp only [eq_iff_iff,iff_true];omega
  simp -implicitDefEqProofs (disch:=omega)[qb,e3]
  refine qg (ys:=[]) (ids:=[]) rfl qqz ?_
  simp -implicitDefEqProofs (disch:=omega)[qb,AV.scalar]
 have e3:(10<(d.rc.length:Int))=False:=by simp only [eq_iff_iff,iff_false];omega
 simp -implicitDefEqProofs (disch:=omega)[qb,e3]
 simp only [ed]
 refine qW fun K9 hK9=>?_
 refine qO (fun i:Nat=>⟨[(2,S s),(3,.ref 0 0),(4,.ref 1 0),(7,I (i:Int))],[.cells (dyC d),.cells (ptC p)]⟩) (fun i=>i≤d.rc.length) (fun i=>d.rc.length - i) 0 (Nat.zero_le _) rfl ?_
 intro i c1
 refine qW fun K0 hK0=>?_
 simp -implicitDefEqProofs (disch:=omega)[qb,qf,dyC]
 refine qP (fun hc=>?_) (fun hc=>?_)
 · have hi : i < d.rc.length := by simpa using hc
   have ix:((i:Int)+1)=((i+1:Nat):Int):=by omega
   by_cases hb:4<d.rc[i].2.length
   · have hb' : (4 < (d.rc[i].2.length : Int)) = True := by simp only [eq_iff_iff,iff_true]; omega
     simp -implicitDefEqProofs (disch:=omega)[qb,hi,qf,dyC,hb']
     refine qg (ys:=[]) (ids:=[]) rfl qqz ?_
     rw [hK0,hK9]
     simp -implicitDefEqProofs (disch:=omega)[qb,AV.scalar]
   · have hb' : (4 < (d.rc[i].2.length : Int)) = False := by simp only [eq_iff_iff,iff_false]; omega
     simp -implicitDefEqProofs (disch:=omega)[qb,hi,qf,dyC,hb']
     rw [hK0]
     exact qz (i+1) (by omega) (by omega) (by simp only [ix,dyC])
 · have hi : i = d.rc.length := by simp at hc; omega
   subst hi
   subst hK0
   simp -implicitDefEqProofs (disch:=omega)[qb]
   subst hK9
   simp only [ed]
   exact fin _
end Go.AM
