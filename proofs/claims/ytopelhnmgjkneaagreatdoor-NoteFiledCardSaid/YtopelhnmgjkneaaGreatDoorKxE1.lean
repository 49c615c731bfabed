/-
  KxE1: texts joined: FmNL Lk3 Lx5 Nt26 Lx14 Lx15. Own work.
-/
import Derived.Test.YtopelhnmgjkneaaGreatDoorKn7
import Derived.Test.YtopelhnmgjkneaaGreatDoorProg
set_option linter.all false
set_option linter.unusedSimpArgs false
set_option linter.unusedVariables false
set_option linter.unusedSectionVars false

set_option maxRecDepth 100000
set_option maxHeartbeats 0
namespace Go.AM
open Go.RowKit Go.Proofs
def qwt:AC:=Subtype.val (p:=fun g=>qo Tryz.prog Tryz.f13 [8]=some g) (by refine ⟨?g,?h⟩;case h=>conv=>lhs;reduce)
theorem qwv:qo Tryz.prog Tryz.f13 [8]=some qwt:=by kernel_rfl
def qwr:AC:=Subtype.val (p:=fun g=>qo Tryz.prog Tryz.f30 [2]=some g) (by refine ⟨?g,?h⟩;case h=>conv=>lhs;reduce)
theorem qwz:qo Tryz.prog Tryz.f30 [2]=some qwr:=by kernel_rfl
theorem qwB {α:Type} {f:α→Bool} {l:List α} {i:Nat} (h:i<l.length) (hn:(l.take i).any f=false) (hf:f l[i]=false):(l.take (i+1)).any f=false:=by
 rw [List.take_succ_eq_append_getElem h,List.any_append,hn];simp [hf]
theorem qwD {α:Type} {f:α→Bool} {l:List α} {i:Nat} (h:i<l.length) (hf:f l[i]=true):l.any f=true:=List.any_eq_true.2 ⟨_,List.getElem_mem h,hf⟩
theorem qwV {n:Nat} {k:Int} (h:k<n):(k<(n:Int))=True:=by simp only [eq_iff_iff,iff_true];exact h
theorem qwU {n:Nat} {k:Int} (h:¬ k<n):(k<(n:Int))=False:=by simp only [eq_iff_iff,iff_false];exact h
def qws:AC:=match qwr with
 | .seq _ (.seq _ (.seq _ t))=>t
 | x=>x
theorem qwN {d : Dy} (hs : d.sh.length ≤ 60) {H : List HObj} (h0 : qr H 0 = some (.cells (dyC d))) (fr : List (Nat × AV)) :
 AWP Tryz.prog (E1 Tryz.prog) qws ⟨(1,.ref 0 0)::fr,H⟩ (qfB [2] (Out (B (d.sh.any qvt)))):=by
 simp -implicitDefEqProofs (disch:=omega)[qws,qwr,qb]
 refine qO (fun q:Nat × List HObj=>⟨[(1,.ref 0 0),(4,I (q.1:Int))],q.2⟩) (fun q=>q.1≤d.sh.length∧(d.sh.take q.1).any qvt=false∧q.2=H) (fun q=>d.sh.length - q.1) (0,H) ⟨Nat.zero_le _,rfl,rfl⟩ rfl ?_
 rintro ⟨i,H2⟩ ⟨c1,c2,rfl⟩
 simp only at c1 c2 ⊢
 refine qW fun K0 hK0=>?_
 simp -implicitDefEqProofs (disch:=omega)[qb,h0,qf,dyC]
 refine qP (fun hc=>?_) (fun hc=>?_)
 · have hi : i < d.sh.length := by simpa using hc
   have ix:((i:Int)+1)=((i+1:Nat):Int):=by omega
   by_cases hb:70<d.sh[i].pat.length
   · have hb' : (70 < (d.sh[i].pat.length : Int)) = True := by simp only [eq_iff_iff,iff_true]; omega
     have:=qwD (f:=qvt) hi (decide_eq_true hb)
     rw [hK0]
     simp -implicitDefEqProofs (disch:=omega)[qb,hi,h0,qf,dyC,hb',this]
   · have hb' : (70 < (d.sh[i].pat.length : Int)) = False := by simp only [eq_iff_iff,iff_false]; omega
     simp -implicitDefEqProofs (disch:=omega)[qb,hi,h0,qf,dyC,hb']
     rw [hK0]
     exact qz (i+1,H2) ⟨by simp only;omega,qwB hi c2 (decide_eq_false hb),rfl⟩ (by simp only;omega) (by simp only [ix])
 · have hi : i = d.sh.length := by simp at hc; omega
   subst hi
   rw [List.take_length] at c2
   rw [hK0]
   simp -implicitDefEqProofs (disch:=omega)[qb,c2]
theorem qwC (d:Dy):qC Tryz.prog 30 [DyV d] (B (qjT d)):=by
 refine qT (walk Tryz.func30 qwz (by kernel_rfl) (by show 1≤_;decide) ?_)
 simp -implicitDefEqProofs (disch:=omega)[qwr,qb,dyC]
 unfold qjT
 by_cases q1:40<d.rc.length
 case pos =>
  have e1:=qwV (n:=d.rc.length) (k:=40) (by omega)
  simp -implicitDefEqProofs (disch:=omega)[qb,e1,q1]
 have e1:=qwU (n:=d.rc.length) (k:=40) (by omega)
 simp -implicitDefEqProofs (disch:=omega)[qb,e1,q1]
 by_cases q2:70<d.pat.length
 case pos =>
  have e2:=qwV (n:=d.pat.length) (k:=70) (by omega)
  simp -implicitDefEqProofs (disch:=omega)[qb,e2,q2]
 have e2:=qwU (n:=d.pat.length) (k:=70) (by omega)
 simp -implicitDefEqProofs (disch:=omega)[qb,e2,q2]
 by_cases q3:60<d.sh.length
 case pos =>
  have e3:=qwV (n:=d.sh.length) (k:=60) (by omega)
  simp -implicitDefEqProofs (disch:=omega)[qb,e3,q3]
 have e3:=qwU (n:=d.sh.length) (k:=60) (by omega)
 simp -implicitDefEqProofs (disch:=omega)[qb,e3,q3]
 refine qO (fun q:Nat × List HObj=>⟨[(1,.ref 0 0),(3,I (q.1:Int))],q.2⟩) (fun q=>q.1≤d.rc.length∧(d.rc.take q.1).any qvs=false∧q.2=[.cells (dyC d)]) (fun q=>d.rc.length - q.1) (0,[.cells (dyC d)]) ⟨Nat.zero_le _,rfl,rfl⟩ rfl ?_
 rintro ⟨i,H2⟩ ⟨c1,c2,rfl⟩
 simp only at c1 c2 ⊢
 refine qW fun K0 hK0=>?_
 simp -implicitDefEqProofs (disch:=omega)[qb,qf,dyC]
 refine qP (fun hc=>?_) (fun hc=>?_)
 · have hi : i < d.rc.length := by simpa using hc
   have ix:((i:Int)+1)=((i+1:Nat):Int):=by omega
   by_cases hb:20<d.rc[i].2.length
   · have hb' : (20 < (d.rc[i].2.length : Int)) = True := by simp only [eq_iff_iff,iff_true]; omega
     have:=qwD (f:=qvs) hi (by unfold qvs;simp [hb])
     rw [hK0]
     simp -implicitDefEqProofs (disch:=omega)[qb,hi,qf,dyC,hb',this]
   have hb':(20<(d.rc[i].2.length:Int))=False:=by simp only [eq_iff_iff,iff_false];omega
   by_cases hc2:100<d.rc[i].1.length
   · have hc' : (100 < (d.rc[i].1.length : Int)) = True := by simp only [eq_iff_iff,iff_true]; omega
     have:=qwD (f:=qvs) hi (by unfold qvs;simp [hc2])
     rw [hK0]
     simp -implicitDefEqProofs (disch:=omega)[qb,hi,qf,dyC,hb',hc',this]
   have hc':(100<(d.rc[i].1.length:Int))=False:=by simp only [eq_iff_iff,iff_false];omega
   simp -implicitDefEqProofs (disch:=omega)[qb,hi,qf,dyC,hb',hc']
   rw [hK0]
   refine qz (i+1,[.cells (dyC d)]) ⟨by simp only;omega,qwB hi c2 (by unfold qvs;simp [hb,hc2]),rfl⟩ (by simp only;omega) (by simp only [ix,dyC])
 · have hi : i = d.rc.length := by simp at hc; omega
   subst hi
   rw [List.take_length] at c2
   rw [hK0]
   have t:=qwN (d:=d) (by omega) (H:=[.cells (dyC d)]) rfl [(3,I (d.rc.length:Int))]
   simp -implicitDefEqProofs (disch:=omega)[qws,qwr,qb,dyC,c2] at t ⊢
   exact t
theorem qwQ (b:List UInt8):DyI (qoi b):=by
 unfold qoi
 split
 · rename_i h
   unfold qie at h
   split at h
   · exact absurd h (by decide)
   split at h
   · exact absurd h (by decide)
   unfold qfw at h
   split at h
   · exact absurd h (by decide)
   split at h
   · rename_i h2
     have h3:=h2.1
     unfold W9 at h3
     split at h3
     · rename_i hd
       exact (jw.1 hd).w.i
     · exact absurd h3 (by decide)
   · exact absurd h (by decide)
 · exact day0_V.w.i
def RdX {α:Type} (rd:List UInt8→Nat→Bool→α × Nat × Bool) (X:List UInt8) (v:α):Prop:=∀ pre post:List UInt8,rd (pre++X++post) pre.length false=(v,pre.length+X.length,false)
theorem RdX.fst {α:Type} {rd:List UInt8→Nat→Bool→α × Nat × Bool} {X:List UInt8} {v:α} (h:RdX rd X v) (pre Y post:List UInt8):rd (pre++(X++Y)++post) pre.length false=(v,pre.length+X.length,false):=by
 have:=h pre (Y++post)
 simpa only [List.append_assoc] using this
theorem RdX.snd {α:Type} {rd:List UInt8→Nat→Bool→α × Nat × Bool} {X Y:List UInt8} {v:α} (h:RdX rd Y v) (pre post:List UInt8):rd (pre++(X++Y)++post) (pre.length+X.length) false=(v,pre.length+(X++Y).length,false):=by
 have:=h (pre++X) post
 simp only [List.append_assoc,List.length_append] at this ⊢
 rw [this,Nat.add_assoc]
theorem qwJ:∀ (k m j:Nat) (n:Int) (pre post:List UInt8),m≤k→j+(ZJ m).length≤7→qdc (pre++ZJ m++post) pre.length n ((128 ^ j:Nat):Int)=(n+((128 ^ j:Nat):Int)*m,pre.length+(ZJ m).length,decide (1099511627776<n+((128 ^ j:Nat):Int)*m)):=by
 intro k
 induction k with
 | zero =>
   intro m j n pre post hm hj
   have:m=0:=by omega
   subst this
   rw [qdj (by decide)] at hj ⊢
   have hp:¬ (4398046511104:Int)<((128 ^ j:Nat):Int):=by
    have:(128:Nat) ^ j≤128 ^ 6:=Nat.pow_le_pow_right (by decide) (by simp at hj;omega)
    have e:(128:Nat) ^ 6=4398046511104:=by decide
    omega
   have hlt:pre.length<(pre++[UInt8.ofNat 0]++post).length:=by simp
   have hb:(pre++[UInt8.ofNat 0]++post)[pre.length]=UInt8.ofNat 0:=by simp
   unfold qdc
   rw [dif_pos hlt,if_neg hp,hb]
   simp
 | succ k ih =>
   intro m j n pre post hm hj
   have hl:=zD (n:=0) (by decide)
   have hp:¬ (4398046511104:Int)<((128 ^ j:Nat):Int):=by
    have hl1:1≤(ZJ m).length:=by
     by_cases h:m<128
     · rw [qdj h];simp
     · rw [qfa h];simp
    have:(128:Nat) ^ j≤128 ^ 6:=Nat.pow_le_pow_right (by decide) (by omega)
    have e:(128:Nat) ^ 6=4398046511104:=by decide
    omega
   by_cases h:m<128
   · rw [qdj h]
     have hlt:pre.length<(pre++[UInt8.ofNat m]++post).length:=by simp
     have hb:(pre++[UInt8.ofNat m]++post)[pre.length]=UInt8.ofNat m:=by simp
     have hu:((UInt8.ofNat m).toNat:Int)=m:=qnR (by omega)
     have hmod:(m:Int) % 128=m:=by omega
     unfold qdc
     rw [dif_pos hlt,if_neg hp,hb,hu,if_pos (by omega),hmod]
     simp
   · rw [qfa h] at hj ⊢
     have hlt:pre.length<(pre++(UInt8.ofNat (128+m % 128)::ZJ (m / 128))++post).length:=by simp
     have hb:(pre++(UInt8.ofNat (128+m % 128)::ZJ (m / 128))++post)[pre.length]=UInt8.ofNat (128+m % 128):=by simp
     have hu:((UInt8.ofNat (128+m % 128)).toNat:Int)=((128+m % 128:Nat):Int):=qnR (by omega)
     have hmod:((128+m % 128:Nat):Int) % 128=((m % 128:Nat):Int):=by omega
     have IH:=ih (m / 128) (j+1) (n+((128 ^ j:Nat):Int)*((m % 128:Nat):Int)) (pre++[UInt8.ofNat (128+m % 128)]) post (by omega) (by simp at hj;omega)
     have e2:(((128 ^ (j+1):Nat)):Int)=((128 ^ j:Nat):Int)*128:=by rw [Nat.pow_succ,Int.natCast_mul];rfl
     have e3:n+((128 ^ j:Nat):Int)*((m % 128:Nat):Int)+((128 ^ j:Nat):Int)*128*((m / 128:Nat):Int)=n+((128 ^ j:Nat):Int)*(m:Int):=by
      have:(m:Int)=((m % 128:Nat):Int)+128*((m / 128:Nat):Int):=by omega
      conv=>rhs;rw [this,Int.mul_add]
      rw [Int.mul_assoc,Int.add_assoc]
     rw [e2,e3] at IH
     have e4:pre++[UInt8.ofNat (128+m % 128)]++ZJ (m / 128)++post=pre++(UInt8.ofNat (128+m % 128)::ZJ (m / 128))++post:=by simp
     have e5:(pre++[UInt8.ofNat (128+m % 128)]).length=pre.length+1:=by simp
     rw [e4,e5] at IH
     conv=>lhs;unfold qdc
     rw [dif_pos hlt,if_neg hp,hb,hu,if_neg (by omega),hmod,IH]
     simp only [List.length_cons]
     rw [show pre.length+1+(ZJ (m / 128)).length=pre.length+((ZJ (m / 128)).length+1) by omega]
theorem qwK {n:Nat} (h:n≤1099511627776):(ZJ n).length≤6:=by
 have e:128 ^ (5+1)=4398046511104:=by decide
 exact (qmY 5 n (by omega)).2
theorem qwu {n:Nat} (h:n≤1099511627776):RdX Qp (ZJ n) (n:Int):=by
 intro pre post
 have:=qwJ n n 0 0 pre post (Nat.le_refl _) (by have:=qwK h;omega)
 unfold Qp
 rw [if_neg (by decide)]
 rw [show ((128 ^ 0:Nat):Int)=1 by decide] at this
 rw [this]
 simp;omega
def PtF (p:Pt):Prop:=(97≤p.1∧p.1≤122∧p.2.1 = -1∨0≤p.2.1∧p.1=0∧p.2.1≤1000000)∧0≤p.2.2∧p.2.2≤1000000
theorem qwE {n:Nat} (hn:n≤1000000) {p:Pt} (h:qI n p=true):PtF p:=by
 have h1:=Qd h
 refine ⟨?_,by omega,by omega⟩
 rcases zk h with ⟨e,ha⟩ | ⟨e,h2,h3⟩
 · left
   unfold VZ at ha
   simp only [Bool.and_eq_true,decide_eq_true_eq] at ha
   omega
 · right;omega
theorem qwW {p:Pt} (h:PtF p):RdX ptF (ZJ (W8 p)++ZJ p.2.2.toNat) p:=by
 obtain ⟨a,r,t⟩:=p
 obtain ⟨h1,h2⟩:=h
 simp only at h1 h2
 have hc:W8 (a,r,t)≤1099511627776:=by unfold W8;simp only;split <;> omega
 intro pre post
 have k1:=(qwu hc).fst pre (ZJ t.toNat) post
 have k2:=(qwu (n:=t.toNat) (by omega)).snd (X:=ZJ (W8 (a,r,t))) pre post
 unfold ptF
 simp only [k1,k2]
 have et:((t.toNat:Nat):Int)=t:=by omega
 rw [et]
 rcases h1 with ⟨b1,b2,rfl⟩ | ⟨b1,rfl,b2⟩
 · have e : W8 (a,-1,t) = (a - 97).toNat := by unfold W8; rw [if_neg (by simp)]
   rw [e,if_neg (by omega)]
   have:97+(((a - 97).toNat:Nat):Int) % 26=a:=by omega
   rw [this]
 · have e : W8 (0,r,t) = 26 + r.toNat := by unfold W8; rw [if_pos b1]
   rw [e,if_pos (by omega)]
   have:((26+r.toNat:Nat):Int) - 26=r:=by omega
   rw [this]
theorem qwR {α : Type} {rd : List UInt8 → Nat → Bool → α × Nat × Bool} {enc : α → List UInt8} : ∀ (l : List α),(∀ a ∈ l,RdX rd (enc a) a) → ∀ pre post : List UInt8,itF (rd (pre ++ l.flatMap enc ++ post)) l.length pre.length false = (l,pre.length + (l.flatMap enc).length,false)
 | [],_,pre,post=>by simp [itF]
 | a::l,h,pre,post=>by
   have h1:=(h a (by simp)).fst pre (l.flatMap enc) post
   have h2:=qwR l (fun x hx=>h x (by simp [hx])) (pre++enc a) post
   rw [List.flatMap_cons,List.length_cons,qj8,h1]
   simp only [List.append_assoc,List.length_append] at h2 ⊢
   rw [h2]
   simp only [Nat.add_assoc]
theorem qwA {α : Type} {rd : List UInt8 → Nat → Bool → α × Nat × Bool} {enc : α → List UInt8} (l : List α) (h : ∀ a ∈ l,RdX rd (enc a) a) (hl : l.length ≤ 1000000) (pre post : List UInt8) :
 itF (rd (pre++(ZJ l.length++l.flatMap enc)++post)) (Qp (pre++(ZJ l.length++l.flatMap enc)++post) pre.length false).1.toNat (Qp (pre++(ZJ l.length++l.flatMap enc)++post) pre.length false).2.1 (Qp (pre++(ZJ l.length++l.flatMap enc)++post) pre.length false).2.2=(l,pre.length+(ZJ l.length++l.flatMap enc).length,false):=by
 have k:=(qwu (n:=l.length) (by omega)).fst pre (l.flatMap enc) post
 rw [k]
 have k2:=qwR l h (pre++ZJ l.length) post
 simp only [List.append_assoc,List.length_append] at k2 ⊢
 simp only [Int.toNat_natCast]
 rw [k2,Nat.add_assoc]
theorem qwy {l:List Pt} (h:∀ p∈l,PtF p) (hl:l.length≤1000000):RdX Yd (qbp l) l:=fun pre post=>qwA (rd:=ptF) (enc:=fun p=>ZJ (W8 p)++ZJ p.2.2.toNat) l (fun p hp=>qwW (h p hp)) hl pre post
theorem qwO {s:List UInt8} (h:s.length≤1000):RdX Vg (ZJ s.length++s) s:=by
 intro pre post
 have k:=(qwu (n:=s.length) (by omega)).fst pre s post
 unfold Vg
 simp only [k]
 rw [if_neg (by simp;omega)]
 simp only [Int.toNat_natCast,List.length_append,Prod.mk.injEq,and_true]
 refine ⟨?_,by omega⟩
 have e:pre++(ZJ s.length++s)++post=(pre++ZJ s.length)++(s++post):=by simp
 rw [e,List.drop_left' (by simp),List.take_left' rfl]
theorem qwT {x:Bk} (h:∀ p∈x.2,PtF p) (hl:x.2.length≤1000000) (hn:x.1.length≤1000):RdX bkF (qhk x) x:=by
 intro pre post
 have e:qhk x=(ZJ x.1.length++x.1)++qbp x.2:=rfl
 have k1:=(qwO hn).fst pre (qbp x.2) post
 have k2:=(qwy h hl).snd (X:=ZJ x.1.length++x.1) pre post
 rw [e]
 unfold bkF
 simp only [k1,k2]
def ShF (s:Sht):Prop:=(0≤s.num∧s.num≤1099511627776)∧(0≤s.bath∧s.bath≤1099511627776)∧(0≤s.age∧s.age≤1099511627776)∧(∀ p∈s.pat,PtF p)∧s.pat.length≤1000000
theorem qwS {s:Sht} (h:ShF s):RdX qqB (qij s) s:=by
 obtain ⟨h1,h2,h3,h4,h5⟩:=h
 intro pre post
 have e:qij s=ZJ s.num.toNat++(ZJ s.bath.toNat++(ZJ s.age.toNat++qbp s.pat)):=by unfold qij;simp
 have e1:=(qwu (n:=s.num.toNat) (by omega)).fst pre (ZJ s.bath.toNat++(ZJ s.age.toNat++qbp s.pat)) post
 have e2:=(qwu (n:=s.bath.toNat) (by omega)).fst (pre++ZJ s.num.toNat) (ZJ s.age.toNat++qbp s.pat) post
 have e3:=(qwu (n:=s.age.toNat) (by omega)).fst (pre++ZJ s.num.toNat++ZJ s.bath.toNat) (qbp s.pat) post
 have e4:=(qwy h4 h5) (pre++ZJ s.num.toNat++ZJ s.bath.toNat++ZJ s.age.toNat) post
 rw [e]
 unfold qqB
 simp only [List.append_assoc,List.length_append] at e1 e2 e3 e4 ⊢
 simp only [e1,Nat.add_assoc] at e2 e3 e4 ⊢
 simp only [e2] at e3 e4 ⊢
 simp only [e3,e4]
 have a1:((s.num.toNat:Nat):Int)=s.num:=by omega
 have a2:((s.bath.toNat:Nat):Int)=s.bath:=by omega
 have a3:((s.age.toNat:Nat):Int)=s.age:=by omega
 rw [a1,a2,a3]
theorem qwP {d:Dy} (hV:DayV d) (post:List UInt8):qfP (qbQ d++post)=(d,false):=by
 have W:=hV.w
 have hL:=hV.lens
 have hbt:=hV.bath
 have hld:=hV.laid
 have hrl:=hV.rl
 have hsl:=hV.shl
 have hpt:=Z0.1 hV.pat
 have hB : ∀ x ∈ d.rc,RdX bkF (qhk x) x := fun x hx => by
  obtain ⟨i,hi,rfl⟩:=List.mem_iff_getElem.1 hx
  have bp:=Q6 (hV.rb i hi)
  have hn:=qc9 bp.1
  exact qwT (fun p hp=>qwE (by rw [List.length_take];omega) (bp.2.2.2.2 p hp)) (by omega) (by omega)
 have hS : ∀ s ∈ d.sh,RdX qqB (qij s) s := fun s hs => by
  have v:=hV.shm s hs
  have hm:QM=1099511627776:=rfl
  have q:=Z0.1 v.2.2.1
  exact qwS ⟨by omega,by omega,by omega,fun p hp=>qwE (by omega) (q.2.1 p hp),by omega⟩
 have hP:∀ p∈d.pat,PtF p:=fun p hp=>qwE (by omega) (hpt.2.1 p hp)
 have e:qbQ d=qrz d.rc++(ZJ d.bath.toNat++(ZJ d.laid.toNat++(qbp d.pat++(ZJ d.sh.length++d.sh.flatMap qij)))):=by unfold qbQ;simp
 have k1:=qwA (rd:=bkF) (enc:=qhk) d.rc hB (by omega) [] ((ZJ d.bath.toNat++(ZJ d.laid.toNat++(qbp d.pat++(ZJ d.sh.length++d.sh.flatMap qij))))++post)
 have k2:=(qwu (n:=d.bath.toNat) (by omega)) (qrz d.rc) ((ZJ d.laid.toNat++(qbp d.pat++(ZJ d.sh.length++d.sh.flatMap qij)))++post)
 have k3:=(qwu (n:=d.laid.toNat) (by omega)) (qrz d.rc++ZJ d.bath.toNat) ((qbp d.pat++(ZJ d.sh.length++d.sh.flatMap qij))++post)
 have k4:=(qwy hP (by omega)) (qrz d.rc++ZJ d.bath.toNat++ZJ d.laid.toNat) ((ZJ d.sh.length++d.sh.flatMap qij)++post)
 have k5:=qwA (rd:=qqB) (enc:=qij) d.sh hS (by omega) (qrz d.rc++ZJ d.bath.toNat++ZJ d.laid.toNat++qbp d.pat) post
 have eB:ZJ d.rc.length++d.rc.flatMap qhk=qrz d.rc:=rfl
 rw [eB] at k1
 rw [e]
 unfold qfP
 simp only [List.append_assoc,List.length_append,List.nil_append,List.length_nil,Nat.zero_add] at k1 k2 k3 k4 k5 ⊢
 simp only [k1,Nat.add_assoc] at k2 k3 k4 k5 ⊢
 simp only [k2] at k3 k4 k5 ⊢
 simp only [k3] at k4 k5 ⊢
 simp only [k4] at k5 ⊢
 simp only [k5]
 have a1:((d.bath.toNat:Nat):Int)=d.bath:=by omega
 have a2:((d.laid.toNat:Nat):Int)=d.laid:=by omega
 rw [a1,a2]
theorem qwL {b:List UInt8} (h:qie b=0):W9 (qoi b)=0∧qev (qoi b)=b∧Wh (qoi b)=0:=by
 have hD:qoi b=(qfP b).1:=by unfold qoi;rw [if_pos h]
 unfold qie at h
 split at h
 · exact absurd h (by decide)
 split at h
 · exact absurd h (by decide)
 unfold qfw at h
 split at h
 · exact absurd h (by decide)
 split at h
 · rename_i h2
   rw [hD]
   refine ⟨h2.1,h2.2,?_⟩
   have h3:=h2.1
   unfold W9 at h3
   split at h3
   · rename_i hd
     unfold Wh;rw [if_pos hd]
   · exact absurd h3 (by decide)
 · exact absurd h (by decide)
theorem qwM {d:Dy} (h:W9 d≠0):(W9 d=2∨W9 d=7)∧qev d=[]:=by
 refine ⟨?_,by unfold qev;rw [if_neg h]⟩
 unfold W9 at h ⊢
 split
 · split
   · exact .inr rfl
   · rename_i a b;rw [if_pos a,if_neg b] at h;exact absurd rfl h
 · exact .inl rfl
theorem qwq : ∀ (l : List UInt8) (n : Nat),l.foldl (fun n b => n + b.toNat) n = n + l.foldl (fun n b => n + b.toNat) 0
 | [],n=>by simp
 | b::l,n=>by
   rw [List.foldl_cons,List.foldl_cons,qwq l (n+b.toNat),qwq l (0+b.toNat)];omega
theorem qwH : ∀ (l : List UInt8) (k : Nat) (h : k < l.length) (x : UInt8),(l.set k x).foldl (fun n b => n + b.toNat) 0 + l[k].toNat = l.foldl (fun n b => n + b.toNat) 0 + x.toNat
 | b::l,0,_,x=>by
   simp only [List.set_cons_zero,List.foldl_cons,List.getElem_cons_zero,Nat.zero_add]
   rw [qwq l x.toNat,qwq l b.toNat];omega
 | b::l,k+1,h,x=>by
   simp only [List.set_cons_succ,List.foldl_cons,List.getElem_cons_succ,Nat.zero_add]
   have ih:=qwH l k (by simpa using h) x
   rw [qwq (l.set k x) b.toNat,qwq l b.toNat];omega
theorem qwF {l:List UInt8}:qgF l<256:=Nat.mod_lt _ (by decide)
theorem qwG {e : List UInt8} {k : Nat} {x : UInt8} (hk : k < (e ++ [UInt8.ofNat (qgF e)]).length) (hx : (e ++ [UInt8.ofNat (qgF e)])[k] ≠ x) :
 (e++[UInt8.ofNat (qgF e)]).set k x≠[]∧(qgF ((e++[UInt8.ofNat (qgF e)]).set k x).dropLast:Int)≠((((e++[UInt8.ofNat (qgF e)]).set k x).getLast?.getD 0).toNat:Int):=by
 have h256:=qwF (l:=e)
 have ht:(UInt8.ofNat (qgF e)).toNat=qgF e:=by rw [UInt8.toNat_ofNat'];exact Nat.mod_eq_of_lt h256
 refine ⟨fun h=>?_,?_⟩
 · have := congrArg List.length h
   rw [List.length_set] at this
   simp at this
 by_cases he:k<e.length
 · rw [List.set_append_left _ _ he,List.dropLast_concat,List.getLast?_append]
   rw [List.getElem_append_left he] at hx
   simp only [List.getLast?_singleton,Option.some_or,Option.getD_some]
   rw [ht]
   have hs:=qwH e k he x
   have h1:e[k].toNat≠x.toNat:=fun h=>hx (UInt8.toNat_inj.1 h)
   have h2:=e[k].toNat_lt
   have h3:=x.toNat_lt
   unfold qgF
   omega
 · have hk' : k = e.length := by simp at hk; omega
   subst hk'
   rw [List.set_append_right _ _ (Nat.le_refl _)]
   rw [List.getElem_append_right (Nat.le_refl _)] at hx
   simp only [Nat.sub_self,List.getElem_cons_zero] at hx
   simp only [Nat.sub_self,List.set_cons_zero,List.dropLast_concat,List.getLast?_append,List.getLast?_singleton,Option.some_or,Option.getD_some]
   intro h
   apply hx
   apply UInt8.toNat_inj.1
   rw [ht];omega
theorem qwI {d : Dy} (h : W9 d = 0) : qie (qev d) = 0 ∧ qoi (qev d) = d ∧ 6 ≤ (qev d).length ∧ (qev d).length ≤ 65536 ∧
 ∀ (k:Nat) (hk:k<(qev d).length) (x:UInt8),(qev d)[k]≠x→qie ((qev d).set k x)=14:=by
 have hL:qev d=qbQ d++[UInt8.ofNat (qgF (qbQ d))]:=by unfold qev;rw [if_pos h]
 have hd:Wg d=true∧(qbQ d).length<65536:=by
  unfold W9 at h
  split at h
  · rename_i a
    split at h
    · exact absurd h (by decide)
    · exact ⟨a,by omega⟩
  · exact absurd h (by decide)
 have V:=jw.1 hd.1
 have h256:=qwF (l:=qbQ d)
 have ht:(UInt8.ofNat (qgF (qbQ d))).toNat=qgF (qbQ d):=by rw [UInt8.toNat_ofNat'];exact Nat.mod_eq_of_lt h256
 have hlen:(qev d).length=(qbQ d).length+1:=by rw [hL];simp
 have h5:5≤(qbQ d).length:=by
  have l1:1≤(ZJ d.rc.length).length:=by
   rw [←Nat.not_lt];intro hh
   have:(ZJ d.rc.length).length=0:=by omega
   unfold ZJ at this
   split at this <;> simp at this
  have lp : ∀ n,1 ≤ (ZJ n).length := fun n => by
   unfold ZJ
   split <;> simp
  have a1:=lp d.rc.length
  have a2:=lp d.bath.toNat
  have a3:=lp d.laid.toNat
  have a4:=lp d.pat.length
  have a5:=lp d.sh.length
  unfold qbQ qrz qbp
  simp only [List.length_append]
  omega
 have hr:=qwP V [UInt8.ofNat (qgF (qbQ d))]
 rw [←hL] at hr
 have dE:qie (qev d)=0:=by
  unfold qie
  rw [if_neg (by omega),if_neg,hr]
  · unfold qfw
    rw [if_neg (by simp),if_pos ⟨h,rfl⟩]
  · rintro (hn | hn)
    · rw [hn] at hlen;simp at hlen
    · rw [hL,List.dropLast_concat,List.getLast?_append] at hn
      simp only [List.getLast?_singleton,Option.some_or,Option.getD_some,ht] at hn
      exact hn rfl
 refine ⟨dE,by unfold qoi;rw [if_pos dE,hr],by omega,by omega,fun k hk x hx=>?_⟩
 have hs:(qev d).set k x≠[]∧(qgF ((qev d).set k x).dropLast:Int)≠((((qev d).set k x).getLast?.getD 0).toNat:Int):=by
  simp only [hL] at hk hx ⊢
  exact qwG hk hx
 unfold qie
 rw [if_neg (by rw [List.length_set];omega),if_pos (.inr hs.2)]
theorem qww (d:Dy) (hd:DyT d) (s:List UInt8) (w:Nat) (hw:w≤65535) (x:UInt8):qC Tryz.prog 13 [DyV d,zQ false s,.v (.int .u16 (w:Int)),U (x.toNat:Int)] (B true):=by
 refine qT (qjr Tryz.func13 qwv (by kernel_rfl) (by show 4≤_;decide) ?_)
 unfold qwt
 have ed:[Bks d.rc,I d.bath,I d.laid,Pts d.pat,Shs d.sh]=dyC d:=rfl
 refine zV ?_
 simp -implicitDefEqProofs (disch:=omega)[qb,dyC]
 simp only [ed]
 refine zV ?_
 simp -implicitDefEqProofs (disch:=omega)[qb,qf,dyC]
 simp only [ed]
 refine qg (ys:=[DyV d]) (ids:=[]) rfl (qwC d) ?_
 simp -implicitDefEqProofs (disch:=omega)[qb,AV.scalar]
 cases hg:qjT d with
 | true =>
   simp -implicitDefEqProofs (disch:=omega)[qb,AV.scalar]
   refine qg (ys:=[]) (ids:=[]) rfl qqz ?_
   simp -implicitDefEqProofs (disch:=omega)[qb,AV.scalar]
 | false =>
 have dI:=hd.i hg
 by_cases h4:4000<s.length
 case pos =>
  have e4:(4000<(s.length:Int))=True:=by simp only [eq_iff_iff,iff_true];omega
  simp -implicitDefEqProofs (disch:=omega)[qb,AV.scalar,e4]
  refine qg (ys:=[]) (ids:=[]) rfl qqz ?_
  simp -implicitDefEqProofs (disch:=omega)[qb,AV.scalar]
 have e4:(4000<(s.length:Int))=False:=by simp only [eq_iff_iff,iff_false];omega
 simp -implicitDefEqProofs (disch:=omega)[qb,AV.scalar,e4]
 have dX:=qwQ s
 generalize hX:qoi s=X at dX
 have edX:[Bks X.rc,I X.bath,I X.laid,Pts X.pat,Shs X.sh]=dyC X:=rfl
 have fin:∀ (xs fr:List (Nat × AV)),(fr=(2,.v (.int .u16 (w:Int)))::(3,U (x.toNat:Int))::(4,.ref 0 0)::xs∨fr=(1,zQ false s)::(2,.v (.int .u16 (w:Int)))::(3,U (x.toNat:Int))::(4,.ref 0 0)::xs)→AWS Tryz.prog (.seq (.rgn [⟨none,[(.ld 53 true 5 (.t 4)),(.call 54 46 [(.t 53)]),(.mv 52 (.t 54)),(.ext 55 (.t 52) 0),(.ext 56 (.t 52) 1),(.mv 13 (.t 55)),(.mv 10 (.t 56))]⟩] [2,3,4,10,13]) (.seq (.seq (.rgn [⟨none,[(.mv 57 (.t 10)),(.bin 58 .neq (.t 57) (.k (I 0)))]⟩] [2,3,4,10,13,58]) (.cond (.t 58) (.seq (.rgn [⟨none,[(.mv 59 (.t 10)),(.bin 60 .eql (.t 59) (.k (I 2))),(.mv 61 (.t 60))]⟩,⟨(some (61,false)),[(.mv 62 (.t 10)),(.bin 63 .eql (.t 62) (.k (I 7)))]⟩,⟨none,[(.pick 64 (.t 61) (.k (B true)) (.t 63)),(.mv 65 (.t 64))]⟩,⟨(some (65,true)),[(.mv 66 (.t 13)),(.len 67 (.t 66)),(.bin 68 .eql (.t 67) (.k (I 0)))]⟩,⟨none,[(.pick 69 (.t 65) (.t 68) (.k (B false))),(.mv 70 (.t 69))]⟩,⟨(some (70,true)),[(.call 71 18 [])]⟩,⟨none,[(.pick 72 (.t 70) (.t 71) (.k (B false))),(.mv 8 (.t 72))]⟩] [8]) .ret) .skip)) (.seq (.rgn [⟨none,[(.mv 74 (.t 13)),(.call 75 48 [(.t 74)]),(.mv 73 (.t 75)),(.ext 76 (.t 73) 0),(.ext 77 (.t 73) 1),(.al 14 [(.sl true 0 []),(I 0),(I 0),(.sl true 0 []),(.sl true 0 [])]),(.st 5 (.t 14) (.t 76)),(.mv 15 (.t 77))]⟩] [2,3,4,13,14,15]) (.seq (.seq (.rgn [⟨none,[(.mv 78 (.t 15)),(.bin 79 .neq (.t 78) (.k (I 0))),(.mv 80 (.t 79))]⟩,⟨(some (80,false)),[(.ld 81 true 5 (.t 14)),(.ld 82 true 5 (.t 4)),(.call 83 28 [(.t 81),(.t 82)]),(.un 84 .not (.t 83))]⟩,⟨none,[(.pick 85 (.t 80) (.k (B true)) (.t 84)),(.mv 86 (.t 85))]⟩,⟨(some (86,false)),[(.mv 87 (.t 13)),(.len 88 (.t 87)),(.bin 89 .lss (.t 88) (.k (I 6)))]⟩,⟨none,[(.pick 90 (.t 86) (.k (B true)) (.t 89))]⟩] [2,3,13,90]) (.cond (.t 90) (.seq (.rgn [⟨none,[(.mv 8 (.k (B false)))]⟩] [8]) .ret) .skip)) (.seq (.rgn [⟨none,[(.mv 91 (.t 2)),(.cnv 92 .i64 (.t 91)),(.mv 93 (.t 13)),(.len 94 (.t 93)),(.bin 95 .rem (.t 92) (.t 94)),(.mv 16 (.t 95))]⟩] [3,13,16]) (.seq (.seq (.rgn [⟨none,[(.mv 96 (.t 13)),(.mv 97 (.t 16)),(.ia 98 1 (.t 96) (.t 97)),(.ld 99 false 1 (.t 98)),(.mv 100 (.t 3)),(.bin 101 .eql (.t 99) (.t 100))]⟩] [3,13,16,101]) (.cond (.t 101) (.seq (.rgn [⟨none,[(.call 102 18 []),(.mv 8 (.t 102))]⟩] [8]) .ret) .skip)) (.seq (.rgn [⟨none,[(.bsl 103 0 1 [(.v (.int .u8 0))] []),(.mv 104 (.t 13)),(.app 105 1 1 (.t 103) (.t 104)),(.mv 17 (.t 105))]⟩] [3,16,17]) (.seq (.rgn [⟨none,[(.mv 106 (.t 17)),(.mv 107 (.t 16)),(.mv 108 (.t 3)),(.ia 109 1 (.t 106) (.t 107)),(.st 1 (.t 109) (.t 108))]⟩] [17]) (.seq (.rgn [⟨none,[(.mv 111 (.t 17)),(.call 112 48 [(.t 111)]),(.mv 110 (.t 112)),(.ext 113 (.t 110) 0),(.ext 114 (.t 110) 1),(.mv 15 (.t 114))]⟩] [15]) (.seq (.rgn [⟨none,[(.mv 115 (.t 15)),(.bin 116 .eql (.t 115) (.k (I 14))),(.mv 117 (.t 116))]⟩,⟨(some (117,true)),[(.call 118 18 [])]⟩,⟨none,[(.pick 119 (.t 117) (.t 118) (.k (B false))),(.mv 8 (.t 119))]⟩] [8]) .ret)))))))))) ⟨fr,[.cells (dyC d),.cells (dyC X)]⟩ (qfB [8] (Out (B true))):=by
  intro xs fr hfr
  rcases hfr with rfl | rfl
  all_goals
   refine zV ?_
   simp -implicitDefEqProofs (disch:=omega)[qb,qf,dyC]
   simp only [ed,edX]
   refine qg (ys:=[DyV d]) (ids:=[]) rfl (qaj d dI) ?_
   simp -implicitDefEqProofs (disch:=omega)[qb,AV.scalar]
   by_cases hf:W9 d=0
   case neg =>
    obtain ⟨c1,c2⟩:=qwM hf
    rw [c2]
    rcases c1 with c1 | c1
    all_goals
     rw [c1]
     refine zV ?_
     simp -implicitDefEqProofs (disch:=omega)[qb]
     refine qg (ys:=[]) (ids:=[]) rfl qqz ?_
     simp -implicitDefEqProofs (disch:=omega)[qb,AV.scalar]
   obtain ⟨m1,m2,m3,m4,m5⟩:=qwI hf
   rw [hf]
   generalize qev d=c at m1 m2 m3 m4 m5
   refine zV ?_
   simp -implicitDefEqProofs (disch:=omega)[qb]
   refine zV ?_
   simp -implicitDefEqProofs (disch:=omega)[qb]
   refine qg (ys:=[zQ false c]) (ids:=[]) rfl (qge false c (by omega)) ?_
   rw [m1,m2]
   simp -implicitDefEqProofs (disch:=omega)[qb,AV.scalar,dyC]
   simp only [ed,edX]
   have q6:((c.length:Int)<6)=False:=by simp only [eq_iff_iff,iff_false];omega
   have hsd:decide (d=d)=true:=decide_eq_true rfl
   refine zV ?_
   simp -implicitDefEqProofs (disch:=omega)[qb,qf,dyC]
   simp only [ed,edX]
   refine qg (ys:=[DyV d,DyV d]) (ids:=[]) rfl (qeZ d d dI.s) ?_
   rw [hsd]
   simp -implicitDefEqProofs (disch:=omega)[qb,AV.scalar,q6]
   obtain ⟨K,hK⟩:∃ K,K=w % c.length:=⟨_,rfl⟩
   have hKl:K<c.length:=by rw [hK];exact Nat.mod_lt _ (by omega)
   have hm:(w:Int).tmod (c.length:Int)=(K:Int):=by rw [hK];rfl
   have c0:((c.length:Int)==0)=false:=by rw [beq_eq_false_iff_ne];omega
   refine zV ?_
   simp -implicitDefEqProofs (disch:=omega)[qb,hm,c0]
   by_cases hx:c[K]=x
   case pos =>
    have hb:((c[K].toNat:Int)==(x.toNat:Int))=true:=by rw [hx,beq_iff_eq]
    refine zV ?_
    simp -implicitDefEqProofs (disch:=omega)[qb,qvw hKl,qZ,hb,hKl]
    refine qg (ys:=[]) (ids:=[]) rfl qqz ?_
    simp -implicitDefEqProofs (disch:=omega)[qb,AV.scalar]
   have hb:((c[K].toNat:Int)==(x.toNat:Int))=false:=by
    rw [beq_eq_false_iff_ne];intro h;exact hx (UInt8.toNat_inj.1 (by omega))
   have dk:=m5 K hKl x hx
   refine zV ?_
   simp -implicitDefEqProofs (disch:=omega)[qb,qvw hKl,qZ,hb,hKl]
   refine zV ?_
   simp -implicitDefEqProofs (disch:=omega)[qb]
   refine zq (ys:=[]) (ids:=[]) rfl rfl ?_
   have hz2:zP 0 [AV.v (Value.int .u8 0)]=[]:=rfl
   have c14:c.length≤140737488355328:=by omega
   simp -implicitDefEqProofs (disch:=omega)[qb,Jp,qZ,hz2,c14]
   refine zV ?_
   simp -implicitDefEqProofs (disch:=omega)[qb,hKl]
   refine ⟨by rw [qZ];omega,?_⟩
   have hset:List.take K (qw c)++U (x.toNat:Int)::List.drop (K+1) (qw c)=qw (c.set K x):=by
    have e:qw (c.set K x)=(qw c).set K (U (x.toNat:Int)):=by unfold qw;rw [List.map_set]
    rw [e,List.set_eq_take_append_cons_drop,if_pos (by rw [qZ];exact hKl)]
   rw [hset]
   generalize hc2:c.set K x=c2 at dk
   have hl2:c2.length=c.length:=by rw [←hc2,List.length_set]
   have hpu:qE (hpf [HObj.cells (dyC d),.cells (dyC X),.cells (dyC d),.cells (qw c2)]) [.ms 3 0 c.length 1]=some ([zQ false c2],[3]):=by
    have h:=qgt (hp:=[HObj.cells (dyC d),.cells (dyC X),.cells (dyC d),.cells (qw c2)]) (id:=3) (n:=c.length) (sz:=1) (cs:=qw c2) rfl (by rw [qZ,Nat.mul_one,hl2]) (Jp _)
    simp only [qE,h]
    show some ([AV.sl false c.length (qw c2)],[3]++[])=some ([AV.sl false c2.length (qw c2)],[3])
    rw [hl2];rfl
   refine zV ?_
   simp -implicitDefEqProofs (disch:=omega)[qb]
   refine qg (ys:=[zQ false c2]) (ids:=[3]) hpu (qge false c2 (by omega)) ?_
   rw [dk]
   simp -implicitDefEqProofs (disch:=omega)[qb,AV.scalar]
   refine zV ?_
   simp -implicitDefEqProofs (disch:=omega)[qb]
   refine qg (ys:=[]) (ids:=[]) rfl qqz ?_
   simp -implicitDefEqProofs (disch:=omega)[qb,AV.scalar]
   refine qnu ?_
   simp -implicitDefEqProofs (disch:=omega)[qb]
 refine zV ?_
 simp -implicitDefEqProofs (disch:=omega)[qb]
 refine qg (ys:=[zQ false s]) (ids:=[]) rfl (qge false s (by omega)) ?_
 rw [hX]
 simp -implicitDefEqProofs (disch:=omega)[qb,AV.scalar,dyC]
 simp only [ed,edX]
 by_cases hs:qie s=0
 case neg =>
  have hb:(qie s==0)=false:=by rw [beq_eq_false_iff_ne];exact hs
  refine zV ?_
  simp -implicitDefEqProofs (disch:=omega)[qb,hb]
  exact fin _ _ (.inr rfl)
 obtain ⟨y1,y2,y3⟩:=qwL hs
 rw [hX] at y1 y2 y3
 have hss:(s != s)=false:=bne_self_eq_false _
 refine zV ?_
 rw [hs]
 simp -implicitDefEqProofs (disch:=omega)[qb,qf,dyC]
 simp only [ed,edX]
 refine qg (ys:=[DyV X]) (ids:=[]) rfl (qaj X dX) ?_
 rw [y1,y2]
 simp -implicitDefEqProofs (disch:=omega)[qb,AV.scalar,qg8,hss,qf,dyC]
 simp only [ed,edX]
 refine qg (ys:=[DyV X]) (ids:=[]) rfl (qcW X dX) ?_
 rw [y3]
 simp -implicitDefEqProofs (disch:=omega)[qb,AV.scalar]
 exact fin _ _ (.inl rfl)
theorem qwx (d:Dy) (hd:DyT d) (s:List UInt8) (n:Int) (hn:0≤n∧n≤65535) (m:Int) (hm:0≤m∧m≤255):qC Tryz.prog 13 [DyV d,zQ false s,.v (.int .u16 n),U m] (B true):=by
 have h:=qww d hd s n.toNat (by omega) (UInt8.ofNat m.toNat)
 have e1:((n.toNat:Nat):Int)=n:=by omega
 have e2:((UInt8.ofNat m.toNat).toNat:Int)=m:=by rw [UInt8.toNat_ofNat',Nat.mod_eq_of_lt (by omega)];omega
 rw [e1,e2] at h
 exact h
end Go.AM
