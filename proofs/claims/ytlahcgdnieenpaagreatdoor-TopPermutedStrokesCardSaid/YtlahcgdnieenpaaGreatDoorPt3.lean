/-
  Pt3: texts joined: Am17d Am18 RdN Ev1 Rn1 Rn2 Cv0 Sl1 Gn1 Gn2 Gn3 Mp2 Zr1 Zr2 Rn3 Px1. Own work.
-/
import Derived.Test.YtlahcgdnieenpaaGreatDoorPt2
import Derived.WalkKit
import Derived.ProofKit
import Derived.OpenShut
import Derived.ChangeOld
import Derived.Below
import Derived.Deep.Slices
import GoSem.ClaimGoes
import Derived.ChangeKeysEq
import Derived.Laws.StructEq
set_option linter.all false
set_option linter.unusedSimpArgs false
set_option linter.unusedVariables false
set_option linter.unusedSectionVars false

namespace Go.AM
def qe:=@Nat.eq_of_beq_eq_true
def xr:=@Nat.le_of_ble_eq_true
def qmD:=@List.map_append
def qmQ:=@Nat.zero_le
def qmY:=@List.getElem?_set_ne
def qm7:=@List.nodup_cons
def qm9:=@List.getElem?_set_self
def qni:=@List.set_eq_take_append_cons_drop
def qnt:=@Nat.zero_add
def qnw:=@List.mem_of_mem_take
def qnA:=@List.getElem_of_mem
def qnK:=@List.eraseIdx_append_of_length_le
def qnO:=@decide_eq_true_iff
def qn1:=@List.take_left'
def qn5:=@List.drop_eq_getElem_cons
def qn9:=@List.findIdx?_eq_some_iff_getElem
def qoe:=@Nat.beq_refl
def qof:=@Nat.ne_of_lt
def qog:=@List.getElem?_cons_succ
def qoo:=@decide_eq_false
def qoA:=@Nat.le_of_not_lt
def qoB:=@Nat.lt_succ_self
def qoI:=@Int.toNat_of_nonneg
def qoJ:=@List.contains_cons
def qoP:=@List.take_zero
def qoR:=@List.flatten_cons
def qo6:=@List.perm_append_comm
def qpb:=@List.reverse_reverse
def qph:=@Go.callsIn_of_wp_marks
def qpi:=@List.drop_zero
def qpj:=@decide_eq_true
def qpr:=@Bool.and_true
def qpu:=@List.ext_getElem?
def qpF:=@List.drop_left'
def qpJ:=@Int.negSucc_eq
def qpN:=@cond_false
def qpP:=@List.any_cons
end Go.AM
namespace Go.AM
open Go.RowKit
variable {f:FuncId} {a b:Int} {k:IntKind} {X c z:List AV} {Q:List AV->Prop} {t:List Nat} {d i o n m:Nat} {x:Opd} {s:St} {α β:Type}
section
variable {P:Program} {E:HE} {N:Nat} {ro:Option Nat} {n:Nat}
def Jx:Nat->List AV->List (Nat×AV)
 | _,[]=>[]
 | k,x::X=>(k,x)::Jx (k+1) X
theorem Vx:∀ (X:List AV) (k t:Nat),get (Jx k X) t=if k<=t then X.getD (t - k) .any else .any
 | [],k,t=>by simp [Jx,get]
 | x::X,k,t=>by
   simp only [Jx,get];split
   . rename_i e;subst e;simp
   rename_i e;rw [Vx X (k+1) t];by_cases h:k+1<=t
   . rw [if_pos h,if_pos (by omega)];obtain ⟨d,rfl⟩:∃ d,t=k+1+d:=⟨t - (k+1),by omega⟩;rw [show k+1+d - (k+1)=d by omega,show k+1+d - k=d+1 by omega];rfl
   rw [if_neg h,if_neg (by omega)]
def zc:List ResultVar->Option (List Nat)
 | []=>some []
 | .tmp t::r=>(zc r).map (t::·)
 | _=>none
def LG (T:List Nat) (f:List (Nat×AV)):AV:=match T with
 | [t]=>get f t
 | _ => .tup (T.map (get f))
abbrev RC:=List (Nat×Option (Bool×Nat))
def jg (P:Program):List ResultVar->Option RC
 | []=>some []
 | .tmp t::r=>(jg P r).map ((t,none)::·)
 | .cell a t::r=>match qW P t,jg P r with
   | some i,some l=>some ((a,some i)::l)
   | _,_=>none
def Up (h:Hp) (f:List (Nat×AV)):RC->List AV->Prop
 | [],[]=>True
 | (t,none)::r,x::X=>x=get f t/\Up h f r X
 | (a,some (agg,s))::r,x::X=>ZM h x [] agg s (get f a)/\Up h f r X
 | _,_=>False
def NQ:List AV->AV
 | [x]=>x
 | xs => .tup xs
theorem ED {Z g w} (o:HeapOK Z g w) {Y:List (Nat×AV)} {a:Act} (s:FrOK w g (get Y) a):∀ {p:List ResultVar} {R:RC} {X:List AV} (f:ResultVar->Sem Value),
 (∀ t,f (.tmp t)=pure (a.tmps.getD t undef))->(∀ b t,f (.cell b t)=(do loadVar t (<-asAddr (a.tmps.getD b undef))))->jg P p=some R->Up Z Y R X ->
 ∃ V:List Value,(p.mapM f).run P w = .ok V w/\V.length=X.length/\∀ i (h:i<X.length),Rep w g false X[i] (V.getD i undef)
 | [],R,X,f,z,y,h,u=>by
   simp [jg] at h;subst h;cases X with
   | nil=>exact ⟨[],rfl,rfl,fun i j=>by simp at j⟩
   | cons _ _=>exact u.elim
 | .tmp t::p,R,X,f,z,y,h,u=>by
   simp only [jg,RL] at h;obtain ⟨l,A,rfl⟩:=h;cases X with
   | nil=>exact u.elim
   | cons x X =>
     obtain ⟨rfl,u⟩:=u;obtain ⟨V,K,Q,T⟩:=ED o s f z y A u;refine ⟨a.tmps.getD t undef::V,?_,by simp [Q],fun i j=>?_⟩
     . rw [qpK,z];simp only [qng,qow,qmR,K]
     cases i with
     | zero=>exact s t
     | succ i=>simpa using T i (by simpa using j)
 | .cell b t::p,R,X,f,z,y,h,u=>by
   simp only [jg] at h;split at h
   . rename_i i l j hl;cases h;obtain ⟨agg,sz⟩:=i;cases X with
     | nil=>exact u.elim
     | cons x X =>
       obtain ⟨d,u⟩:=u;obtain ⟨V,K,Q,T⟩:=ED o s f z y hl u;have e:=s b
       have m:∃ v,((do loadVar t (<-asAddr (a.tmps.getD b undef)):Sem Value)).run P w = .ok v w/\Rep w g false x v:=by
        simp only [ZM] at d;split at d
        . rename_i D off L;rw [L] at e;obtain ⟨c,q,M,r⟩:=WV e;obtain ⟨v,J,O⟩:=Jl j r d.2;exact ⟨v,by rw [M];simp [asAddr,J],O⟩
        . rename_i id off L;split at d
          . rename_i D k;rw [L] at e;obtain ⟨c,q,M,r,_⟩:=WW e o k;obtain ⟨v,J,O⟩:=Jl j r d.2;exact ⟨v,by rw [M];simp [asAddr,J],O⟩
          exact d.elim
        exact d.elim
       obtain ⟨v,C,m2⟩:=m;refine ⟨v::V,?_,by simp [Q],fun i j=>?_⟩
       . rw [qpK,y];simp only [qng,qmR] at C ⊢;rw [C];simp only [qmR,K,qow]
       cases i with
       | zero=>exact m2
       | succ i=>simpa using T i (by simpa using j)
   cases h
theorem JY {p g w} (o:HeapOK p g w) {z:List (Nat×AV)} {a:Act} (m:FrOK w g (get z) a) {f:Func} {R:RC} (h:jg P f.results.toList=some R) (d:Up p z R X) :
 ∃ v,(results f a.tmps).run P w = .ok v w/\Rep w g false (NQ X) v:=by
 simp only [results];rw [Array.mapM_eq_mapM_toList];simp only [qng,qow,map_eq_pure_bind];obtain ⟨V,c,k,K⟩:=ED o m (fun x=>match x with | .tmp t=>pure (a.tmps.getD t undef) | .cell b t=>do loadVar t (<-asAddr (a.tmps.getD b undef))) (fun _=>rfl) (fun _ _=>rfl) h d
 have e:X.length≠1->∃ v,(Result.ok (if h:V.toArray.size=1 then V.toArray[0] else Value.tuple V.toArray) w:Result Value) = .ok v w/\Rep w g false (.tup X) v:=fun l=>by
  refine ⟨.tuple V.toArray,?_,.tup _ _ _ k K⟩;have:¬ V.toArray.size=1:=by simp;omega
  rw [dif_neg this]
 have u:∃ v,(Result.ok (if h:V.toArray.size=1 then V.toArray[0] else Value.tuple V.toArray) w:Result Value) = .ok v w/\Rep w g false (NQ X) v:=by
  match X,k,K,e with
  | [],k,K,e=>exact e (by simp)
  | [x],k,K,_ =>
    obtain ⟨v,rfl⟩:∃ v,V=[v]:=by
     cases V with
     | nil=>simp at k
     | cons v V=>cases V with
       | nil=>exact ⟨v,rfl⟩
       | cons _ _=>simp at k
    exact ⟨v,by simp,K 0 (by simp)⟩
  | x::y::X,k,K,e=>exact e (by simp)
 obtain ⟨v,q,s⟩:=u;refine ⟨v,?_,s⟩;refine (qnH (fun r=>Result.andThen (Result.andThen r (fun a j=>Result.ok a.toArray j)) (fun (a:Array Value) j=>Result.ok (if h:a.size=1 then a[0] else Value.tuple a) j)) c).trans ?_
 simp only [qmR,qow];exact q
def bm (r:RC) (K:AV->List HObj->Prop):Exit->St->Prop
 | .normal,s | .ret,s=>∃ x,Up (hpf s.hp) s.fr r x/\K (NQ x) s.hp
 | _,_=>False
theorem jm {f:Func} {t:Array Value} {R:Ending->World->Prop}:∀ (m:List Nat) (w:World),m.Nodup->(∀ D∈m,w.heap[D]?=some (.deferred (some []))) ->
 (∃ v,(results f t).run P (m.foldl (fun w D=>w.putObj D (.deferred none)) w) = .ok v (m.foldl (fun w D=>w.putObj D (.deferred none)) w)/\R (.returned v) (m.foldl (fun w D=>w.putObj D (.deferred none)) w)) ->
 LeavesInM (W ro) n P f t R (m.map mark) .returning w
 | [],w,j,z,h=>h
 | D::m,w,j,z,h=>by refine ⟨by simp,.inl ⟨D,_,rfl,run_takeDeferred (z D (by simp)),?_⟩⟩;rw [qm7] at j;exact jm m _ j.2 (fun y u=>(qnf (fun e=>j.1 (by rw [<-e];exact u))).trans (z y (by simp [u]))) h
theorem YA {j q o p g}:∀ (m:List Nat) (w:World),m.Nodup->(∀ D∈m,o.heap.size<=D/\w.heap[D]?=some (.deferred (some []))/\¬ UU p g D)->HeapOK p g w->Upd j q o p g w ->
 HeapOK p g (m.foldl (fun w D=>w.putObj D (.deferred none)) w)/\Upd j q o p g (m.foldl (fun w D=>w.putObj D (.deferred none)) w)/\Trans w g (m.foldl (fun w D=>w.putObj D (.deferred none)) w) g
 | [],w,z,y,h,u=>⟨h,u,.refl _ _⟩
 | D::m,w,z,y,h,u=>by rw [qm7] at z;obtain ⟨k,K,r⟩:=y D (by simp);obtain ⟨b,d,t1⟩:=CN h u K r k;obtain ⟨f,c,t2⟩:=YA m _ z.2 (fun s v=>by obtain ⟨Q,l,t⟩:=y s (by simp [v]);exact ⟨Q,(qnf (fun e=>z.1 (by rw [<-e];exact v))).trans l,t⟩) b d;exact ⟨f,c,t1.trans t2⟩
theorem RD {w1:World} {g1:G} (C:YS P E w1 g1) (Z:RS P E) {z:Func} {c:Code} {A:AC} {R:RC} {x:List AV} {hp:List HObj} {K:AV->List HObj->Prop} (hf:P.funcs[f]?=some z) (J:z.body=some c) (hc:NI P z.ntmps c A)
 (hr:jg P z.results.toList=some R) (hl:x.length<=z.ntmps) (h:AWP P E A { fr:=Jx 0 x,hp:=hp } (bm R K)):NH P w1 g1 f x hp K:=by
 intro ro n w g vs k m l y
 have V:CallsIn (W none) n P f vs w fun e u=>∃ v r p j,e = .returned v/\K r p/\Rep u j false r v/\HeapOK (hpf p) j u/\Upd (hpf hp) g w (hpf p) j u:=by
  refine qph hf J trivial (zw C Z hc (.inl rfl) h m (g:=g) ?_ ?_) rfl
  . refine ⟨by simp [l];omega,fun t=>?_,k⟩;show Rep w g false (get (Jx 0 x) t) _;rw [Vx];simp only [qmQ,qmA,qoL];by_cases b:t<x.length
    . have o:x.getD t .any=x[t]:=by simp [b]
      rw [o];have:=y t b;simp only [qmB] at this ⊢;rw [qmN (by omega)];exact this
    have o:x.getD t .any = .any:=by simp [qoA b]
    rw [o];exact .any _ _
  intro e s a u j q O hu hd;obtain ⟨T,d,L,M⟩:=hd;simp only [qm3] at d;have fin:(∃ x,Up (hpf s.hp) s.fr R x/\K (NQ x) s.hp)->LeavesInM (W none) n P z a.tmps (fun e u=>∃ v r p j,e = .returned v/\K r p/\Rep u j false r v/\HeapOK (hpf p) j u/\Upd (hpf hp) g w (hpf p) j u) a.defers .returning u:=fun ⟨ys,hy,Y⟩=>by rw [d];obtain ⟨Q,k2,k3⟩:=YA T u L M O.2.2 hu;refine jm T u L (fun D X=>(M D X).2.1) ?_;obtain ⟨v,j1,j2⟩:=JY (P:=P) Q (fun i=>(O.2.1 i).mono k3) hr hy;exact ⟨v,j1,v,_,_,j,rfl,Y,j2,Q,k2⟩
  cases e with
  | normal=>exact fin q
  | ret=>exact fin q
  | _=>exact q.elim
 exact V
def noY:Nat->List AV->List HObj->(AV->List HObj->Prop)->Prop:=fun _ _ _ _=>False
def noR:AV->List HObj->(List AV->List HObj->(AV->List HObj->Prop)->Prop)->(List HObj->Prop)->Prop:=fun _ _ _ _=>False
def qg (P:Program) (f:Func) (t:List Nat):Option AC:=f.body.map fun c=>(ann t (comp P f.ntmps c) [] t).1
def R1 (P:Program):AV->List HObj->(List AV->List HObj->(AV->List HObj->Prop)->Prop)->(List HObj->Prop)->Prop:=fun v hp H j =>
 ∃ f c u ac t r,v = .fn (.func f) [] c/\jB P f=true/\P.funcs[f]?=some u/\qg P u t=some ac/\jg P u.results.toList=some r/\c.length+1<=u.ntmps /\
   AWP P ⟨fun id x h K=>id=hp.length/\H x h K,noR⟩ ac { fr:=Jx 0 (.yl hp.length::c),hp:=hp++[.lp .ready (hp.length+1),.gone] } (bm r fun _ h=>j h)
def E1 (P:Program):HE:=⟨noY,R1 P⟩
theorem fI {Y}:RS P ⟨Y,noR⟩:=fun _ _ _ _ h=>h.elim
theorem sP:RS P (E1 P):=by rintro v q H g ⟨f,C,s,ac,t,R,rfl,u,y,j,r,l,h⟩;refine ⟨f,C,rfl,u,fun w1 g1 z=>?_⟩;simp only [qg,RL] at j;obtain ⟨c,b,rfl⟩:=j;exact RD (E:=⟨fun id x p K=>id=q.length/\H x p K,noR⟩) (fun id x p K ⟨e,o⟩=>by subst e;exact z x p K o) fI y b (Qu (zK c)) r (by simp;omega) h
theorem gf {w1 g1}:YS P (E1 P) w1 g1:=fun _ _ _ _ h=>h.elim
theorem Gi {u:Func} {a:AC} {R:RC} {x:List AV} {hp:List HObj} {K:AV->List HObj->Prop} (z:P.funcs[f]?=some u) (j:qg P u t=some a)
 (y:jg P u.results.toList=some R) (l:x.length<=u.ntmps) (h:AWP P (E1 P) a { fr:=Jx 0 x,hp:=hp } (bm R K)):qB P f x hp K:=by
 simp only [qg,RL] at j;obtain ⟨c,b,rfl⟩:=j;exact fun ro n w g V o v r=>RD (E:=E1 P) (w1:=w) (g1:=g) gf sP z b (Qu (zK c)) y l h ro n w g V o (.refl _ _) v r
theorem JV:∀ {R:List ResultVar} {T:List Nat},zc R=some T->jg P R=some (T.map (·,none))
 | [],T,h=>by simp [zc] at h;subst h;rfl
 | .tmp t::r,T,h=>by simp only [zc,RL] at h;obtain ⟨s,u,rfl⟩:=h;simp [jg,JV u]
 | .cell a t::r,T,h=>by cases h
theorem Np {h:Hp} {f:List (Nat×AV)}:∀ (T:List Nat) (X:List AV),Up h f (T.map (·,none)) X↔X=T.map (get f)
 | [],[]=>by simp [Up]
 | [],x::X=>by simp [Up]
 | t::T,[]=>by simp [Up]
 | t::T,x::X=>by simp [Up,Np T X]
theorem Uo (T:List Nat) (f:List (Nat×AV)):NQ (T.map (get f))=LG T f:=by
 match T with
 | []=>rfl
 | [t]=>rfl
 | t::u::r=>rfl
def Mp (t:List Nat) (K:AV->List HObj->Prop):Exit->St->Prop
 | .normal,s | .ret,s=>K (LG t s.fr) s.hp
 | _,_=>False
theorem Us {K:AV->List HObj->Prop}:bm (t.map (·,none)) K=Mp t K:=by have k:∀ s:St,(∃ x,Up (hpf s.hp) s.fr (t.map (·,none)) x/\K (NQ x) s.hp)=K (LG t s.fr) s.hp:=fun s=>propext ⟨fun ⟨x,u,v⟩=>by rw [Np] at u;subst u;rw [Uo] at v;exact v,fun h=>⟨_,(Np _ _).2 rfl,by rw [Uo];exact h⟩⟩;funext e s;cases e <;> first | exact k s | rfl
theorem TG {u:Func} {a:AC} {x:List AV} {hp:List HObj} {K:AV->List HObj->Prop} (v:P.funcs[f]?=some u) (c:qg P u t=some a) (r:zc u.results.toList=some t)
 (l:x.length<=u.ntmps) (h:AWP P (E1 P) a { fr:=Jx 0 x,hp:=hp } (Mp t K)):qB P f x hp K :=
 Gi v c (JV r) l (by rw [Us];exact h)
def G.bare (g:G):G:={ S:=g.S,ρ:=fun _=>none }
theorem HeapOK.bare {y g w} (h:HeapOK y g w):HeapOK (fun _=>none) g.bare w :=
 ⟨fun _ _=>rfl,fun _ _ h=>(by cases h),fun _ _ _ _ _ _ _ h=>(by cases h),h.ex,h.tab⟩
theorem Upd.bare {g w y q O} (X:HeapOK (fun _=>none) g w) (h:Upd (fun _=>none) g w y q O):Upd (fun _=>none) g w (fun _=>none) q.bare O :=
 ⟨⟨h.tr.S,h.tr.cell,fun id l e=>(by rw [X.dom id rfl] at e;cases e),h.tr.shp,h.tr.os,h.tr.tape,h.tr.output,h.tr.size,h.tr.drawn⟩,fun c ⟨_,_,_,h,_⟩=>(by cases h),h.S,h.keep⟩
theorem Rep.bare {w g v x} (h:Rep w g true x v):Rep w g.bare true x v:=by
 generalize y:true=p at h
 induction h with
 | v p x=>exact .v _ x
 | any p x=>exact .any _ x
 | sl p X n e a x0 O hn hf hc A q=>exact .sl _ X n e a x0 O hn hf hc (fun i h=>q i h rfl)
 | agg p e O K A q=>exact .agg _ e O K (fun i h=>q i h y)
 | tup p e O K A q=>exact .tup _ e O K (fun i h=>q i h y)
 | ptr p e off b o O hc A q=>exact .ptr _ e off b o O hc (fun i h=>q i h rfl)
 | ref=>cases y
 | ms=>cases y
 | msz=>cases y
 | fn p f as bs xs ys K x1 A x3 q x2=>exact .fn _ f as bs xs ys K x1 (fun i h=>q i h y) (fun i h=>x2 i h y)
 | mp=>cases y
 | mc=>cases y
 | mcz=>cases y
 | yl=>cases y
def Out (r:AV) (x:AV) (h:List HObj):Prop:=∃ is,qH (hpf h) x=some (r,is)
theorem qM {f:FuncId} {r:AV} (h:qB P f X [] (Out r)):qx P f X r:=by
 intro ro n w g V k s u;have z:hpf []=fun _=>none:=by funext i;simp [hpf]
 refine (h ro n w g V (by rw [z];exact k) s (fun i j=>(u i j).of)).mono ?_;rintro e d ⟨v,x,b,t,rfl,⟨is,p⟩,m,o,y⟩;rw [z] at y;have q:=Yy o (ids:=is) p (fun i j=>j) m;obtain ⟨K,l⟩:=o.giveAll is (jT p);exact ⟨v,_,rfl,q.bare,K.bare,(y.trans l).bare k⟩
end
def dS (P:Program) (f:FuncId) (x:List AV) (h:List HObj) (K:AV->List (Nat×HObj)->Prop):Prop :=
 ∃ y ids,qj (hpf h) x=some (y,ids)/\((∃ r,qx P f y r/\K r (bif r.scalar then [] else gones ids))\/(∃ m s c,YK P f y m s c/\K (.ms h.length 0 m s) (Wg c ids++[(h.length,.cells c)]))\/∃ Φ,HX P f y Φ/\K (.mp h.length) (gones ids++[(h.length,.mpp Φ)]))
def AOp.wp (P:Program) (o:AOp) (F:Nat->AV) (y:List HObj) (K:AV->List (Nat×HObj)->Prop):Prop :=
 ∃ r q,o.sem P (evF F) (hpf y) y.length r q/\K r q
def zt (P:Program) (E:HE) (o:List AOp) (d:Option Nat) (f:List (Nat×AV)) (h:List HObj) (K:St->Prop) (r:AV) (w:List (Nat×HObj)):Prop:=zz P E o ⟨zb f d r,qf h w⟩ K
def mt (P:Program) (E:HE) (o:List AOp) (d:Nat) (f:List (Nat×AV)) (K:St->Prop) (r:AV) (h:List HObj):Prop:=zz P E o ⟨(d,r)::f,h⟩ K
def zo (P:Program) (o:List AOp) (d:Option Nat) (f:List (Nat×AV)) (h:List HObj) (T:Tr) (t:List Nat) (K:St->Tr->Prop) (r:AV) (w:List (Nat×HObj)):Prop :=
 QL P o ⟨zb f d r,qf h w⟩ (T++[(t,w.map (·.1))]) K
section
variable {P:Program} {E:HE} {fr:List (Nat×AV)} {hp:List HObj} {F:Nat->AV} {os:List AOp} {KS:St->Prop} {KD:St->Tr->Prop} {tr:Tr} {K:AV->List (Nat×HObj)->Prop}
theorem AL:gones []=[]:=rfl
theorem Li {i s}:gones (i::s)=(i,.gone)::gones s:=rfl
theorem VL {k t x}:get ((k,x)::fr) t=if k=t then x else get fr t:=rfl
theorem mS {t}:get [] t = .any:=rfl
theorem qlA {t}:evF F (.t t)=F t:=rfl
theorem qlz {x}:evF F (.k x)=x:=rfl
theorem Ie {d:Option Nat} {r w}:zt P E os d fr hp KS r w=zz P E os ⟨zb fr d r,qf hp w⟩ KS:=rfl
theorem rl {r hp}:mt P E os d fr KS r hp=zz P E os ⟨(d,r)::fr,hp⟩ KS:=rfl
theorem rn {d:Option Nat} {f r w}:zo P os d fr hp tr f KD r w=QL P os ⟨zb fr d r,qf hp w⟩ (tr++[(f,w.map (·.1))]) KD:=rfl
theorem qjZ:zz P E [] ⟨fr,hp⟩ KS=KS ⟨fr,hp⟩:=rfl
theorem qdm:QL P [] ⟨fr,hp⟩ tr KD=KD ⟨fr,hp⟩ tr:=rfl
theorem qdk {d f A}:zz P (E1 P) (.call d f A::os) ⟨fr,hp⟩ KS=qB P f (A.map (evF (get fr))) hp (mt P (E1 P) os d fr KS) :=
 propext ⟨fun h r n w g v a b c=>h w g gf r n w g v a (.refl _ _) b c,fun h=>Gj h⟩
def Mj (P:Program) (E:HE) (x:AV) (a:List AV) (hp:List HObj) (C:AV->List HObj->Prop):Prop:=match x with
 | .fn (.func f) first c=>jB P f=true/\qB P f (first++a++c) hp C
 | .yl id=>∃ u,E.Y id a hp u/\∀ r h,u r h->C r h
 | _=>False
theorem rh {d x a}:zz P E (.callv d x a::os) ⟨fr,hp⟩ KS=Mj P E (evF (get fr) x) (a.map (evF (get fr))) hp (mt P E os d fr KS):=by
 simp only [zz,aop,Mj];generalize evF (get fr) x=u;cases u with
 | fn f as b=>cases f <;> rfl
 | _=>rfl
theorem qhx {f first c a} {C:AV->List HObj->Prop}:Mj P E (.fn (.func f) first c) a hp C=(jB P f=true/\qB P f (first++a++c) hp C):=rfl
theorem qhL {a A}:QL P (.mv a A::os) ⟨fr,hp⟩ tr KD=(AOp.mv a A).wp P (get fr) hp (zo P os (some a) fr hp tr ([]) KD):=rfl
theorem mH {a A u v}:QL P (.pick a A u v::os) ⟨fr,hp⟩ tr KD=(AOp.pick a A u v).wp P (get fr) hp (zo P os (some a) fr hp tr ([]) KD):=rfl
theorem aI {a A u v}:QL P (.bin a A u v::os) ⟨fr,hp⟩ tr KD=(AOp.bin a A u v).wp P (get fr) hp (zo P os (some a) fr hp tr ([]) KD):=rfl
theorem mE {a A u v j}:QL P (.bing a A u v j::os) ⟨fr,hp⟩ tr KD=(AOp.bing a A u v j).wp P (get fr) hp (zo P os (some a) fr hp tr ([]) KD):=rfl
theorem qhO {a A u}:QL P (.un a A u::os) ⟨fr,hp⟩ tr KD=(AOp.un a A u).wp P (get fr) hp (zo P os (some a) fr hp tr ([]) KD):=rfl
theorem aW {a A u}:QL P (.ext a A u::os) ⟨fr,hp⟩ tr KD=(AOp.ext a A u).wp P (get fr) hp (zo P os (some a) fr hp tr ([]) KD):=rfl
theorem qhK {a u v A}:QL P (.ld a u v A::os) ⟨fr,hp⟩ tr KD=(AOp.ld a u v A).wp P (get fr) hp (zo P os (some a) fr hp tr ((evF (get fr) A).ids) KD):=by simp [QL,AOp.wp,zo,AOp.foot,AOp.looks,AOp.heapy,AOp.more,AOp.opds,AOp.dst,St.step]
theorem qhN {u a A}:QL P (.st u a A::os) ⟨fr,hp⟩ tr KD=(AOp.st u a A).wp P (get fr) hp (zo P os none fr hp tr ((evF (get fr) a).ids++(evF (get fr) A).ids) KD):=by simp [QL,AOp.wp,zo,AOp.foot,AOp.looks,AOp.heapy,AOp.more,AOp.opds,AOp.dst,St.step]
theorem aK {a A u}:QL P (.box a A u::os) ⟨fr,hp⟩ tr KD=(AOp.box a A u).wp P (get fr) hp (zo P os (some a) fr hp tr ([]) KD):=rfl
theorem qhH {a A}:QL P (.al a A::os) ⟨fr,hp⟩ tr KD=(AOp.al a A).wp P (get fr) hp (zo P os (some a) fr hp tr ([]) KD):=rfl
theorem aN {a u v j A}:QL P (.bsl a u v j A::os) ⟨fr,hp⟩ tr KD=(AOp.bsl a u v j A).wp P (get fr) hp (zo P os (some a) fr hp tr (yN (hpf hp) (A.map fun p=>evF (get fr) p.2)) KD):=rfl
theorem aJ {a A u}:QL P (.bld a A u::os) ⟨fr,hp⟩ tr KD=(AOp.bld a A u).wp P (get fr) hp (zo P os (some a) fr hp tr ([]) KD):=rfl
theorem qhI {a A u}:QL P (.fa a A u::os) ⟨fr,hp⟩ tr KD=(AOp.fa a A u).wp P (get fr) hp (zo P os (some a) fr hp tr ([]) KD):=rfl
theorem aX {a A u v j}:QL P (.fld a A u v j::os) ⟨fr,hp⟩ tr KD=(AOp.fld a A u v j).wp P (get fr) hp (zo P os (some a) fr hp tr ([]) KD):=rfl
theorem qhJ {a A u v}:QL P (.ia a A u v::os) ⟨fr,hp⟩ tr KD=(AOp.ia a A u v).wp P (get fr) hp (zo P os (some a) fr hp tr ([]) KD):=rfl
theorem aY {a A u v j}:QL P (.iaa a A u v j::os) ⟨fr,hp⟩ tr KD=(AOp.iaa a A u v j).wp P (get fr) hp (zo P os (some a) fr hp tr ([]) KD):=rfl
theorem oa {a A u v j z}:QL P (.idx a A u v j z::os) ⟨fr,hp⟩ tr KD=(AOp.idx a A u v j z).wp P (get fr) hp (zo P os (some a) fr hp tr ([]) KD):=rfl
theorem aZ {a A u}:QL P (.ids a A u::os) ⟨fr,hp⟩ tr KD=(AOp.ids a A u).wp P (get fr) hp (zo P os (some a) fr hp tr ([]) KD):=rfl
theorem oe {a A}:QL P (.len a A::os) ⟨fr,hp⟩ tr KD=(AOp.len a A).wp P (get fr) hp (zo P os (some a) fr hp tr ([]) KD):=rfl
theorem oo {a A}:QL P (.lns a A::os) ⟨fr,hp⟩ tr KD=(AOp.lns a A).wp P (get fr) hp (zo P os (some a) fr hp tr ([]) KD):=rfl
theorem ol {a A}:QL P (.lnm a A::os) ⟨fr,hp⟩ tr KD=(AOp.lnm a A).wp P (get fr) hp (zo P os (some a) fr hp tr ((evF (get fr) A).ids) KD):=by simp [QL,AOp.wp,zo,AOp.foot,AOp.looks,AOp.heapy,AOp.more,AOp.opds,AOp.dst,St.step]
theorem ow {a A u v j z}:QL P (.slc a A u v j z::os) ⟨fr,hp⟩ tr KD=(AOp.slc a A u v j z).wp P (get fr) hp (zo P os (some a) fr hp tr ([]) KD):=rfl
theorem oz {a A u v}:QL P (.sls a A u v::os) ⟨fr,hp⟩ tr KD=(AOp.sls a A u v).wp P (get fr) hp (zo P os (some a) fr hp tr ([]) KD):=rfl
theorem aH {a v j A u}:QL P (.app a v j A u::os) ⟨fr,hp⟩ tr KD=(AOp.app a v j A u).wp P (get fr) hp (zo P os (some a) fr hp tr ((evF (get fr) A).ids++(evF (get fr) u).ids) KD):=by simp [QL,AOp.wp,zo,AOp.foot,AOp.looks,AOp.heapy,AOp.more,AOp.opds,AOp.dst,St.step]
theorem aR {a v A u}:QL P (.cpy a v A u::os) ⟨fr,hp⟩ tr KD=(AOp.cpy a v A u).wp P (get fr) hp (zo P os (some a) fr hp tr ((evF (get fr) A).ids++(evF (get fr) u).ids) KD):=by simp [QL,AOp.wp,zo,AOp.foot,AOp.looks,AOp.heapy,AOp.more,AOp.opds,AOp.dst,St.step]
theorem ou {a A u v j z}:QL P (.mks a A u v j z::os) ⟨fr,hp⟩ tr KD=(AOp.mks a A u v j z).wp P (get fr) hp (zo P os (some a) fr hp tr ([]) KD):=rfl
theorem aQ {a A u}:QL P (.cnv a A u::os) ⟨fr,hp⟩ tr KD=(AOp.cnv a A u).wp P (get fr) hp (zo P os (some a) fr hp tr ([]) KD):=rfl
theorem qhM {a A u v}:QL P (.mx a A u v::os) ⟨fr,hp⟩ tr KD=(AOp.mx a A u v).wp P (get fr) hp (zo P os (some a) fr hp tr ([]) KD):=rfl
theorem mG {a A}:QL P (.nilc a A::os) ⟨fr,hp⟩ tr KD=(AOp.nilc a A).wp P (get fr) hp (zo P os (some a) fr hp tr ([]) KD):=rfl
theorem oq {a A u v}:QL P (.mkf a A u v::os) ⟨fr,hp⟩ tr KD=(AOp.mkf a A u v).wp P (get fr) hp (zo P os (some a) fr hp tr ([]) KD):=rfl
theorem mF {a u A}:QL P (.call a u A::os) ⟨fr,hp⟩ tr KD=(AOp.call a u A).wp P (get fr) hp (zo P os (some a) fr hp tr (yN (hpf hp) (A.map (evF (get fr)))) KD):=rfl
theorem qh7 {x}:(AV.v x).ids=[]:=rfl
theorem iw {a b c}:(AV.sl a b c).ids=[]:=rfl
theorem up {a b}:(AV.ptr a b).ids=[]:=rfl
theorem ur {a b}:(AV.ref a b).ids=[a]:=rfl
theorem iv {a b c d}:(AV.ms a b c d).ids=[a]:=rfl
theorem iu {a}:(AV.mp a).ids=[a]:=rfl
theorem uo:AV.any.ids=[]:=rfl
theorem ir {a b c}:(AV.fn a b c).ids=b.flatMap AV.ids0++c.flatMap AV.ids0:=rfl
theorem yQ {c}:(AV.agg c).ids1=c.flatMap AV.ids0:=rfl
theorem ip {x}:(AV.v x).ids0=[]:=rfl
theorem ue {a b c}:(AV.sl a b c).ids0=[]:=rfl
theorem yO {a b}:(AV.ptr a b).ids0=[]:=rfl
theorem yP {a b}:(AV.ref a b).ids0=[a]:=rfl
theorem ud {a b c d}:(AV.ms a b c d).ids0=[a]:=rfl
theorem ub {a}:(AV.mp a).ids0=[a]:=rfl
theorem ul {c}:(AV.agg c).ids=c.flatMap AV.ids1:=rfl
theorem ut {c}:(AV.tup c).ids=c.flatMap AV.ids1:=rfl
theorem iq {x}:(AV.v x).ids1=[]:=rfl
theorem uj {a b c}:(AV.sl a b c).ids1=[]:=rfl
theorem yS {a b}:(AV.ptr a b).ids1=[]:=rfl
theorem yT {a b}:(AV.ref a b).ids1=[a]:=rfl
theorem uh {a b c d}:(AV.ms a b c d).ids1=[a]:=rfl
theorem ug {a}:(AV.mp a).ids1=[a]:=rfl
theorem yR:AV.any.ids1=[]:=rfl
theorem uf {a b c}:(AV.fn a b c).ids1=b.flatMap AV.ids0++c.flatMap AV.ids0:=rfl
theorem rq {d f a}:(AOp.call d f a).wp P F hp K=dS P f (a.map (evF F)) hp K:=by
 apply propext;constructor
 . rintro ⟨r,w,⟨y,ids,v,h⟩,u⟩;rcases h with ⟨h,rfl⟩ | ⟨m,s,c,h,rfl,rfl⟩ | ⟨Φ,h,rfl,rfl⟩
   . exact ⟨y,ids,v,.inl ⟨r,h,u⟩⟩
   . exact ⟨y,ids,v,.inr (.inl ⟨m,s,c,h,u⟩)⟩
   exact ⟨y,ids,v,.inr (.inr ⟨Φ,h,u⟩)⟩
 rintro ⟨y,ids,v,h⟩;rcases h with ⟨r,h,u⟩ | ⟨m,s,c,h,u⟩ | ⟨Φ,h,u⟩
 . exact ⟨r,_,⟨y,ids,v,.inl ⟨h,rfl⟩⟩,u⟩
 . exact ⟨_,_,⟨y,ids,v,.inr (.inl ⟨m,s,c,h,rfl,rfl⟩)⟩,u⟩
 exact ⟨_,_,⟨y,ids,v,.inr (.inr ⟨Φ,h,rfl,rfl⟩)⟩,u⟩
theorem qj6 {a A}:zz P E (.mv a A::os) ⟨fr,hp⟩ KS=(AOp.mv a A).wp P (get fr) hp (zt P E os (some a) fr hp KS):=rfl
theorem rz {a A u v}:zz P E (.pick a A u v::os) ⟨fr,hp⟩ KS=(AOp.pick a A u v).wp P (get fr) hp (zt P E os (some a) fr hp KS):=rfl
theorem qds {a A u v}:zz P E (.bin a A u v::os) ⟨fr,hp⟩ KS=(AOp.bin a A u v).wp P (get fr) hp (zt P E os (some a) fr hp KS):=rfl
theorem rx {a A u v j}:zz P E (.bing a A u v j::os) ⟨fr,hp⟩ KS=(AOp.bing a A u v j).wp P (get fr) hp (zt P E os (some a) fr hp KS):=rfl
theorem qj9 {a A u}:zz P E (.un a A u::os) ⟨fr,hp⟩ KS=(AOp.un a A u).wp P (get fr) hp (zt P E os (some a) fr hp KS):=rfl
theorem qdD {a A u}:zz P E (.ext a A u::os) ⟨fr,hp⟩ KS=(AOp.ext a A u).wp P (get fr) hp (zt P E os (some a) fr hp KS):=rfl
theorem qj5 {a A u v}:zz P E (.ld a A u v::os) ⟨fr,hp⟩ KS=(AOp.ld a A u v).wp P (get fr) hp (zt P E os (some a) fr hp KS):=rfl
theorem qj8 {a A u}:zz P E (.st a A u::os) ⟨fr,hp⟩ KS=(AOp.st a A u).wp P (get fr) hp (zt P E os none fr hp KS):=rfl
theorem qdu {a A u}:zz P E (.box a A u::os) ⟨fr,hp⟩ KS=(AOp.box a A u).wp P (get fr) hp (zt P E os (some a) fr hp KS):=rfl
theorem qj2 {a A}:zz P E (.al a A::os) ⟨fr,hp⟩ KS=(AOp.al a A).wp P (get fr) hp (zt P E os (some a) fr hp KS):=rfl
theorem qdv {a A u v j}:zz P E (.bsl a A u v j::os) ⟨fr,hp⟩ KS=(AOp.bsl a A u v j).wp P (get fr) hp (zt P E os (some a) fr hp KS):=rfl
theorem qdt {a A u}:zz P E (.bld a A u::os) ⟨fr,hp⟩ KS=(AOp.bld a A u).wp P (get fr) hp (zt P E os (some a) fr hp KS):=rfl
theorem qj3 {a A u}:zz P E (.fa a A u::os) ⟨fr,hp⟩ KS=(AOp.fa a A u).wp P (get fr) hp (zt P E os (some a) fr hp KS):=rfl
theorem qdE {a A u v j}:zz P E (.fld a A u v j::os) ⟨fr,hp⟩ KS=(AOp.fld a A u v j).wp P (get fr) hp (zt P E os (some a) fr hp KS):=rfl
theorem qj4 {a A u v}:zz P E (.ia a A u v::os) ⟨fr,hp⟩ KS=(AOp.ia a A u v).wp P (get fr) hp (zt P E os (some a) fr hp KS):=rfl
theorem qdF {a A u v j}:zz P E (.iaa a A u v j::os) ⟨fr,hp⟩ KS=(AOp.iaa a A u v j).wp P (get fr) hp (zt P E os (some a) fr hp KS):=rfl
theorem qdH {a A u v j z}:zz P E (.idx a A u v j z::os) ⟨fr,hp⟩ KS=(AOp.idx a A u v j z).wp P (get fr) hp (zt P E os (some a) fr hp KS):=rfl
theorem qdG {a A u}:zz P E (.ids a A u::os) ⟨fr,hp⟩ KS=(AOp.ids a A u).wp P (get fr) hp (zt P E os (some a) fr hp KS):=rfl
theorem qdJ {a A}:zz P E (.len a A::os) ⟨fr,hp⟩ KS=(AOp.len a A).wp P (get fr) hp (zt P E os (some a) fr hp KS):=rfl
theorem qdM {a A}:zz P E (.lns a A::os) ⟨fr,hp⟩ KS=(AOp.lns a A).wp P (get fr) hp (zt P E os (some a) fr hp KS):=rfl
theorem qdL {a A}:zz P E (.lnm a A::os) ⟨fr,hp⟩ KS=(AOp.lnm a A).wp P (get fr) hp (zt P E os (some a) fr hp KS):=rfl
theorem qdR {a A u v j z}:zz P E (.slc a A u v j z::os) ⟨fr,hp⟩ KS=(AOp.slc a A u v j z).wp P (get fr) hp (zt P E os (some a) fr hp KS):=rfl
theorem qdT {a A u v}:zz P E (.sls a A u v::os) ⟨fr,hp⟩ KS=(AOp.sls a A u v).wp P (get fr) hp (zt P E os (some a) fr hp KS):=rfl
theorem qdr {a A u v j}:zz P E (.app a A u v j::os) ⟨fr,hp⟩ KS=(AOp.app a A u v j).wp P (get fr) hp (zt P E os (some a) fr hp KS):=rfl
theorem qdz {a A u v}:zz P E (.cpy a A u v::os) ⟨fr,hp⟩ KS=(AOp.cpy a A u v).wp P (get fr) hp (zt P E os (some a) fr hp KS):=rfl
theorem qdP {a A u v j z}:zz P E (.mks a A u v j z::os) ⟨fr,hp⟩ KS=(AOp.mks a A u v j z).wp P (get fr) hp (zt P E os (some a) fr hp KS):=rfl
theorem qdy {a A u}:zz P E (.cnv a A u::os) ⟨fr,hp⟩ KS=(AOp.cnv a A u).wp P (get fr) hp (zt P E os (some a) fr hp KS):=rfl
theorem qj7 {a A u v}:zz P E (.mx a A u v::os) ⟨fr,hp⟩ KS=(AOp.mx a A u v).wp P (get fr) hp (zt P E os (some a) fr hp KS):=rfl
theorem ry {a A}:zz P E (.nilc a A::os) ⟨fr,hp⟩ KS=(AOp.nilc a A).wp P (get fr) hp (zt P E os (some a) fr hp KS):=rfl
theorem qdN {a A u v}:zz P E (.mkf a A u v::os) ⟨fr,hp⟩ KS=(AOp.mkf a A u v).wp P (get fr) hp (zt P E os (some a) fr hp KS):=rfl
theorem FR {a:α} {b:β} {K:α->β->Prop} {p:Prop}:(∃ r w,(p/\r=a/\w=b)/\K r w)=(p/\K a b) :=
 propext ⟨fun ⟨_,_,⟨h,e,u⟩,k⟩=>⟨h,by subst e;subst u;exact k⟩,fun ⟨h,k⟩=>⟨a,b,⟨h,rfl,rfl⟩,k⟩⟩
theorem Jt {a:α} {b:β} {K:α->β->Prop}:(∃ r w,(r=a/\w=b)/\K r w)=K a b :=
 propext ⟨fun ⟨_,_,⟨e,u⟩,k⟩=>by subst e;subst u;exact k,fun k=>⟨a,b,⟨rfl,rfl⟩,k⟩⟩
theorem qhX {γ:Type} {p:γ->Prop} {f:γ->α} {b:β} {K:α->β->Prop}:(∃ r w,(∃ z,p z/\r=f z/\w=b)/\K r w)=∃ z,p z/\K (f z) b :=
 propext ⟨fun ⟨_,_,⟨z,h,e,u⟩,k⟩=>⟨z,h,by subst e;subst u;exact k⟩,fun ⟨z,h,k⟩=>⟨_,_,⟨z,h,rfl,rfl⟩,k⟩⟩
theorem Jy {K:α->β->Prop}:(∃ r w,False/\K r w)=False:=by simp
theorem qmc {d x}:(AOp.mv d x).wp P F hp K=K (evF F x) []:=Jt
def dR (c a b:AV) (K:AV->List (Nat×HObj)->Prop):Prop:=match c with
 | .v (.bool t)=>K (bif t then a else b) []
 | _=>False
theorem qdg {d c a b}:(AOp.pick d c a b).wp P F hp K=dR (evF F c) (evF F a) (evF F b) K:=by
 unfold AOp.wp;simp only [AOp.sem];generalize evF F c=u;cases u with
 | v x=>cases x <;> first | exact Jt | exact Jy
 | _=>exact Jy
theorem lZ {t a b}:dR (B t) a b K=K (bif t then a else b) []:=rfl
def XC (o:BinOp) (x y:AV) (K:AV->List (Nat×HObj)->Prop):Prop:=match x,y with
 | .v a,.v b=>∃ z,jI o a b=some z/\K (.v z) []
 | _,_=>False
theorem qjI {d o x y}:(AOp.bin d o x y).wp P F hp K=XC o (evF F x) (evF F y) K:=by unfold AOp.wp;simp only [AOp.sem];generalize evF F x=u;generalize evF F y=v;cases u <;> cases v <;> first | exact qhX | exact Jy
theorem Zu {o a b z} (h:jI o a b=some z):XC o (.v a) (.v b) K=K (.v z) []:=by unfold XC;simp only [h,xl,exists_eq_left']
theorem pr {k:IntKind} {b:Int}:XC .add (.v (.int k a)) (.v (.int k b)) K=K (.v (.int k (k.wrap (a+b)))) []:=Zu (by simp [jI])
theorem pw :XC .sub (.v (.int k a)) (.v (.int k b)) K=K (.v (.int k (k.wrap (a - b)))) []:=Zu (by simp [jI])
theorem qgV :XC .mul (.v (.int k a)) (.v (.int k b)) K=K (.v (.int k (k.wrap (a*b)))) []:=Zu (by simp [jI])
theorem qgY (h:b≠0):XC .quo (.v (.int k a)) (.v (.int k b)) K=K (.v (.int k (k.wrap (a.tdiv b)))) []:=Zu (by simp [jI,h])
theorem qgZ (h:b≠0):XC .rem (.v (.int k a)) (.v (.int k b)) K=K (.v (.int k (a.tmod b))) []:=Zu (by simp [jI,h])
theorem qgQ :XC .and (.v (.int k a)) (.v (.int k b)) K=K (.v (.int k (k.wrap (BitVec.ofInt k.bits a &&& BitVec.ofInt k.bits b).toNat))) []:=Zu (by simp [jI])
theorem qgX {k:IntKind} {b:Int}:XC .or (.v (.int k a)) (.v (.int k b)) K=K (.v (.int k (k.wrap (BitVec.ofInt k.bits a ||| BitVec.ofInt k.bits b).toNat))) []:=Zu (by simp [jI])
theorem qg1 :XC .xor (.v (.int k a)) (.v (.int k b)) K=K (.v (.int k (k.wrap (BitVec.ofInt k.bits a ^^^ BitVec.ofInt k.bits b).toNat))) []:=Zu (by simp [jI])
theorem IN :XC .andNot (.v (.int k a)) (.v (.int k b)) K=K (.v (.int k (k.wrap (BitVec.ofInt k.bits a &&& ~~~ BitVec.ofInt k.bits b).toNat))) []:=Zu (by simp [jI])
theorem pu {u:IntKind} (h:0<=b):XC .shl (.v (.int k a)) (.v (.int u b)) K=K (.v (.int k (k.wrap (a*2 ^ (min b.toNat k.bits))))) []:=Zu (by simp [jI];omega)
theorem qg0 {u:IntKind} (h:0<=b):XC .shr (.v (.int k a)) (.v (.int u b)) K=K (.v (.int k (a.fdiv (2 ^ (min b.toNat k.bits))))) []:=Zu (by simp [jI];omega)
theorem qgR :XC .eql (.v (.int k a)) (.v (.int k b)) K=K (B (a==b)) []:=Zu (by simp [jI])
theorem qgW :XC .neq (.v (.int k a)) (.v (.int k b)) K=K (B (a != b)) []:=Zu (by simp [jI])
theorem qgU :XC .lss (.v (.int k a)) (.v (.int k b)) K=K (B (decide (a<b))) []:=Zu (by simp [jI])
theorem pt {k:IntKind} {b:Int}:XC .leq (.v (.int k a)) (.v (.int k b)) K=K (B (decide (a<=b))) []:=Zu (by simp [jI])
theorem qgT :XC .gtr (.v (.int k a)) (.v (.int k b)) K=K (B (decide (a>b))) []:=Zu (by simp [jI])
theorem qgS :XC .geq (.v (.int k a)) (.v (.int k b)) K=K (B (decide (a≥b))) []:=Zu (by simp [jI])
def qgy (P:Program) (o:BinOp) (t:TypeId) (x y:AV) (K:AV->List (Nat×HObj)->Prop):Prop :=
 ∃ a b z,x.val=some a/\y.val=some b/\(∀ w,(binOp o t a b).run P w = .ok z w)/\(∀ p q w,(eqGuard o t p q a b).run P w = .ok () w)/\K (.v z) []
theorem qde {d o t x y}:(AOp.bing d o t x y).wp P F hp K=qgy P o t (evF F x) (evF F y) K:=by
 apply propext;constructor
 . rintro ⟨r,w,⟨a,b,z,h,u,v,j,rfl,rfl⟩,k⟩;exact ⟨a,b,z,h,u,v,j,k⟩
 rintro ⟨a,b,z,h,u,v,j,k⟩;exact ⟨_,_,⟨a,b,z,h,u,v,j,rfl,rfl⟩,k⟩
def UnW (o:UnOp) (x:AV) (K:AV->List (Nat×HObj)->Prop):Prop:=match x with
 | .v a=>∃ z,unV o a=some z/\K (.v z) []
 | _=>False
theorem qmf {d o x}:(AOp.un d o x).wp P F hp K=UnW o (evF F x) K:=by unfold AOp.wp;simp only [AOp.sem];generalize evF F x=u;cases u <;> first | exact qhX | exact Jy
theorem qjn :UnW .neg (.v (.int k a)) K=K (.v (.int k (k.wrap (0 - a)))) []:=by unfold UnW;simp [unV]
theorem qjo {b:Bool}:UnW .not (B b) K=K (B !b) []:=by unfold UnW;simp [unV]
def qkx (x:AV) (i:Nat) (K:AV->List (Nat×HObj)->Prop):Prop:=match x with
 | .tup v=>∃ y,v[i]?=some y/\K y []
 | _=>False
theorem qjP {d x i}:(AOp.ext d x i).wp P F hp K=qkx (evF F x) i K:=by unfold AOp.wp;simp only [AOp.sem];generalize evF F x=u;cases u <;> first | exact qhX | exact Jy
def Pu:List AV->Nat->Option AV
 | [],_=>none
 | a::l,n=>if n=0 then some a else Pu l (n - 1)
theorem Jf:∀ (l:List AV) (n:Nat),Pu l n=l[n]?
 | [],n=>by simp [Pu]
 | a::l,0=>by simp [Pu]
 | a::l,n+1=>by simp [Pu,Jf l n]
theorem Bx {a:AV} {l:List AV} {n}:Pu (a::l) n=if n=0 then some a else Pu l (n - 1):=rfl
def cg (o:Option AV) (K:AV->List (Nat×HObj)->Prop):Prop:=match o with
 | some y=>K y []
 | none=>False
theorem Sv {y:AV}:cg (some y) K=K y []:=rfl
theorem wc {o:Option AV}:(∃ y,o=some y/\K y [])=cg o K:=by cases o <;> simp [cg]
theorem qhP {v:List AV} {i}:qkx (.tup v) i K=cg (Pu v i) K:=by rw [Jf];exact wc
def zF (c:List AV) (o s:Nat) (a:Bool) (K:AV->List (Nat×HObj)->Prop):Prop:=match a with
 | true=>o+s<=c.length/\K (.agg (qJ c o s)) []
 | false=>∃ y,c[o]?=some y/\K y []
theorem Fh {o s}:zF c o s true K=(o+s<=c.length/\K (.agg (qJ c o s)) []):=rfl
theorem Fi {o s}:zF c o s false K=cg (Pu c o) K:=by rw [Jf];exact wc
theorem Gn {o s a} {p:Prop}:(∃ r w,((match a with | true=>o+s<=c.length/\r = .agg (qJ c o s) | false=>∃ y,c[o]?=some y/\r=y)/\w=[])/\K r w)=zF c o s a K:=by
 apply propext;cases a with
 | true =>
   constructor
   . rintro ⟨r,w,⟨⟨h,rfl⟩,rfl⟩,k⟩;exact ⟨h,k⟩
   rintro ⟨h,k⟩;exact ⟨_,_,⟨⟨h,rfl⟩,rfl⟩,k⟩
 | false =>
   constructor
   . rintro ⟨r,w,⟨⟨y,h,rfl⟩,rfl⟩,k⟩;exact ⟨_,h,k⟩
   rintro ⟨y,h,k⟩;exact ⟨_,_,⟨⟨y,h,rfl⟩,rfl⟩,k⟩
def LdW (hp:List HObj) (a:Bool) (s:Nat) (x:AV) (K:AV->List (Nat×HObj)->Prop):Prop:=match x with
 | .ptr c off=>zF c off s a K
 | .ref id off=>match hp[id]? with
   | some (.cells c)=>zF c off s a K
   | _=>False
 | _=>False
theorem qmb {d A s x}:(AOp.ld d A s x).wp P F hp K=LdW hp A s (evF F x) K:=by
 unfold AOp.wp;simp only [AOp.sem,ZM];have v:∀ (c:List AV) (off:Nat),(∃ r w,(w=[]/\(match A with | true=>off+s<=c.length/\r = .agg (qJ c off s) | false=>∃ y,c[off]?=some y/\r=y))/\K r w)=zF c off s A K:=fun c off=>by rw [<-Gn (p:=True)];exact propext ⟨fun ⟨r,w,⟨a,b⟩,k⟩=>⟨r,w,⟨b,a⟩,k⟩,fun ⟨r,w,⟨a,b⟩,k⟩=>⟨r,w,⟨b,a⟩,k⟩⟩
 generalize evF F x=u;cases u with
 | ptr c off=>exact v c off
 | ref id off =>
   simp only [hpf,LdW];generalize hp[id]?=o;cases o with
   | none=>exact Jy
   | some o=>cases o <;> first | exact v _ _ | exact Jy
 | _=>exact Jy
theorem iP {a s c o}:LdW hp a s (.ptr c o) K=zF c o s a K:=rfl
def qu:List HObj->Nat->Option HObj
 | [],_=>none
 | a::l,n=>if n=0 then some a else qu l (n - 1)
theorem qn:∀ (l:List HObj) (n:Nat),qu l n=l[n]?
 | [],n=>by simp [qu]
 | a::l,0=>by simp [qu]
 | a::l,n+1=>by simp [qu,qn l n]
theorem By {a:HObj} {l:List HObj} {n}:qu (a::l) n=if n=0 then some a else qu l (n - 1):=rfl
theorem XR {l:List HObj} {o:HObj}:qu (l++[o]) l.length=some o:=by simp [qn]
theorem QS {l k:List HObj} {n} (h:n<l.length):qu (l++k) n=qu l n:=by rw [qn,qn,qmw h]
theorem fO {l:List HObj} {o O:HObj}:(l++[o]).set l.length O=l++[O]:=by simp
def LdR (o:Option HObj) (a:Bool) (s O:Nat) (K:AV->List (Nat×HObj)->Prop):Prop:=match o with
 | some (.cells c)=>zF c O s a K
 | _=>False
theorem zi {c a s o}:LdR (some (.cells c)) a s o K=zF c o s a K:=rfl
theorem iQ {a s id o}:LdW hp a s (.ref id o) K=LdR (qu hp id) a s o K:=by simp only [LdW,qn];rfl
def StW (hp:List HObj) (s:Nat) (a x:AV) (K:AV->List (Nat×HObj)->Prop):Prop:=match a with
 | .ref id off=>match hp[id]? with
   | some (.cells c)=>(x.cells.length=s/\(x.cells.all AV.isCell)=true/\off+s<=c.length)/\K .any [(id,.cells (splice c off x.cells))]
   | _=>False
 | _=>False
theorem qme {s a x}:(AOp.st s a x).wp P F hp K=StW hp s (evF F a) (evF F x) K:=by
 unfold AOp.wp;simp only [AOp.sem,Ux];generalize evF F a=u;cases u with
 | ref id off =>
   simp only [hpf,StW];generalize hp[id]?=o;cases o with
   | none=>exact Jy
   | some o =>
     cases o with
     | cells c =>
       apply propext;constructor
       . rintro ⟨r,w,⟨h,v,j,rfl,rfl⟩,k⟩;exact ⟨⟨h,v,j⟩,k⟩
       rintro ⟨⟨h,v,j⟩,k⟩;exact ⟨_,_,⟨h,v,j,rfl,rfl⟩,k⟩
     | _=>exact Jy
 | _=>exact Jy
def StR (o:Option HObj) (s id O:Nat) (x:AV) (K:AV->List (Nat×HObj)->Prop):Prop:=match o with
 | some (.cells c)=>(x.cells.length=s/\(x.cells.all AV.isCell)=true/\O+s<=c.length)/\K .any [(id,.cells (splice c O x.cells))]
 | _=>False
theorem Ka {c s id o x}:StR (some (.cells c)) s id o x K=((x.cells.length=s/\(x.cells.all AV.isCell)=true/\o+s<=c.length)/\K .any [(id,.cells (splice c o x.cells))]):=rfl
theorem qaj {s id o x}:StW hp s (.ref id o) x K=StR (qu hp id) s id o x K:=by simp only [StW,qn];rfl
theorem qjK {d s x}:(AOp.box d s x).wp P F hp K=(((evF F x).cells.length=s/\((evF F x).cells.all AV.isCell)=true)/\K (.ref hp.length 0) [(hp.length,.cells (evF F x).cells)]):=by
 unfold AOp.wp;simp only [AOp.sem];apply propext;constructor
 . rintro ⟨r,w,⟨h,u,rfl,rfl⟩,k⟩;exact ⟨⟨h,u⟩,k⟩
 rintro ⟨⟨h,u⟩,k⟩;exact ⟨_,_,⟨h,u,rfl,rfl⟩,k⟩
theorem ql8 {d z}:(AOp.al d z).wp P F hp K=K (.ref hp.length 0) [(hp.length,.cells z)]:=Jt
def qku (P:Program) (hp:List HObj) (n s:Nat) (z:List AV) (i:List Nat) (x:List AV) (K:AV->List (Nat×HObj)->Prop):Prop :=
 ∃ Y ids,qj (hpf hp) x=some (Y,ids)/\(Y.all fun y=>y.cells.all AV.isCell&&y.cells.all AV.isPure&&(y.cells.length==s))=true/\(K (.sl true n (QO (zh n z) s (i.zip Y))) (gones ids)\/K (.mc hp.length 0 n n s) (gones ids++[(hp.length,.cells (QO (zh n z) s (i.zip Y)))]))
theorem Qa {n sz:Nat} {is:List Nat} {x ys:List AV} {ids:List Nat} (h:qj (hpf hp) x=some (ys,ids)) (u:(ys.all fun y=>y.cells.all AV.isCell&&y.cells.all AV.isPure&&(y.cells.length==sz))=true)
 (v:K (.sl true n (QO (zh n z) sz (is.zip ys))) (gones ids)):qku P hp n sz z is x K:=⟨ys,ids,h,u,.inl v⟩
theorem BR {s:Nat}:QO c s []=c:=rfl
theorem Lx {s:Nat} {x:AV} {r}:QO c s ((i,x)::r)=QO (splice c (i*s) x.cells) s r:=rfl
theorem Lw :Jv c []=c:=rfl
theorem PD {x:AV} {r}:Jv c ((o,n,x)::r)=Jv (splice c o x.cells) r:=rfl
theorem Ij {n} :zh (n+1) z=z++zh n z:=rfl
theorem qjL {d n v z s}:(AOp.bsl d n v z s).wp P F hp K=qku P hp n v z (s.map (·.1)) (s.map fun p=>evF F p.2) K:=by
 apply propext;constructor
 . rintro ⟨r,w,⟨y,ids,h,u,j⟩,k⟩;rcases j with ⟨rfl,rfl⟩ | ⟨rfl,rfl⟩
   . exact ⟨y,ids,h,u,.inl k⟩
   exact ⟨y,ids,h,u,.inr k⟩
 rintro ⟨y,ids,h,u,k | k⟩
 . exact ⟨_,_,⟨y,ids,h,u,.inl ⟨rfl,rfl⟩⟩,k⟩
 exact ⟨_,_,⟨y,ids,h,u,.inr ⟨rfl,rfl⟩⟩,k⟩
theorem qjJ {d z s}:(AOp.bld d z s).wp P F hp K=((s.all fun p=>(evF F p.2.2).cells.all AV.isCell&&((evF F p.2.2).cells.length==p.2.1))=true/\K (.agg (Jv z (s.map fun p=>(p.1,p.2.1,evF F p.2.2)))) []):=FR
def FaW (x:AV) (O:Nat) (K:AV->List (Nat×HObj)->Prop):Prop:=match x with
 | .ptr c o=>K (.ptr c (o+O)) []
 | .ref id o=>K (.ref id (o+O)) []
 | _=>False
theorem ql9 {d x o}:(AOp.fa d x o).wp P F hp K=FaW (evF F x) o K:=by unfold AOp.wp;simp only [AOp.sem];generalize evF F x=u;cases u <;> first | exact Jt | exact Jy
theorem oO {c o O}:FaW (.ptr c o) O K=K (.ptr c (o+O)) []:=rfl
theorem oP {id o O}:FaW (.ref id o) O K=K (.ref id (o+O)) []:=rfl
def qky (a:Bool) (s o:Nat) (x:AV) (K:AV->List (Nat×HObj)->Prop):Prop:=match x with
 | .agg c=>zF c o s a K
 | _=>False
theorem qjQ {d a s o x}:(AOp.fld d a s o x).wp P F hp K=qky a s o (evF F x) K:=by unfold AOp.wp;simp only [AOp.sem];generalize evF F x=u;cases u <;> first | exact Gn (p:=True) | exact Jy
theorem mN {a s o c}:qky a s o (.agg c) K=zF c o s a K:=rfl
def IaW (z:Nat) (x i:AV) (K:AV->List (Nat×HObj)->Prop):Prop:=match x,i with
 | .sl _ n c,.v (.int _ j)=>(0<=j/\j<n)/\c.length=n*z/\K (.ptr c (j.toNat*z)) []
 | .ms id off n s,.v (.int _ j)=>(0<=j/\j<n)/\s=z/\K (.ref id (off+j.toNat*z)) []
 | .mc id off n _ s,.v (.int _ j)=>(0<=j/\j<n)/\s=z/\K (.ref id (off+j.toNat*z)) []
 | _,_=>False
theorem qma {d z x i}:(AOp.ia d z x i).wp P F hp K=IaW z (evF F x) (evF F i) K:=by
 unfold AOp.wp;simp only [AOp.sem];generalize evF F x=u;generalize evF F i=v;cases u with
 | sl f n C =>
   cases v with
   | v y =>
     cases y <;> first | exact Jy | skip
     apply propext;constructor
     . rintro ⟨r,w,⟨h,rfl,rfl,j⟩,k⟩;exact ⟨h,j,k⟩
     rintro ⟨h,j,k⟩;exact ⟨_,_,⟨h,rfl,rfl,j⟩,k⟩
   | _=>exact Jy
 | ms id off n s =>
   cases v with
   | v y =>
     cases y <;> first | exact Jy | skip
     apply propext;constructor
     . rintro ⟨r,w,⟨h,j,rfl,rfl⟩,k⟩;exact ⟨h,j,k⟩
     rintro ⟨h,j,k⟩;exact ⟨_,_,⟨h,j,rfl,rfl⟩,k⟩
   | _=>exact Jy
 | mc id off n c s =>
   cases v with
   | v y =>
     cases y <;> first | exact Jy | skip
     apply propext;constructor
     . rintro ⟨r,w,⟨h,j,rfl,rfl⟩,k⟩;exact ⟨h,j,k⟩
     rintro ⟨h,j,k⟩;exact ⟨_,_,⟨h,j,rfl,rfl⟩,k⟩
   | _=>exact Jy
 | _=>cases v <;> exact Jy
theorem qh4 {z id o n c s j k}:IaW z (.mc id o n c s) (.v (.int k j)) K=((0<=j/\j<n)/\s=z/\K (.ref id (o+j.toNat*z)) []):=rfl
theorem qh6 {s f n c j k}:IaW s (.sl f n c) (.v (.int k j)) K=((0<=j/\j<n)/\c.length=n*s/\K (.ptr c (j.toNat*s)) []):=rfl
theorem qh5 {z id o n s j k}:IaW z (.ms id o n s) (.v (.int k j)) K=((0<=j/\j<n)/\s=z/\K (.ref id (o+j.toNat*z)) []):=rfl
def qgE (l s:Nat) (x i:AV) (K:AV->List (Nat×HObj)->Prop):Prop:=match x,i with
 | .ptr c o,.v (.int _ j)=>(0<=j/\j<l)/\K (.ptr c (o+j.toNat*s)) []
 | .ref id o,.v (.int _ j)=>(0<=j/\j<l)/\K (.ref id (o+j.toNat*s)) []
 | _,_=>False
theorem qjR {d l s x i}:(AOp.iaa d l s x i).wp P F hp K=qgE l s (evF F x) (evF F i) K:=by
 unfold AOp.wp;simp only [AOp.sem];generalize evF F x=u;generalize evF F i=v;cases u with
 | ptr c o =>
   cases v with
   | v y=>cases y <;> first | exact Jy | exact FR
   | _=>exact Jy
 | ref id o =>
   cases v with
   | v y=>cases y <;> first | exact Jy | exact FR
   | _=>exact Jy
 | _=>cases v <;> exact Jy
theorem mY {l s c o j k}:qgE l s (.ptr c o) (.v (.int k j)) K=((0<=j/\j<l)/\K (.ptr c (o+j.toNat*s)) []):=rfl
theorem mZ {l s id o j k}:qgE l s (.ref id o) (.v (.int k j)) K=((0<=j/\j<l)/\K (.ref id (o+j.toNat*s)) []):=rfl
def qgF (l:Nat) (a:Bool) (s:Nat) (x i:AV) (K:AV->List (Nat×HObj)->Prop):Prop:=match x,i with
 | .agg c,.v (.int _ j)=>(0<=j/\j<l)/\zF c (j.toNat*s) s a K
 | _,_=>False
theorem qjS {d l agg s x i}:(AOp.idx d l agg s x i).wp P F hp K=qgF l agg s (evF F x) (evF F i) K:=by
 unfold AOp.wp;simp only [AOp.sem];generalize evF F x=u;generalize evF F i=v;cases u with
 | agg c =>
   cases v with
   | v y =>
     cases y <;> first | exact Jy | skip
     simp only [qgF];rw [<-Gn (p:=True)];apply propext;constructor
     . rintro ⟨r,w,⟨h,j,z⟩,k⟩;exact ⟨h,r,w,⟨j,z⟩,k⟩
     rintro ⟨h,r,w,⟨j,z⟩,k⟩;exact ⟨r,w,⟨h,j,z⟩,k⟩
   | _=>exact Jy
 | _=>cases v <;> exact Jy
theorem uu {l a s c j k}:qgF l a s (.agg c) (.v (.int k j)) K=((0<=j/\j<l)/\zF c (j.toNat*s) s a K):=rfl
def bj (x:AV) (K:AV->List (Nat×HObj)->Prop):Prop:=match x with
 | .sl _ n _=>K (I n) []
 | .ms _ _ n _=>K (I n) []
 | .mc _ _ n _ _=>K (I n) []
 | _=>False
theorem qjT {d x}:(AOp.len d x).wp P F hp K=bj (evF F x) K:=by unfold AOp.wp;simp only [AOp.sem];generalize evF F x=u;cases u <;> first | exact Jt | exact Jy
theorem iV {f n c}:bj (.sl f n c) K=K (I n) []:=rfl
theorem iT {id o n c s}:bj (.mc id o n c s) K=K (I n) []:=rfl
theorem iU {id o n s}:bj (.ms id o n s) K=K (I n) []:=rfl
def co (s:Nat) (x:AV) (l h m:Option AV) (K:AV->List (Nat×HObj)->Prop):Prop:=∃ r w,Xx r w s x l h m/\K r w
theorem qjW {d s x l h m}:(AOp.slc d s x l h m).wp P F hp K=co s (evF F x) (l.map (evF F)) (h.map (evF F)) (m.map (evF F)) K:=rfl
theorem Tq :(I a=I b)=(a=b):=by simp [I]
theorem qaa {s f n c j}:co s (.sl f n c) none (some (I j)) none K=((0<=j/\j<=n/\c.length=n*s)/\K (.sl (f&&decide (j.toNat=n)) j.toNat (qJ c 0 (j.toNat*s))) []):=by
 apply propext;constructor
 . rintro ⟨r,w,⟨l,h,u,v,z,g,o,y,q⟩,k⟩;simp only [Tq] at v;subst u;subst v;simp only [qoL,Nat.zero_mul] at y;subst y;subst q;exact ⟨⟨by omega,by omega,o⟩,by simpa using k⟩
 rintro ⟨⟨u,v,z⟩,k⟩;exact ⟨_,_,⟨0,j.toNat,rfl,by rw [qoI u],by omega,by omega,z,rfl,rfl⟩,by simpa using k⟩
theorem qab {s f n c j}:co s (.sl f n c) (some (I j)) none none K=((0<=j/\j<=n/\c.length=n*s)/\K (.sl f (n - j.toNat) (qJ c (j.toNat*s) ((n - j.toNat)*s))) []):=by
 apply propext;constructor
 . rintro ⟨r,w,⟨l,h,u,v,z,g,o,y,q⟩,k⟩;simp only [Tq] at u;subst u;subst v;simp only [qpk,qpr] at y;subst y;subst q;exact ⟨⟨by omega,by omega,o⟩,by simpa using k⟩
 rintro ⟨⟨u,v,z⟩,k⟩;exact ⟨_,_,⟨j.toNat,n,by rw [qoI u],rfl,by omega,by omega,z,rfl,rfl⟩,by simpa using k⟩
theorem xG {s f n c i j}:co s (.sl f n c) (some (I i)) (some (I j)) none K=((0<=i/\i<=j/\j<=n/\c.length=n*s)/\K (.sl (f&&decide (j.toNat=n)) (j.toNat - i.toNat) (qJ c (i.toNat*s) ((j.toNat - i.toNat)*s))) []):=by
 apply propext;constructor
 . rintro ⟨r,w,⟨l,h,u,v,y,z,o,q,g⟩,k⟩;simp only [Tq] at u v;subst u;subst v;subst q;subst g;exact ⟨⟨by omega,by omega,by omega,o⟩,by simpa using k⟩
 rintro ⟨⟨u,v,y,z⟩,k⟩;exact ⟨_,_,⟨i.toNat,j.toNat,by rw [qoI u],by rw [qoI (by omega)],by omega,by omega,z,rfl,rfl⟩,by simpa using k⟩
def qkv (k:IntKind) (x:AV) (K:AV->List (Nat×HObj)->Prop):Prop:=match x with
 | .v (.int _ n)=>K (.v (.int k (k.wrap n))) []
 | _=>False
theorem qjN {d k x}:(AOp.cnv d k x).wp P F hp K=qkv k (evF F x) K:=by
 unfold AOp.wp;simp only [AOp.sem];generalize evF F x=u;cases u with
 | v y=>cases y <;> first | exact Jt | exact Jy
 | _=>exact Jy
theorem mq {k u n}:qkv k (.v (.int u n)) K=K (.v (.int k (k.wrap n))) []:=rfl
def MxW (m:Bool) (x y:AV) (K:AV->List (Nat×HObj)->Prop):Prop:=match x,y with
 | .v (.int k a),.v (.int _ b)=>K (.v (.int k (bif m then (if b>a then b else a) else (if b<a then b else a)))) []
 | _,_=>False
theorem qmd {d m x y}:(AOp.mx d m x y).wp P F hp K=MxW m (evF F x) (evF F y) K:=by
 unfold AOp.wp;simp only [AOp.sem];generalize evF F x=u;generalize evF F y=v;cases u with
 | v a =>
   cases v with
   | v b=>cases a <;> cases b <;> first | exact Jt | exact Jy
   | _=>cases a <;> exact Jy
 | _=>cases v <;> exact Jy
theorem wb {m k a u b}:MxW m (.v (.int k a)) (.v (.int u b)) K=K (.v (.int k (bif m then (if b>a then b else a) else (if b<a then b else a)))) []:=rfl
theorem sd {k a u b}:MxW true (.v (.int k a)) (.v (.int u b)) K=K (.v (.int k (max a b))) []:=by
 rw [wb,qpq];have:(if b>a then b else a)=max a b:=by by_cases h:b>a <;> simp [h] <;> omega
 rw [this]
theorem se {k a u b}:MxW false (.v (.int k a)) (.v (.int u b)) K=K (.v (.int k (min a b))) []:=by
 rw [wb,qpN];have:(if b<a then b else a)=min a b:=by by_cases h:b<a <;> simp [h] <;> omega
 rw [this]
def IA (x:AV) (K:AV->List (Nat×HObj)->Prop):Prop:=match x with
 | .ptr c o=>K (.ptr c o) []
 | .ref id o=>K (.ref id o) []
 | .fn (.func f) as b=>K (.fn (.func f) as b) []
 | _=>False
theorem qdf {d x}:(AOp.nilc d x).wp P F hp K=IA (evF F x) K:=by
 unfold AOp.wp;simp only [AOp.sem];generalize evF F x=u;cases u with
 | fn f as b=>cases f <;> first | exact Jt | exact Jy
 | ptr=>exact Jt
 | ref=>exact Jt
 | _=>exact Jy
theorem vG {c o}:IA (.ptr c o) K=K (.ptr c o) []:=rfl
theorem vH {id o}:IA (.ref id o) K=K (.ref id o) []:=rfl
theorem fg {f as b}:IA (.fn (.func f) as b) K=K (.fn (.func f) as b) []:=rfl
theorem qjU {d f as b}:(AOp.mkf d f as b).wp P F hp K=K (.fn f (as.map (evF F)) (b.map (evF F))) []:=Jt
def gz (hp:List HObj) (s b:Nat) (x y:AV) (K:AV->List (Nat×HObj)->Prop):Prop:=∃ m Y,elems (hpf hp) s y=some (m,Y)/\(Y.all AV.isPC)=true/\∃ r w,zG (hpf hp) hp.length r w s b x m Y/\K r w
theorem qjH {d s b x y}:(AOp.app d s b x y).wp P F hp K=gz hp s b (evF F x) (evF F y) K:=by
 apply propext;constructor
 . rintro ⟨r,w,⟨m,Y,h,u,v⟩,k⟩;exact ⟨m,Y,h,u,r,w,v,k⟩
 rintro ⟨m,Y,h,u,r,w,v,k⟩;exact ⟨r,w,⟨m,Y,h,u,v⟩,k⟩
theorem Rw {s b n m f g} {y:List AV}:gz hp s b (.sl f n c) (.sl g m y) K =
 ((f=true/\y.length=m*s/\(y.all AV.isPC)=true/\c.length=n*s/\(n+m)*b<=140737488355328/\n+m<=140737488355328/\(n=0\/0<m))/\K (.ms hp.length 0 (n+m) s) [(hp.length,.cells (c++y))]):=by
 apply propext;constructor
 . rintro ⟨M,Y,h,q,r,w,l,k⟩;simp only [elems] at h;split at h
   . rename_i t;cases h;obtain ⟨a,A,u,v,j,rfl,rfl⟩:=l;exact ⟨⟨a,t,q,A,u,v,j⟩,k⟩
   cases h
 rintro ⟨⟨a,A,u,v,j,z,o⟩,k⟩;exact ⟨m,y,by simp [elems,A],u,_,_,⟨a,v,j,z,o,rfl,rfl⟩,k⟩
def qkt (o:Option HObj) (N s b id O n z m:Nat) (y:List AV) (K:AV->List (Nat×HObj)->Prop):Prop:=match o with
 | some (.cells c)=>(y.length=m*s/\(y.all AV.isPC)=true/\z=s/\O+n*s<=c.length/\(n+m)*b<=140737488355328/\n+m<=140737488355328)/\K (.ms N 0 (n+m) s) [(id,.gone),(N,.cells (qJ c O (n*s)++y))]
 | _=>False
theorem Vw {c N s b id o n z m y}:qkt (some (.cells c)) N s b id o n z m y K=((y.length=m*s/\(y.all AV.isPC)=true/\z=s/\o+n*s<=c.length/\(n+m)*b<=140737488355328/\n+m<=140737488355328)/\K (.ms N 0 (n+m) s) [(id,.gone),(N,.cells (qJ c o (n*s)++y))]):=rfl
theorem Ru {q b id O n s m g} {y:List AV}:gz hp q b (.ms id O n s) (.sl g m y) K=qkt (qu hp id) hp.length q b id O n s m y K:=by
 apply propext;rw [qn];constructor
 . rintro ⟨M,Y,v,t,r,w,u,k⟩;simp only [elems] at v;split at v
   . rename_i d;cases v;simp only [zG,hpf] at u;cases ho:hp[id]? with
     | none=>rw [ho] at u;exact u.elim
     | some o =>
       rw [ho] at u;cases o with
       | cells c =>obtain ⟨a,A,j,z,rfl,rfl⟩:=u;exact ⟨⟨d,t,a,A,j,z⟩,k⟩
       | _=>exact u.elim
   cases v
 intro h;cases ho:hp[id]? with
 | none=>rw [ho] at h;exact h.elim
 | some o =>
   rw [ho] at h;cases o with
   | cells c =>obtain ⟨⟨a,A,j,z,f,l⟩,k⟩:=h;refine ⟨m,y,by simp [elems,a],A,_,_,?_,k⟩;simp only [zG,hpf,ho];exact ⟨j,z,f,l,trivial,trivial⟩
   | _=>exact h.elim
def qlg (hp:List HObj) (s b:Nat) (z:List AV) (x y:AV) (K:AV->List (Nat×HObj)->Prop):Prop :=
 ∃ k:Nat,x=I k/\y=I k/\k*b<=140737488355328/\k<=140737488355328/\z.length=s/\K (.ms hp.length 0 k s) [(hp.length,.cells (zh k z))]
theorem qjV {d s b z n c}:(AOp.mks d s b z n c).wp P F hp K=qlg hp s b z (evF F n) (evF F c) K:=by
 apply propext;constructor
 . rintro ⟨r,w,⟨k,h,u,v,j,y,rfl,rfl⟩,o⟩;exact ⟨k,h,u,v,j,y,o⟩
 rintro ⟨k,h,u,v,j,y,o⟩;exact ⟨_,_,⟨k,h,u,v,j,y,rfl,rfl⟩,o⟩
theorem qdw {a A}:zz P E (.cap a A::os) ⟨fr,hp⟩ KS=(AOp.cap a A).wp P (get fr) hp (zt P E os (some a) fr hp KS):=rfl
theorem qdx {a A u}:zz P E (.clr a A u::os) ⟨fr,hp⟩ KS=(AOp.clr a A u).wp P (get fr) hp (zt P E os none fr hp KS):=rfl
theorem ru {a A u v j z}:zz P E (.appz a A u v j z::os) ⟨fr,hp⟩ KS=(AOp.appz a A u v j z).wp P (get fr) hp (zt P E os (some a) fr hp KS):=rfl
theorem qdS {a A u v j z y}:zz P E (.slp a A u v j z y::os) ⟨fr,hp⟩ KS=(AOp.slp a A u v j z y).wp P (get fr) hp (zt P E os (some a) fr hp KS):=rfl
theorem qdO {a}:zz P E (.mkm a::os) ⟨fr,hp⟩ KS=(AOp.mkm a).wp P (get fr) hp (zt P E os (some a) fr hp KS):=rfl
theorem qdI {a A u v}:zz P E (.ins a A u v::os) ⟨fr,hp⟩ KS=(AOp.ins a A u v).wp P (get fr) hp (zt P E os none fr hp KS):=rfl
theorem qdK {a A u v j z}:zz P E (.lku a A u v j z::os) ⟨fr,hp⟩ KS=(AOp.lku a A u v j z).wp P (get fr) hp (zt P E os (some a) fr hp KS):=rfl
theorem qdQ {a A u v j}:zz P E (.mpe a A u v j::os) ⟨fr,hp⟩ KS=(AOp.mpe a A u v j).wp P (get fr) hp (zt P E os (some a) fr hp KS):=rfl
theorem qdC {a A u}:zz P E (.est a A u::os) ⟨fr,hp⟩ KS=(AOp.est a A u).wp P (get fr) hp (zt P E os none fr hp KS):=rfl
theorem qdA {a A u}:zz P E (.del a A u::os) ⟨fr,hp⟩ KS=(AOp.del a A u).wp P (get fr) hp (zt P E os none fr hp KS):=rfl
theorem qdB {a A u v j}:zz P E (.eqk a A u v j::os) ⟨fr,hp⟩ KS=(AOp.eqk a A u v j).wp P (get fr) hp (zt P E os (some a) fr hp KS):=rfl
theorem aO {a A}:QL P (.cap a A::os) ⟨fr,hp⟩ tr KD=(AOp.cap a A).wp P (get fr) hp (zo P os (some a) fr hp tr ((AOp.cap a A).foot (get fr) (hpf hp)) KD):=rfl
theorem aP {a A u}:QL P (.clr a A u::os) ⟨fr,hp⟩ tr KD=(AOp.clr a A u).wp P (get fr) hp (zo P os none fr hp tr ((AOp.clr a A u).foot (get fr) (hpf hp)) KD):=rfl
theorem mD {a A u v j z}:QL P (.appz a A u v j z::os) ⟨fr,hp⟩ tr KD=(AOp.appz a A u v j z).wp P (get fr) hp (zo P os (some a) fr hp tr ((AOp.appz a A u v j z).foot (get fr) (hpf hp)) KD):=rfl
theorem oy {a A u v j z y}:QL P (.slp a A u v j z y::os) ⟨fr,hp⟩ tr KD=(AOp.slp a A u v j z y).wp P (get fr) hp (zo P os (some a) fr hp tr ((AOp.slp a A u v j z y).foot (get fr) (hpf hp)) KD):=rfl
theorem ot {a}:QL P (.mkm a::os) ⟨fr,hp⟩ tr KD=(AOp.mkm a).wp P (get fr) hp (zo P os (some a) fr hp tr ((AOp.mkm a).foot (get fr) (hpf hp)) KD):=rfl
theorem od {a A u v}:QL P (.ins a A u v::os) ⟨fr,hp⟩ tr KD=(AOp.ins a A u v).wp P (get fr) hp (zo P os none fr hp tr ((AOp.ins a A u v).foot (get fr) (hpf hp)) KD):=rfl
theorem oh {a A u v j z}:QL P (.lku a A u v j z::os) ⟨fr,hp⟩ tr KD=(AOp.lku a A u v j z).wp P (get fr) hp (zo P os (some a) fr hp tr ((AOp.lku a A u v j z).foot (get fr) (hpf hp)) KD):=rfl
theorem ov {a A u v j}:QL P (.mpe a A u v j::os) ⟨fr,hp⟩ tr KD=(AOp.mpe a A u v j).wp P (get fr) hp (zo P os (some a) fr hp tr ((AOp.mpe a A u v j).foot (get fr) (hpf hp)) KD):=rfl
theorem aV {a A u}:QL P (.est a A u::os) ⟨fr,hp⟩ tr KD=(AOp.est a A u).wp P (get fr) hp (zo P os none fr hp tr ((AOp.est a A u).foot (get fr) (hpf hp)) KD):=rfl
theorem aT {a A u}:QL P (.del a A u::os) ⟨fr,hp⟩ tr KD=(AOp.del a A u).wp P (get fr) hp (zo P os none fr hp tr ((AOp.del a A u).foot (get fr) (hpf hp)) KD):=rfl
theorem aU {a A u v j}:QL P (.eqk a A u v j::os) ⟨fr,hp⟩ tr KD=(AOp.eqk a A u v j).wp P (get fr) hp (zo P os (some a) fr hp tr ((AOp.eqk a A u v j).foot (get fr) (hpf hp)) KD):=rfl
theorem ya {u v j z a A} {G:Nat->AV} {H:Hp}:(AOp.lku u v j z a A).foot G H=(evF G a).ids++(evF G A).ids:=by simp [AOp.foot,AOp.looks,AOp.heapy,AOp.more,AOp.opds]
theorem yc {u v j a A} {G:Nat->AV} {H:Hp}:(AOp.mpe u v j a A).foot G H=(evF G a).ids++(evF G A).ids:=by simp [AOp.foot,AOp.looks,AOp.heapy,AOp.more,AOp.opds]
theorem kY {a A u} {G:Nat->AV} {H:Hp}:(AOp.est a A u).foot G H=(evF G a).ids++((evF G A).ids++(evF G u).ids):=by simp [AOp.foot,AOp.looks,AOp.heapy,AOp.more,AOp.opds]
theorem kZ {v a A u} {G:Nat->AV} {H:Hp}:(AOp.ins v a A u).foot G H=(evF G a).ids++((evF G A).ids++(evF G u).ids):=by simp [AOp.foot,AOp.looks,AOp.heapy,AOp.more,AOp.opds]
theorem kW {u a A} {G:Nat->AV} {H:Hp}:(AOp.del u a A).foot G H=(evF G a).ids++(evF G A).ids:=by simp [AOp.foot,AOp.looks,AOp.heapy,AOp.more,AOp.opds]
theorem FZ {u v j z a A} {G:Nat->AV} {H:Hp}:(AOp.appz u v j z a A).foot G H=(evF G a).ids++(evF G A).ids:=by simp [AOp.foot,AOp.looks,AOp.heapy,AOp.more,AOp.opds]
theorem kV {A u a} {G:Nat->AV} {H:Hp}:(AOp.clr A u a).foot G H=(evF G a).ids:=by simp [AOp.foot,AOp.looks,AOp.heapy,AOp.more,AOp.opds]
theorem kX {a A u v j} {G:Nat->AV} {H:Hp}:(AOp.eqk a A u v j).foot G H=[]:=rfl
theorem kS {a A} {G:Nat->AV} {H:Hp}:(AOp.cap a A).foot G H=[]:=rfl
theorem yb {a} {G:Nat->AV} {H:Hp}:(AOp.mkm a).foot G H=[]:=rfl
def qfr (n:Bool) (k:Bool×List Leaf) (x y:AV) (K:AV->List (Nat×HObj)->Prop):Prop:=∃ a b z,x.val=some a/\y.val=some b/\eqK k a b=some z/\K (B (n != z)) []
theorem qjO {d n s x y}:(AOp.eqk d n s x y).wp P F hp K=qfr n s (evF F x) (evF F y) K:=by
 apply propext;constructor
 . rintro ⟨r,w,⟨a,b,z,h,u,v,rfl,rfl⟩,k⟩;exact ⟨a,b,z,h,u,v,k⟩
 rintro ⟨a,b,z,h,u,v,k⟩;exact ⟨_,_,⟨a,b,z,h,u,v,rfl,rfl⟩,k⟩
theorem oL {n:Bool} {s:Bool×List Leaf} {x y:AV} {a b:Value} {z:Bool} (h:x.val=some a) (j:y.val=some b) (o:eqK s a b=some z):qfr n s x y K=K (B (n != z)) []:=by
 apply propext;constructor
 . rintro ⟨A,q,Z,e,u,v,k⟩;rw [h] at e;rw [j] at u;cases e;cases u;rw [o] at v;cases v;exact k
 exact fun k=>⟨a,b,z,h,j,o,k⟩
theorem kK {n:Bool} {a b c d:Int}:qfr n (true,[.int,.int]) (.agg [I a,I b]) (.agg [I c,I d]) K=K (B (n != decide ((a,b)=(c,d)))) []:=by refine oL (a := .agg #[.int .i64 a,.int .i64 b]) (b := .agg #[.int .i64 c,.int .i64 d]) rfl rfl ?_;simp only [eqK,qo,Qb,qmA];have e:∀ x y:Int,(x==y)=decide (x=y):=fun x y=>rfl;rw [e,e];by_cases h:a=c <;> by_cases u:b=d <;> simp [h,u]
theorem qjM {d x}:(AOp.cap d x).wp P F hp K=(match evF F x with | .sl f n _=>f=true/\K (I n) [] | .mc _ _ _ c _=>K (I c) [] | _=>False):=by
 unfold AOp.wp;simp only [AOp.sem];generalize evF F x=u
 cases u <;> first
  | exact Jt
  | exact Jy
  | (apply propext;constructor
     . rintro ⟨r,w,⟨h,rfl,rfl⟩,k⟩;exact ⟨h,k⟩
     rintro ⟨h,k⟩;exact ⟨_,_,⟨h,rfl,rfl⟩,k⟩)
variable {Q:Exit->St->Prop} {x y:AC}
def UT (P:Program) (E:HE) (t:Bool) (x y:AC) (s:St) (Q:Exit->St->Prop):Prop:=(t=true->AWP P E x s Q)/\(t=false->AWP P E y s Q)
def nX (P:Program) (E:HE) (c:AV) (x y:AC) (s:St) (Q:Exit->St->Prop):Prop:=match c with
 | .v (.bool t)=>UT P E t x y s Q
 | _=>False
theorem qdl {c}:AWP P E (.cond c x y) ⟨fr,hp⟩ Q=nX P E (evF (get fr) c) x y ⟨fr,hp⟩ Q:=by
 simp only [AWP,nX];generalize evF (get fr) c=u;cases u with
 | v y=>cases y <;> rfl
 | _=>rfl
theorem ab {t s}:nX P E (B t) x y s Q=UT P E t x y s Q:=rfl
theorem ae {s}:UT P E true x y s Q=AWP P E x s Q:=by simp [UT]
theorem mh {s}:UT P E false x y s Q=AWP P E y s Q:=by simp [UT]
theorem qA {t:Bool} (h:t=true->AWP P E x s Q) (u:t=false->AWP P E y s Q):UT P E t x y s Q:=⟨h,u⟩
theorem qdq:AWP P E .skip ⟨fr,hp⟩ Q=Q .normal ⟨fr,hp⟩:=rfl
theorem qdp {g k}:AWP P E (.rgn g k) ⟨fr,hp⟩ Q=zx P E g ⟨fr,hp⟩ fun s=>Q .normal (s.keep k):=rfl
theorem qjY {g u k}:AWP P E (.drw g u k) ⟨fr,hp⟩ Q=zu P g ⟨fr,hp⟩ [] fun s tr=>Qm tr u=true/\Q .normal (s.keep k):=rfl
theorem qj1:AWP P E (.seq x y) ⟨fr,hp⟩ Q=AWP P E x ⟨fr,hp⟩ (Exit.th (fun s=>AWP P E y s Q) Q):=rfl
theorem rg {id}:AWP P E (.block id x) ⟨fr,hp⟩ Q=AWP P E x ⟨fr,hp⟩ (Exit.blk id Q):=rfl
theorem qdn {id}:AWP P E (.exit id) ⟨fr,hp⟩ Q=Q (.exit id) ⟨fr,hp⟩:=rfl
theorem qj0:AWP P E .ret ⟨fr,hp⟩ Q=Q .ret ⟨fr,hp⟩:=rfl
theorem rp {l}:AWP P E (.label l) ⟨fr,hp⟩ Q=Q .normal ⟨fr,hp⟩:=rfl
def Xg:Option (List Nat×List Nat)->Option (List Nat×List Nat)->Bool
 | some (r,w),some (R,j)=>UN w R&&UN w j&&UN j r
 | _,_=>false
def YG:Tr->Nat->Option (List Nat×List Nat)
 | [],_=>none
 | a::l,n=>if n=0 then some a else YG l (n - 1)
theorem BA:∀ (l:Tr) (n:Nat),YG l n=l[n]?
 | [],n=>by simp [YG]
 | a::l,0=>by simp [YG]
 | a::l,n+1=>by simp [YG,BA l n]
theorem Bz {a:List Nat×List Nat} {l:Tr} {n}:YG (a::l) n=if n=0 then some a else YG l (n - 1):=rfl
theorem OA {i j u}:Qm tr ((i,j)::u)=(Xg (YG tr i) (YG tr j)&&Qm tr u):=by simp only [Qm,BA];generalize tr[i]?=a;generalize tr[j]?=b;cases a <;> cases b <;> rfl
theorem TQ:Qm tr []=true:=rfl
theorem Fq {r w R j}:Xg (some (r,w)) (some (R,j))=(UN w R&&UN w j&&UN j r):=rfl
theorem kG {b:List Nat}:UN [] b=true:=rfl
theorem FD {x:Nat} {a b:List Nat}:UN (x::a) b=(!b.contains x&&UN a b):=rfl
def yZ (fr:List (Nat×AV)) (k:List Nat):List (Nat×AV):=k.map fun t=>(t,get fr t)
theorem qdo {k}:St.keep ⟨fr,hp⟩ k=⟨yZ fr k,hp⟩:=rfl
theorem Bb {k s}:yZ fr (k::s)=(k,get fr k)::yZ fr s:=rfl
theorem va:yZ fr []=[]:=rfl
theorem qla :Exit.th KS Q .normal s=KS s:=rfl
theorem ql1 {id}:Exit.th KS Q (.exit id) s=Q (.exit id) s:=rfl
theorem ql2 :Exit.th KS Q .ret s=Q .ret s:=rfl
theorem pA {id}:Exit.blk id Q .normal s=Q .normal s:=rfl
theorem qg3 {id}:Exit.blk id Q .ret s=Q .ret s:=rfl
theorem qg2 {id i}:Exit.blk id Q (.exit i) s=if i=id then Q .normal s else Q (.exit i) s:=rfl
theorem qhY:zx P E [] ⟨fr,hp⟩ KS=KS ⟨fr,hp⟩:=rfl
theorem ig {g}:zx P E (⟨none,os⟩::g) ⟨fr,hp⟩ KS=zz P E os ⟨fr,hp⟩ fun s=>zx P E g s KS:=rfl
def GdB (P:Program) (E:HE) (c b:Bool) (os:List AOp) (g:List Grp) (s:St) (K:St->Prop):Prop:=(c=b->zz P E os s fun s=>zx P E g s K)/\(c≠b->zx P E g (zd os s) K)
def GdX (P:Program) (E:HE) (x:AV) (b:Bool) (os:List AOp) (g:List Grp) (s:St) (K:St->Prop):Prop:=match x with
 | .v (.bool c)=>GdB P E c b os g s K
 | .v (.tuple _)=>zx P E g (zd os s) K
 | _=>False
theorem ii {j b g}:zx P E (⟨some (j,b),os⟩::g) ⟨fr,hp⟩ KS=GdX P E (get fr j) b os g ⟨fr,hp⟩ KS:=by
 simp only [zx,GdX];generalize get fr j=u;cases u with
 | v y=>cases y <;> rfl
 | _=>rfl
theorem mR {c b g s}:GdX P E (B c) b os g s KS=GdB P E c b os g s KS:=rfl
theorem yF {c b g s}:GdX P E (.v (.tuple c)) b os g s KS=zx P E g (zd os s) KS:=rfl
theorem qh2 {g s}:GdB P E true true os g s KS=zz P E os s fun s=>zx P E g s KS:=by simp [GdB]
theorem qhZ {g s}:GdB P E false false os g s KS=zz P E os s fun s=>zx P E g s KS:=by simp [GdB]
theorem qh1 {g s}:GdB P E true false os g s KS=zx P E g (zd os s) KS:=by simp [GdB]
theorem qh0 {g s}:GdB P E false true os g s KS=zx P E g (zd os s) KS:=by simp [GdB]
theorem Jc {c b g} (h:c=true->GdB P E true b os g s KS) (u:c=false->GdB P E false b os g s KS):GdB P E c b os g s KS:=by
 cases c
 . exact u rfl
 exact h rfl
def DdB (P:Program) (c b:Bool) (os:List AOp) (g:List Grp) (s:St) (tr:Tr) (K:St->Tr->Prop):Prop :=
 (c=b->QL P os s tr fun s tr=>zu P g s tr K)/\(c≠b->zu P g (zd os s) (tr++os.map fun _=>([],[])) K)
def DdX (P:Program) (x:AV) (b:Bool) (os:List AOp) (g:List Grp) (s:St) (tr:Tr) (K:St->Tr->Prop):Prop:=match x with
 | .v (.bool c)=>DdB P c b os g s tr K
 | .v (.tuple _)=>zu P g (zd os s) (tr++os.map fun _=>([],[])) K
 | _=>False
theorem qhB:zu P [] ⟨fr,hp⟩ tr KD=KD ⟨fr,hp⟩ tr:=rfl
theorem aE {g}:zu P (⟨none,os⟩::g) ⟨fr,hp⟩ tr KD=QL P os ⟨fr,hp⟩ tr fun s tr=>zu P g s tr KD:=rfl
theorem aF {j b g}:zu P (⟨some (j,b),os⟩::g) ⟨fr,hp⟩ tr KD=DdX P (get fr j) b os g ⟨fr,hp⟩ tr KD:=by
 simp only [zu,DdX];generalize get fr j=u;cases u with
 | v y=>cases y <;> rfl
 | _=>rfl
theorem mz {c b g s}:DdX P (B c) b os g s tr KD=DdB P c b os g s tr KD:=rfl
theorem kE {c b g s}:DdX P (.v (.tuple c)) b os g s tr KD=zu P g (zd os s) (tr++os.map fun _=>([],[])) KD:=rfl
theorem qhF {g s}:DdB P true true os g s tr KD=QL P os s tr fun s tr=>zu P g s tr KD:=by simp [DdB]
theorem qhC {g s}:DdB P false false os g s tr KD=QL P os s tr fun s tr=>zu P g s tr KD:=by simp [DdB]
theorem qhE {g s}:DdB P true false os g s tr KD=zu P g (zd os s) (tr++os.map fun _=>([],[])) KD:=by simp [DdB]
theorem qhD {g s}:DdB P false true os g s tr KD=zu P g (zd os s) (tr++os.map fun _=>([],[])) KD:=by simp [DdB]
def qc5:List AOp->List (Nat×AV)->List (Nat×AV)
 | [],fr=>fr
 | o::os,fr=>qc5 os (zb fr o.dst (.v (.tuple #[])))
theorem Tm:∀ {os:List AOp} {fr:List (Nat×AV)},zd os ⟨fr,hp⟩=⟨qc5 os fr,hp⟩
 | [],fr=>rfl
 | o::os,fr=>by
   rw [jc];have:zd [o] ⟨fr,hp⟩=⟨zb fr o.dst (.v (.tuple #[])),hp⟩:=by rw [Ny];rfl
   rw [this,Tm];rfl
theorem xS:qc5 [] fr=fr:=rfl
theorem CV {o:AOp}:qc5 (o::os) fr=qc5 os (zb fr o.dst (.v (.tuple #[]))):=rfl
theorem qh {f:FuncId} {xs ys:List AV} {ids:List Nat} {r:AV} {C:AV->List HObj->Prop} (j:qj (hpf hp) xs=some (ys,ids)) (m:qx P f ys r) (t:C r (qf hp (bif r.scalar then [] else gones ids))):qB P f xs hp C:=by
 intro R n w g V o s u;refine (Ko o j s u m).mono ?_;rintro e a ⟨v,rfl,b,c,q,z⟩
 have l:∀ p∈(bif r.scalar then [] else gones ids),p.1<=hp.length:=fun p h=>by
  cases hs:r.scalar with
  | true=>rw [hs] at h;simp at h
  | false =>rw [hs] at h;simp only [qpN,gones,gm] at h;obtain ⟨i,d,rfl⟩:=h;exact qmu (zp j i d)
 rw [<-zN l] at q z;exact ⟨v,r,_,b,rfl,t,c,q,z⟩
theorem qZ {ys:List AV} {ids:List Nat} {r:AV} (h:qj (hpf hp) X=some (ys,ids)) (u:qx P f ys r) (v:K r (bif r.scalar then [] else gones ids)):dS P f X hp K:=⟨ys,ids,h,.inl ⟨r,u,v⟩⟩
theorem Hb {xs Y:List AV} {d:List Nat} {b:Nat} {c:List AV} {C:AV->List HObj->Prop} (j:qj (hpf hp) xs=some (Y,d)) (a:YK P f Y m b c) (k:C (.ms hp.length 0 m b) (qf hp (gones d++[(hp.length,.cells c)]))):qB P f xs hp C:=by
 intro R n w g V o s r;have u:hpf hp hp.length=none:=by simp [hpf]
 refine (Dm o u j s r a).mono ?_;rintro e N ⟨v,rfl,t,M,q,z⟩
 have l:∀ p∈gones d++[(hp.length,HObj.cells c)],p.1<=hp.length:=fun p h=>by
  rw [xm] at h;rcases h with h | h
  . simp only [gones,gm] at h;obtain ⟨i,L,rfl⟩:=h;exact qmu (zp j i L)
  simp at h;subst h;exact Qs _
 rw [<-zN l] at q z;exact ⟨v,_,_,t,rfl,k,M,q,z⟩
theorem Fb {Y:List AV} {d:List Nat} {Φ:List (Value×Nat×AV)->Nat->Prop} {KC:AV->List HObj->Prop} (j:qj (hpf hp) X=some (Y,d)) (m:HX P f Y Φ) (t:KC (.mp hp.length) (qf hp (gones d++[(hp.length,.mpp Φ)]))):qB P f X hp KC:=by
 intro R n w g V o s r;have u:hpf hp hp.length=none:=by simp [hpf]
 refine (RE o u j s r m).mono ?_;rintro e k ⟨v,rfl,b,a,q,z⟩
 have l:∀ p∈gones d++[(hp.length,HObj.mpp Φ)],p.1<=hp.length:=fun p h=>by
  rw [xm] at h;rcases h with h | h
  . simp only [gones,gm] at h;obtain ⟨i,c,rfl⟩:=h;exact qmu (zp j i c)
  simp at h;subst h;exact Qs _
 rw [<-zN l] at q z;exact ⟨v,_,_,b,rfl,t,a,q,z⟩
theorem uZ {xs:List AV} {sz:Nat} {C:List AV} (O:(C.all AV.isPC)=true) (h:qB P f xs [] fun x hp=>∃ id,x = .ms id 0 m sz/\hpf hp id=some (.cells C)):YK P f xs m sz C:=by
 refine ⟨O,?_⟩;intro ro n w g vs N x0 R;have e0:hpf []=fun _=>none:=by funext i;simp [hpf]
 refine (h ro n w g vs (by rw [e0];exact N) x0 (fun i z=>(R i z).of)).mono ?_;rintro e w' ⟨v,x,x5,V,rfl,⟨id,rfl,b⟩,hx,k,u⟩;rw [e0] at u;obtain ⟨l,D,s⟩:=k.rep id _ b;have p:∀ i (z:i<C.length) x,Rep w' V false C[i] x->Rep w' { S:=V.S,ρ:=fun j=>if j=0 then some l else none } false C[i] x:=fun i z x hr=>(((Qy (WM (Zf O i z)) hr)).pure rfl _).of
 have T:HRep w' { S:=V.S,ρ:=fun j=>if j=0 then some l else none } (.cells C) l:=by
  cases l with
  | virg=>exact s
  | base L=>exact s
  | blk c d =>obtain ⟨A,ty,Y,a1,a2,a3,a4,a5⟩:=s;exact ⟨A,ty,Y,a1,a2,a3,a4,fun i z=>by obtain ⟨x,q,Z⟩:=a5 i z;exact ⟨x,q,p i z x Z⟩⟩
 refine ⟨v,{ S:=V.S,ρ:=fun j=>if j=0 then some l else none },rfl,?_,?_,?_⟩
 . cases hx with
   | ms _ _ _ _ c d X A ty Y q Z h3 h4=>rw [D] at q;cases q;exact .ms _ _ _ _ c d X A ty Y (by simp) Z h3 h4
   | msz _ _ _ a l' q=>rw [D] at q;cases q;exact .msz _ _ _ a l (by simp)
 . refine ⟨fun i z=>?_,fun i o M=>?_,fun i i' o o' c d d' M x4 x1 x2 r J=>?_,k.ex,k.tab⟩
   . by_cases e:i=0
     . subst e;simp [made] at z
     simp [e]
   . by_cases e:i=0
     . subst e;simp [made] at M;subst M;exact ⟨l,by simp,T⟩
     simp [made,e] at M
   by_cases e:i=0
   . by_cases e':i'=0
     . rw [e,e']
     simp [e'] at J
   simp [e] at r
 refine ⟨⟨u.tr.S,u.tr.cell,fun i l' t=>(by rw [N.dom i rfl] at t;cases t),u.tr.shp,u.tr.os,u.tr.tape,u.tr.output,u.tr.size,u.tr.drawn⟩,?_,u.S,u.keep⟩;rintro c ⟨i,o,d,M,x3,r⟩;by_cases e:i=0
 . subst e;simp at r;subst r;rcases u.live c ⟨id,_,d,b,rfl,D⟩ with ⟨_,_,_,h,_⟩ | h
   . cases h
   exact .inr h
 simp [e] at r
theorem iZ {A:List AV} {Φ:List (Value×Nat×AV)->Nat->Prop} (M:∀ s C,Φ s C->(s.all fun e=>e.2.2.isPC)=true) (h:qB P f A [] fun x hp=>∃ id s C,x = .mp id/\hpf hp id=some (.mp s C)/\Φ s C):HX P f A Φ:=by
 refine ⟨M,?_⟩;intro ro n w g vs a V N;have Y:hpf []=fun _=>none:=by funext i;simp [hpf]
 refine (h ro n w g vs (by rw [Y];exact a) V (fun i q=>(N i q).of)).mono ?_;rintro e w' ⟨v,x,x4,Z,rfl,⟨id,s,C,rfl,b,J⟩,hx,k,u⟩;rw [Y] at u;obtain ⟨l,D,z⟩:=k.rep id _ b
 have O:HRep w' { S:=Z.S,ρ:=fun j=>if j=0 then some l else none } (.mpp Φ) l:=by
  cases l with
  | virg=>exact z
  | base L=>exact z
  | blk c d =>obtain ⟨t,a1,a2,a3,a4,a5⟩:=z;exact ⟨s,C,J,t,a1,a2,a3,a4,fun i q=>by obtain ⟨x,R,h2,h3,h4⟩:=a5 i q;exact ⟨x,R,h2,h3,((Qy (WM (LL.1 (M s C J) s[i] (qmr q))) h4).pure rfl _).of⟩⟩
 refine ⟨v,{ S:=Z.S,ρ:=fun j=>if j=0 then some l else none },rfl,?_,?_,?_⟩
 . cases hx with
   | mp _ c d R=>rw [D] at R;cases R;exact .mp _ c d (by simp)
 . refine ⟨fun i q=>?_,fun i o p=>?_,fun i i' o o' c d d' p x3 x0 x1 r T=>?_,k.ex,k.tab⟩
   . by_cases e:i=0
     . subst e;simp [Br] at q
     simp [e]
   . by_cases e:i=0
     . subst e;simp [Br] at p;subst p;exact ⟨l,by simp,O⟩
     simp [Br,e] at p
   by_cases e:i=0
   . by_cases X:i'=0
     . rw [e,X]
     simp [X] at T
   simp [e] at r
 refine ⟨⟨u.tr.S,u.tr.cell,fun i l' m=>(by rw [a.dom i rfl] at m;cases m),u.tr.shp,u.tr.os,u.tr.tape,u.tr.output,u.tr.size,u.tr.drawn⟩,?_,u.S,u.keep⟩;rintro c ⟨i,o,d,p,x2,r⟩;by_cases e:i=0
 . subst e;simp at r;subst r;rcases u.live c ⟨id,_,d,b,rfl,D⟩ with ⟨_,_,_,h,_⟩ | h
   . cases h
   exact .inr h
 simp [e] at r
theorem qiT {C:AV->List HObj->Prop}:Mp t C .normal ⟨fr,hp⟩=C (LG t fr) hp:=rfl
theorem qiU {C:AV->List HObj->Prop}:Mp t C .ret ⟨fr,hp⟩=C (LG t fr) hp:=rfl
theorem QF {f:FuncId} {n:Func} {a:AC} {C:AV->List HObj->Prop} (u:P.funcs[f]?=some n) (c:qg P n t=some a) (r:zc n.results.toList=some t)
 (l:X.length<=n.ntmps) (h:AWP P (E1 P) a ⟨Jx 0 X,hp⟩ (Mp t C)):qB P f X hp C:=TG u c r l h
def Next {α:Type} (I:α->St) (C:α->Prop) (μ:α->Nat) (a:α) (s:St):Prop:=∃ A,C A/\μ A<μ a/\St.le s (I A)
theorem St.le.rfl' (q:St):St.le q q:=fun N a w g h=>⟨g,h,.refl _ _ _⟩
theorem uU (I:α->St) (C:α->Prop) (μ:α->Nat) (A:α) (h:C A) (u:St.le s (I A)) (r:∀ a,C a->AWP P E x (I a) (Exit.th (Next I C μ a) Q)):AWP P E (.loop x) s Q :=
 ⟨α,I,C,μ,A,h,u,r⟩
theorem qL (I:α->St) (C:α->Prop) (μ:α->Nat) (A:α) (h:C A) (u:s=I A) (r:∀ a,C a->AWP P E x (I a) (Exit.th (Next I C μ a) Q)):AWP P E (.loop x) s Q :=
 uU I C μ A h (u ▸ St.le.rfl' s) r
theorem qI {I:α->St} {C:α->Prop} {μ:α->Nat} {a:α} (A:α) (h:C A) (m:μ A<μ a) (u:s=I A):Next I C μ a s:=⟨A,h,m,u ▸ St.le.rfl' s⟩
theorem zy {l:List Int} {j s} (h:j<l.length):zF (l.map fun n=>I n) j s false K=K (I (l.getD j 0)) []:=by simp [zF,h]
theorem qiK {r:AV} {x:Value}:Out r (.v x) hp=(r = .v x):=by
 apply propext;constructor
 . rintro ⟨i,h⟩;simp [qH,qR,zA] at h;exact h.1.symm
 rintro rfl;exact ⟨[],rfl⟩
theorem Zd {r x:AV} {is:List Nat} (h:qH (hpf hp) x=some (r,is)):Out r x hp:=⟨is,h⟩
end
attribute [simp] qj6 rz qds rx qj9 qdD qj5 qj8 qdu qj2 qdv qdt qj3 qdE qj4 qdF qdH qdG qdJ qdM qdL qdR qdT qdr qdz qdP qdy qj7 ry qdN
attribute [simp] qhL mH aI mE qhO aW qhK qhN aK qhH aN aJ qhI aX qhJ aY oa aZ oe oo ol ow oz aH aR ou aQ qhM mG oq mF
attribute [simp low] Fh Fi
attribute [simp] Rw Ru Vw qaa qab xG Option.map_none Option.map_some BR Lx Lw PD Bx Sv xS CV XR fO By zi Ka qde qiT qiU qiK
attribute [simp] Ie rl rn qjZ qdm qdk rh qhx rq qh4 iT qmc qdg lZ qjI pr pw qgV qgY qgZ qgQ qgX qg1 IN pu qg0 qgR qgW qgU pt qgT qgS qmf qjn qjo qjP qhP qmb iP iQ qme qaj qjK ql8 qjL qjJ ql9 oO oP qjQ mN qma qh6 qh5 qjR mY mZ qjS uu qjT iV iU qjW qjN mq qmd sd se qdf vG vH fg qjU qjH qjV qdl ab ae mh qdq qdp qjY qj1 rg qdn qj0 rp qdo qla ql1 ql2 pA qg3 qg2 qhY ig ii mR yF qh2 qhZ qh1 qh0 qhB aE aF mz kE qhF qhC qhE qhD Tm
attribute [simp] Bb va VL mS qlA qlz zb qf qz AOp.dst qh7 iw up ur iv iu uo ir ul ut yQ ip ue yO yP ud ub iq uj yS yT uh ug yR uf Bz OA TQ Fq kG FD Jx LG AV.cells AV.isCell AV.isPure AV.isPure0 AV.isPC qJ splice AL Li AV.scalar
attribute [simp] qdw aO qdx aP ru mD qdS oy qdO ot qdI od qdK oh qdQ ov qdC aV qdA aT qdB aU ya yc kY kZ kW FZ kV kX kS yb qjO
def Lg (w:World):G:=⟨fun b o=>∃ v,w.cell? ⟨b,o,none⟩=some v,fun _=>none⟩
theorem Lj (w:World) (t:TabOK (Lg w) w):HeapOK (fun _=>none) (Lg w) w :=
 ⟨fun _ _=>rfl,fun _ _ h=>(by cases h),fun _ _ _ _ _ _ _ h=>(by cases h),fun _ _ h=>h,t⟩
def RdT (P:Program) (w:World) (t:TypeId) (Q:List AV->Prop):Prop :=
 ∀ (H:Type) (e:TypeId×Value->H) (JM:Nat) (c:List Value) (x:DataW H×List MemPlace),DataW.trod e P w 0 (fun _=>true) true JM t c=some x ->
   ∃ as:List AV,as.length=c.length/\c.length=P.cellsOf t/\Q as/\∀ i (h:i<as.length),Rep w (Lg w) true as[i] (c.getD i undef)
section
variable {P:Program} {w:World} {t e:TypeId}
theorem PI {u:List AV->Prop} (h:RdT P w t Q) (q:∀ as,Q as->u as):RdT P w t u:=fun H E JM c x o=>by obtain ⟨as,v,j,z,y⟩:=h H E JM c x o;exact ⟨as,v,j,q _ z,y⟩
theorem sH (v:P.underlying t=some (.int k)) (z:P.cellsOf t=1):RdT P w t fun as=>∃ n,as=[.v (.int k n)]/\(Lit.int k n).wf=true:=by
 intro H E JM c x h;cases JM with
 | zero=>simp [DataW.trod] at h
 | succ m =>
   unfold DataW.trod at h;rw [v] at h;split at h <;> simp_all;obtain ⟨⟨rfl,j⟩,_⟩:=h
   exact ⟨[.v (.int _ _)],rfl,⟨_,rfl,j⟩,fun i u=>by
    have:i=0:=by simpa using u
    subst this;exact .v _ _⟩
theorem Vf {α:Type} {s:Nat}:∀ {E:List (List α)},(∀ x∈E,x.length=s)->∀ (i:Nat),E.flatten[i]?=(E[i / s]?).bind fun x=>x[i % s]?
 | [],_,i=>by simp
 | x::E,h,i=>by
   have q:x.length=s:=h x (by simp);rw [qoR];by_cases v:i<s
   . rw [qmw (by omega),Nat.div_eq_of_lt v,qoC v];simp
   by_cases g:s=0
   . subst g;have:∀ (l:List (List α)),(∀ x∈l,x.length=0)->l.flatten=[]:=fun l o=>by rw [List.flatten_eq_nil_iff];intro y u;exact qmk (o y u)
     have e:=this (x::E) h;rw [qoR] at e;rw [e];simp;omega
   rw [qmy (by omega),q,Vf (fun y u=>h y (by simp [u]))];have j:i / s=(i - s) / s+1:=by have:=Nat.div_eq_sub_div (b:=s) (a:=i) (by omega) (by omega);exact this
   have z:i % s=(i - s) % s:=by rw [Nat.mod_eq_sub_mod (by omega)]
   rw [j,z];simp
theorem Vg {α:Type} {s:Nat}:∀ {E:List (List α)},(∀ x∈E,x.length=s)->E.flatten.length=E.length*s
 | [],_=>by simp
 | x::E,h=>by rw [qoR,qmI,Vg (fun y u=>h y (by simp [u])),h x (by simp),qm5,qpd];omega
theorem YY {α:Type} {p:Nat->α->Prop}:∀ {n:Nat},(∀ i,i<n->∃ a,p i a)->∃ l:List α,l.length=n/\∀ i (h:i<l.length),p i l[i]
 | 0,_=>⟨[],rfl,fun i h=>by simp at h⟩
 | n+1,h=>by
   obtain ⟨l,v,j⟩:=YY (fun i u=>h i (Nat.lt_succ_of_lt u));obtain ⟨a,z⟩:=h n (qoB n);refine ⟨l++[a],by simp [v],fun i u=>?_⟩;by_cases e:i<l.length
   . rw [qmz e];exact j i e
   have:i=n:=by simp at u;omega
   subst this;rw [qmx (by omega)];simpa [v] using z
theorem pg (a:Addr) (h:a.spot=none) (n:Nat):a.add n=⟨a.block,a.off+n,none⟩:=by
 unfold Addr.add;split
 . rename_i e;subst e;cases a;simp at h;subst h;rfl
 rfl
theorem vW {sz:Nat} (ht:P.underlying t=some (.slice e)) (R:P.cellsOf t=1) (hz:P.cellsOf e=sz) (p:0<sz) (he:RdT P w e Q) :
 RdT P w t fun as=>∃ E:List (List AV),(∀ x∈E,x.length=sz/\Q x)/\as=[.sl false E.length E.flatten]/\E.length<=maxLen:=by
 intro H d JM cs x b;rcases Go.Deep.open_slice ht b with ⟨rfl,rfl⟩ | ⟨a,len,X,m,n,D,Pl,rfl,hb,hl,hm,g,rfl,y⟩
 . refine ⟨[.sl false 0 []],rfl,by simp [R],⟨[],fun x h=>by simp at h,rfl,qmQ _⟩,fun i u=>?_⟩;have:i=0:=by simpa using u
   subst this;exact .sl _ _ _ _ _ _ (fun _=>undef) (Qs _) (fun h=>by cases h) (fun i u=>by simp at u) (fun i u=>by simp at u)
 simp only [qmA] at g;subst g;rw [hz] at y;have o:∀ i,i<len->∃ q:List AV×List Value,q.1.length=sz/\Q q.1/\w.cells? 0 (a.add (i*sz)) sz=some q.2/\q.2.length=sz/\∀ j (h:j<q.1.length),Rep w (Lg w) true q.1[j] (q.2.getD j undef):=fun i u=>by obtain ⟨C,K,A⟩:=y i (by omega);obtain ⟨as,k1,k2,k3,k4⟩:=he H d _ _ _ A;exact ⟨(as,C),by simp only;omega,k3,K,by simp only;omega,k4⟩
 obtain ⟨z,N,f⟩:=YY o;have l:∀ x∈z.map (·.1),x.length=sz:=fun x b=>by obtain ⟨q,M,rfl⟩:=gm.1 b;obtain ⟨i,u,rfl⟩:=qnA M;exact (f i u).1
 refine ⟨[.sl false len (z.map (·.1)).flatten],rfl,by simp [R],⟨z.map (·.1),fun x b=>?_,by simp [N],by simp [N];omega⟩,fun i u=>?_⟩
 . obtain ⟨q,M,rfl⟩:=gm.1 b;obtain ⟨i,u,rfl⟩:=qnA M;exact ⟨(f i u).1,(f i u).2.1⟩
 have:i=0:=by simpa using u
 subst this;have J:=Vg l;simp only [qmq,N] at J
 have c:∀ i,i<len*sz->∃ v,a.spot=none/\w.cell? ⟨a.block,a.off+i,none⟩=some v/\∃ x,(z.map (·.1)).flatten[i]?=some x/\Rep w (Lg w) true x v:=fun i u=>by
  have hd:i / sz<len:=by rw [Nat.div_lt_iff_lt_mul p];exact u
  have L:i % sz<sz:=qpw _ p;have k:0<len:=Nat.lt_of_le_of_lt (qmQ _) hd;obtain ⟨r1,r2,r3,r4,r5⟩:=f (i / sz) (by omega);obtain ⟨_,c2,c3⟩:=World.cells?_some r3;have c4:=c3 (i % sz) L;rw [Wd (by omega)] at c4;have s:a.spot=none:=by have c5:=(f 0 (by omega)).2.2.1;obtain ⟨_,d2,Y⟩:=World.cells?_some c5;have O:=Y 0 p;rw [Wd (by omega)] at O;have:=World.cell?_spot O;simpa [Addr.add] using this
  rw [Deep.add_add,pg a s] at c4;have Z:i / sz*sz+i % sz=i:=by rw [qpc];exact Nat.div_add_mod i sz
  rw [Z] at c4;refine ⟨_,s,c4,(z[i / sz]'(by omega)).1[i % sz]'(by omega),?_,?_⟩
  . rw [Vf l];simp [show i / sz<z.length by omega,show i % sz<(z[i / sz]'(by omega)).1.length by omega]
  have:=r5 (i % sz) (by omega);simpa [show i % sz<(z[i / sz]'(by omega)).2.length by omega] using this
 refine .sl _ _ _ _ (some a) m (fun i=>(w.cell? ⟨a.block,a.off+i,none⟩).getD undef) hl (fun h=>by cases h) (fun i u=>?_) (fun i u=>?_)
 . obtain ⟨v,T,r,_⟩:=c i (by omega);exact ⟨a,rfl,T,⟨v,r⟩,by rw [r];rfl⟩
 obtain ⟨v,T,r,x,V,s4⟩:=c i (by omega);simp only [r,qoD];rw [Wd u] at V;cases V;exact s4
theorem vV {sz n:Nat} (R:P.underlying t=some (.array n e)) (k:P.cellsOf t=n*sz) (T:P.cellsOf e=sz) (p:0<sz) (M:RdT P w e Q) :
 RdT P w t fun z=>∃ E:List (List AV),E.length=n/\(∀ x∈E,x.length=sz/\Q x)/\z=E.flatten:=by
 intro H c JM C x q;obtain ⟨xs,m,_,rfl,d,Z,y⟩:=DataW.trod_array R q;rw [T] at y
 have o:∀ i,i<n->∃ z:List AV,z.length=sz/\Q z/\∀ j (h:j<z.length),Rep w (Lg w) true z[j] (C.getD (i*sz+j) undef):=fun i u=>by
  have v:=y i u;rw [Wd (by omega)] at v;obtain ⟨z,D,J,K,V⟩:=M H c _ _ _ v;have b:i*sz+sz<=C.length:=by rw [d,k,<-qpd];exact qmt _ u
  refine ⟨z,by omega,K,fun j N=>?_⟩;have:=V j N;have r:j<sz:=by omega
  simpa [List.getD,List.getElem?_take,qol,r] using this
 obtain ⟨E,g,s⟩:=YY o;have l:∀ x∈E,x.length=sz:=fun x q=>by obtain ⟨i,u,rfl⟩:=qnA q;exact (s i u).1
 have f:=Vg l;refine ⟨E.flatten,by rw [f,g,d,k],d,⟨E,g,fun x q=>?_,rfl⟩,fun i u=>?_⟩
 . obtain ⟨i,u,rfl⟩:=qnA q;exact ⟨(s i u).1,(s i u).2.1⟩
 rw [f,g] at u;have Y:i / sz<n:=by rw [Nat.div_lt_iff_lt_mul p];exact u
 have O:i % sz<sz:=qpw _ p;obtain ⟨A,r2,X⟩:=s (i / sz) (by omega);have v:=X (i % sz) (by omega);have L:i / sz*sz+i % sz=i:=by rw [qpc];exact Nat.div_add_mod i sz
 rw [L] at v;have a:E.flatten[i]?=some ((E[i / sz]'(by omega))[i % sz]'(by omega)):=by rw [Vf l];simp [show i / sz<E.length by omega,show i % sz<(E[i / sz]'(by omega)).length by omega]
 rw [Wd (by rw [f,g];exact u)] at a;rw [qnq a];exact v
theorem MC {H:Type} {enc:TypeId×Value->H} {v:Value} {d:DataW H} {p:List MemPlace} (r:RdT P w t Q) (y:v.cells=#[v]) (h:DataW.Trod enc P w 0 (fun _=>true) true t v d p):∃ x,Q [x]/\Rep w (Lg w) true x v:=by
 obtain ⟨JM,f⟩:=h;obtain ⟨as,u,_,z,j⟩:=r H enc _ _ _ f;rw [y] at u j
 match as,u with
 | [x],_=>exact ⟨x,z,by simpa using j 0 (by simp)⟩
theorem pp {H:Type} {enc:TypeId×Value->H} {c:Array Value} {d:DataW H} {p:List MemPlace} (r:RdT P w t Q) (h:DataW.Trod enc P w 0 (fun _=>true) true t (.agg c) d p):∃ as,Q as/\Rep w (Lg w) true (.agg as) (.agg c):=by
 obtain ⟨JM,f⟩:=h;obtain ⟨as,u,_,v,j⟩:=r H enc _ _ _ f;refine ⟨as,v,?_⟩;have e:c=c.toList.toArray:=by simp
 rw [e];exact .agg _ as c.toList (by simpa [Value.cells] using u.symm) (fun i z=>by simpa [Value.cells] using j i z)
theorem TL {x:List AV} {V:Array Value} (b:TabOK (Lg w) w) (h:qx P f x (B true)) (n:V.size=x.length) (r:∀ i (h:i<x.length),Rep w (Lg w) true x[i] (V.getD i undef)) :
 Calls P f V w fun e u=>e = .returned (.bool true)/\Below w.heap.size w u:=by
 have y:=h none 0 w (Lg w) V (Lj w b) n r;have q:CallsIn Fence.wide 0 P f V w _:=y;refine (callsIn_wide.1 q).mono fun e u ⟨v,l,j,z,m,E⟩=>?_;subst j;have ev:v = .bool true:=by cases z;rfl
 subst ev;refine ⟨rfl,E.tr.os,E.tr.tape,E.tr.output,E.tr.size,fun k g=>E.keep k g ?_⟩;rintro ⟨id,o,d,s,_⟩;cases s
end
def vz:AV->Option Nat
 | .v (.int .i64 (.ofNat n))=>some n
 | _=>none
theorem Vo {x:AV} (h:vz x=some n):x=I n:=by
 unfold vz at h;split at h
 . cases h;rfl
 cases h
def cL:AV->Option Nat
 | .v (.int _ (.ofNat n))=>some n
 | _=>none
def JE (h:List HObj) (id:Nat):Option (List AV):=match h[id]? with
 | some (.cells c)=>some c
 | _=>none
theorem QW {p:List HObj} {id c} (h:JE p id=some c):hpf p id=some (.cells c):=by
 unfold JE at h;split at h
 . rename_i u;cases h;exact u
 cases h
def po (a:Bool) (s o:Nat) (c:List AV):Option AV :=
 if a then (if o+s<=c.length then some (.agg (qJ c o s)) else none) else c[o]?
theorem Ga {a s o c r}:po a s o c=some r->(match a with | true=>o+s<=c.length/\r = .agg (qJ c o s) | false=>∃ y,c[o]?=some y/\r=y):=by
 intro h;cases a with
 | true =>
   simp only [po,qmA] at h;split at h
   . rename_i u;cases h;exact ⟨u,rfl⟩
   cases h
 | false=>simp only [po,qmM,qnc] at h;exact ⟨r,h,rfl⟩
def UQ (d:Nat):Option AV->Option Nat
 | none=>some d
 | some y=>vz y
theorem QZ {o:Option AV}:UQ d o=some n->(match o with | none=>n=d | some y=>y=I n):=by
 intro h;cases o with
 | none=>simp [UQ] at h;exact h.symm
 | some y=>exact Vo h
def qkR (h n:Nat) (i:Option AV):Option AV->Bool
 | none=>true
 | some y=>match vz y with
   | some m=>Nat.ble h m&&Nat.ble m n&&i.isSome
   | none=>false
def qi0 (s:Nat) (x:AV) (L i M:Option AV):Option AV :=
 match x with
 | .sl f n C=>match UQ 0 L,UQ n i with
   | some l,some h=>if l<=h/\h<=n/\C.length=n*s then (match M with
     | none=>some (.sl (f&&decide (h=n)) (h - l) (qJ C (l*s) ((h - l)*s)))
     | some y=>if vz y=some h/\i.isSome then some (.sl true (h - l) (qJ C (l*s) ((h - l)*s))) else none) else none
   | _,_=>none
 | .ms id off n z=>match UQ 0 L,UQ n i with
   | some l,some h=>if l<=h/\h<=n/\z=s/\qkR h n i M=true then some (.ms id (off+l*s) (h - l) s) else none
   | _,_=>none
 | .mc id off n c z=>match UQ 0 L,UQ n i,UQ c M with
   | some l,some h,some m=>if l<=h/\h<=m/\m<=c/\z=s/\(M.isNone || i.isSome) then some (.mc id (off+l*s) (h - l) (m - l) s) else none
   | _,_,_=>none
 | _=>none
theorem fR {s x L i M r} (h:qi0 s x L i M=some r):Xx r [] s x L i M:=by
 unfold qi0 at h;unfold Xx;split at h
 . split at h
   . rename_i l v j u;split at h
     . rename_i c;refine ⟨l,v,QZ j,QZ u,c.1,c.2.1,c.2.2,?_,rfl⟩;split at h
       . cases h;rfl
       split at h
       . rename_i z;cases h;exact ⟨Vo z.1,z.2,rfl⟩
       cases h
     cases h
   cases h
 . split at h
   . rename_i l v j u;split at h
     . rename_i c;cases h;obtain ⟨C,c2,c3,c4⟩:=c;refine ⟨l,v,QZ j,QZ u,C,c2,c3,?_,.inl rfl,rfl⟩;cases M with
       | none=>trivial
       | some y =>
         simp only [qkR] at c4;split at c4
         . rename_i m hm;simp only [qd] at c4;exact ⟨m,Vo hm,xr c4.1.1,xr c4.1.2,c4.2⟩
         cases c4
     cases h
   cases h
 . split at h
   . rename_i l v m j u hm;split at h
     . rename_i c;cases h;obtain ⟨C,c2,c3,c4,c5⟩:=c;refine ⟨l,v,m,QZ j,QZ u,?_,C,c2,c3,c4,rfl,rfl⟩;have:=QZ hm;cases M with
       | none=>exact this
       | some y=>simp at c5;exact ⟨this,c5⟩
     cases h
   cases h
 cases h
def ee (h:List HObj) (N s b:Nat) (x:AV) (m:Nat) (y:List AV):Option (AV×List (Nat×HObj)) :=
 match x with
 | .sl f n C=>if f=true/\C.length=n*s/\(n+m)*b<=140737488355328/\n+m<=140737488355328/\(n=0\/0<m) then some (.ms N 0 (n+m) s,[(N,.cells (C++y))]) else none
 | .ms id off n z=>match JE h id with
   | some C=>if z=s/\off+n*s<=C.length/\(n+m)*b<=140737488355328/\n+m<=140737488355328 then some (.ms N 0 (n+m) s,[(id,.gone),(N,.cells (qJ C off (n*s)++y))]) else none
   | none=>none
 | .mc id off n c z=>match JE h id with
   | some C=>if z=s/\off+n*s<=C.length/\(n+m)*b<=140737488355328/\n+m<=140737488355328 then
    (if n+m<=c then (if off+(n+m)*s<=C.length then some (.mc id off (n+m) c s,[(id,.cells (splice C (off+n*s) y))]) else none)
     else some (.ms N 0 (n+m) s,[(N,.cells (qJ C off (n*s)++y))])) else none
   | none=>none
 | _=>none
theorem UY {p:List HObj} {n z b x m y r w} (h:ee p n z b x m y=some (r,w)):zG (hpf p) n r w z b x m y:=by
 unfold ee at h;unfold zG;split at h
 . split at h
   . rename_i c;cases h;exact ⟨c.1,c.2.1,c.2.2.1,c.2.2.2.1,c.2.2.2.2,rfl,rfl⟩
   cases h
 . split at h
   . rename_i C s;have:=QW s;simp only [this];split at h
     . rename_i c;cases h;exact ⟨c.1,c.2.1,c.2.2.1,c.2.2.2,rfl,rfl⟩
     cases h
   cases h
 . split at h
   . rename_i C s;have:=QW s;simp only [this];split at h
     . rename_i c;refine ⟨c.1,c.2.1,c.2.2.1,c.2.2.2,?_⟩;split at h
       . split at h
         . rename_i u v;cases h;exact .inl ⟨u,v,rfl,rfl⟩
         cases h
       rename_i u;cases h;exact .inr ⟨by omega,rfl,rfl⟩
     cases h
   cases h
 cases h
def mpE (h:List HObj):AV->Option (Nat×List (Value×Nat×AV)×Nat)
 | .mp id=>match h[id]? with
   | some (.mp e c)=>some (id,e,c)
   | _=>none
 | _=>none
theorem VS {p:List HObj} {x id e c} (h:mpE p x=some (id,e,c)):x = .mp id/\hpf p id=some (.mp e c):=by
 unfold mpE at h;split at h
 . split at h
   . rename_i u;cases h;exact ⟨rfl,u⟩
   cases h
 cases h
def cO (k:KS) (x:AV):Option Value:=match x.val with
 | some v=>if eqK k v v=some true then some v else none
 | none=>none
theorem GU {k x v} (h:cO k x=some v):x.val=some v/\eqK k v v=some true:=by
 unfold cO at h;split at h
 . split at h
   . rename_i u j;cases h;exact ⟨u,j⟩
   cases h
 cases h
def sV (x:Opd) (e:Opd->AV) (h:List HObj):Option (AV×List (Nat×HObj)):=some (e x,[])
def Cm (c:Opd) (a:Opd) (b:Opd) (e:Opd->AV) (h:List HObj):Option (AV×List (Nat×HObj)):=match e c with
    | .v (.bool t)=>some (bif t then e a else e b,[])
    | _=>none
def wz (o:BinOp) (x:Opd) (y:Opd) (e:Opd->AV) (h:List HObj):Option (AV×List (Nat×HObj)):=match e x,e y with
    | .v a,.v b=>match jI o a b with
      | some z=>some (.v z,[])
      | none=>none
    | _,_=>none
def sY (o:UnOp) (x:Opd) (e:Opd->AV) (h:List HObj):Option (AV×List (Nat×HObj)):=match e x with
    | .v a=>match unV o a with
      | some z=>some (.v z,[])
      | none=>none
    | _=>none
def wJ (x:Opd) (i:Nat) (e:Opd->AV) (h:List HObj):Option (AV×List (Nat×HObj)):=match e x with
    | .tup v=>match v[i]? with
      | some y=>some (y,[])
      | none=>none
    | _=>none
def sU (a:Bool) (s:Nat) (x:Opd) (e:Opd->AV) (h:List HObj):Option (AV×List (Nat×HObj)):=match e x with
    | .ptr c off=>(po a s off c).map (·,[])
    | .ref id off=>match JE h id with
      | some c=>(po a s off c).map (·,[])
      | none=>none
    | _=>none
def sX (s:Nat) (a:Opd) (x:Opd) (e:Opd->AV) (h:List HObj):Option (AV×List (Nat×HObj)):=match e a with
    | .ref id off=>match JE h id with
      | some c=>if (e x).cells.length=s/\((e x).cells.all AV.isCell)=true/\off+s<=c.length then some (.any,[(id,.cells (splice c off (e x).cells))]) else none
      | none=>none
    | _=>none
def wB (s:Nat) (x:Opd) (e:Opd->AV) (h:List HObj):Option (AV×List (Nat×HObj)):=if (e x).cells.length=s/\((e x).cells.all AV.isCell)=true then some (.ref h.length 0,[(h.length,.cells (e x).cells)]) else none
def sR (z:List AV) (e:Opd->AV) (h:List HObj):Option (AV×List (Nat×HObj)):=some (.ref h.length 0,[(h.length,.cells z)])
def wC (n:Nat) (s:Nat) (z:List AV) (P:List (Nat×Opd)) (e:Opd->AV) (h:List HObj):Option (AV×List (Nat×HObj)):=match qj (hpf h) (P.map fun p=>e p.2) with
    | some (Y,ids)=>if (Y.all fun y=>y.cells.all AV.isCell&&y.cells.all AV.isPure&&(y.cells.length==s))=true then some (.sl true n (QO (zh n z) s ((P.map (·.1)).zip Y)),gones ids) else none
    | none=>none
def wA (z:List AV) (P:List (Nat×Nat×Opd)) (e:Opd->AV) (h:List HObj):Option (AV×List (Nat×HObj)):=if (P.all fun p=>(e p.2.2).cells.all AV.isCell&&((e p.2.2).cells.length==p.2.1))=true then some (.agg (Jv z (P.map fun p=>(p.1,p.2.1,e p.2.2))),[]) else none
def sS (x:Opd) (O:Nat) (e:Opd->AV) (h:List HObj):Option (AV×List (Nat×HObj)):=match e x with
    | .ptr c o=>some (.ptr c (o+O),[])
    | .ref id o=>some (.ref id (o+O),[])
    | _=>none
def wK (a:Bool) (s:Nat) (o:Nat) (x:Opd) (e:Opd->AV) (h:List HObj):Option (AV×List (Nat×HObj)):=match e x with
    | .agg c=>(po a s o c).map (·,[])
    | _=>none
def sT (z:Nat) (x:Opd) (i:Opd) (e:Opd->AV) (h:List HObj):Option (AV×List (Nat×HObj)):=match e x,cL (e i) with
    | .sl _ n c,some j=>if j<n/\c.length=n*z then some (.ptr c (j*z),[]) else none
    | .ms id off n s,some j=>if j<n/\s=z then some (.ref id (off+j*z),[]) else none
    | .mc id off n _ s,some j=>if j<n/\s=z then some (.ref id (off+j*z),[]) else none
    | _,_=>none
def wL (l:Nat) (s:Nat) (x:Opd) (i:Opd) (e:Opd->AV) (h:List HObj):Option (AV×List (Nat×HObj)):=match e x,cL (e i) with
    | .ptr c o,some j=>if j<l then some (.ptr c (o+j*s),[]) else none
    | .ref id o,some j=>if j<l then some (.ref id (o+j*s),[]) else none
    | _,_=>none
def wM (l:Nat) (a:Bool) (s:Nat) (x:Opd) (i:Opd) (e:Opd->AV) (h:List HObj):Option (AV×List (Nat×HObj)):=match e x,cL (e i) with
    | .agg c,some j=>if j<l then (po a s (j*s) c).map (·,[]) else none
    | _,_=>none
def Cj (x:Opd) (i:Opd) (e:Opd->AV) (h:List HObj):Option (AV×List (Nat×HObj)):=match e x,cL (e i) with
    | .v (.string s),some j=>match s[j]? with
      | some b=>some (.v (.int .u8 b.toNat),[])
      | none=>none
    | _,_=>none
def wO (x:Opd) (e:Opd->AV) (h:List HObj):Option (AV×List (Nat×HObj)):=match e x with
    | .sl _ n _=>some (I n,[])
    | .ms _ _ n _=>some (I n,[])
    | .mc _ _ n _ _=>some (I n,[])
    | _=>none
def wR (x:Opd) (e:Opd->AV) (h:List HObj):Option (AV×List (Nat×HObj)):=match e x with
    | .v (.string s)=>some (I s.size,[])
    | _=>none
def wQ (x:Opd) (E:Opd->AV) (h:List HObj):Option (AV×List (Nat×HObj)):=match mpE h (E x) with
    | some (_,e,_)=>some (I e.length,[])
    | none=>none
def wV (s:Nat) (x:Opd) (l:Option Opd) (i:Option Opd) (h:Option Opd) (e:Opd->AV) (p:List HObj):Option (AV×List (Nat×HObj)):=(qi0 s (e x) (l.map e) (i.map e) (h.map e)).map (·,[])
def Cp (x:Opd) (L:Option Opd) (i:Option Opd) (e:Opd->AV) (p:List HObj):Option (AV×List (Nat×HObj)):=match e x with
    | .v (.string s)=>match UQ 0 (L.map e),UQ s.size (i.map e) with
      | some l,some h=>if l<=h/\h<=s.size then some (.v (.string (s.extract l h)),[]) else none
      | _,_=>none
    | _=>none
def wy (s:Nat) (b:Nat) (x:Opd) (y:Opd) (e:Opd->AV) (h:List HObj):Option (AV×List (Nat×HObj)):=match elems (hpf h) s (e y) with
    | some (m,Y)=>if (Y.all AV.isPC)=true then ee h h.length s b (e x) m Y else none
    | none=>none
def Ci (s:Nat) (x:Opd) (y:Opd) (e:Opd->AV) (h:List HObj):Option (AV×List (Nat×HObj)):=match elems (hpf h) s (e y) with
    | some (m,Y)=>if (Y.all AV.isPC)=true then (match e x with
      | .ms id off n z=>match JE h id with
        | some c=>if z=s/\off+n*s<=c.length then some (I (Nat.min m n:Nat),[(id,.cells (splice c off (Y.take (Nat.min m n*s))))]) else none
        | none=>none
      | .mc id off n _ z=>match JE h id with
        | some c=>if z=s/\off+n*s<=c.length then some (I (Nat.min m n:Nat),[(id,.cells (splice c off (Y.take (Nat.min m n*s))))]) else none
        | none=>none
      | _=>none) else none
    | none=>none
def wT (s:Nat) (b:Nat) (z:List AV) (n:Opd) (c:Opd) (e:Opd->AV) (h:List HObj):Option (AV×List (Nat×HObj)):=match vz (e n),vz (e c) with
    | some k,some K=>if k=K/\k*b<=140737488355328/\k<=140737488355328/\z.length=s then some (.ms h.length 0 k s,[(h.length,.cells (zh k z))]) else none
    | _,_=>none
def wE (k:IntKind) (x:Opd) (e:Opd->AV) (h:List HObj):Option (AV×List (Nat×HObj)):=match e x with
    | .v (.int _ n)=>some (.v (.int k (k.wrap n)),[])
    | _=>none
def sW (m:Bool) (x:Opd) (y:Opd) (e:Opd->AV) (h:List HObj):Option (AV×List (Nat×HObj)):=match e x,e y with
    | .v (.int k a),.v (.int _ b)=>some (.v (.int k (bif m then (if b>a then b else a) else (if b<a then b else a))),[])
    | _,_=>none
def Cl (x:Opd) (e:Opd->AV) (h:List HObj):Option (AV×List (Nat×HObj)):=match e x with
    | .ptr c o=>some (.ptr c o,[])
    | .ref id o=>some (.ref id o,[])
    | .fn (.func f) X y=>some (.fn (.func f) X y,[])
    | _=>none
def wS (f:Fn) (first:List Opd) (c:List Opd) (e:Opd->AV) (h:List HObj):Option (AV×List (Nat×HObj)):=some (.fn f (first.map e) (c.map e),[])
def wD (x:Opd) (e:Opd->AV) (h:List HObj):Option (AV×List (Nat×HObj)):=match e x with
    | .sl f n _=>if f=true then some (I n,[]) else none
    | .mc _ _ _ c _=>some (I c,[])
    | _=>none
def Ch (u:Nat) (z:List AV) (x:Opd) (e:Opd->AV) (h:List HObj):Option (AV×List (Nat×HObj)):=match e x with
    | .ms id off n s=>match JE h id with
      | some c=>if s=u/\off+n*u<=c.length then some (.any,[(id,.cells (splice c off (zh n z)))]) else none
      | none=>none
    | .mc id off n _ s=>match JE h id with
      | some c=>if s=u/\off+n*u<=c.length then some (.any,[(id,.cells (splice c off (zh n z)))]) else none
      | none=>none
    | _=>none
def PP (s:Nat) (b:Nat) (z:List AV) (x:Opd) (k:Opd) (e:Opd->AV) (h:List HObj):Option (AV×List (Nat×HObj)):=match vz (e k) with
    | some m=>ee h h.length s b (e x) m (zh m z)
    | none=>none
def Co (s:Nat) (L:Nat) (x:Opd) (o:Option Opd) (i:Option Opd) (u:Option Opd) (e:Opd->AV) (p:List HObj):Option (AV×List (Nat×HObj)):=match e x with
    | .ref id off=>match JE p id,UQ 0 (o.map e),UQ L (i.map e),UQ L (u.map e) with
      | some c,some l,some h,some m=>if l<=h/\h<=m/\m<=L/\off+L*s<=c.length/\(u.isNone || i.isSome) then some (.mc id (off+l*s) (h - l) (m - l) s,[]) else none
      | _,_,_,_=>none
    | .ptr c off=>match UQ 0 (o.map e),UQ L (i.map e) with
      | some l,some h=>if u.isNone/\l<=h/\h<=L/\off+L*s<=c.length then some (.sl (decide (h=L)) (h - l) (qJ c (off+l*s) ((h - l)*s)),[]) else none
      | _,_=>none
    | _=>none
def Ck  (e:Opd->AV) (h:List HObj):Option (AV×List (Nat×HObj)):=some (.mp h.length,[(h.length,.mp [] 0)])
def wN (K:KS) (m:Opd) (k:Opd) (v:Opd) (u:Opd->AV) (h:List HObj):Option (AV×List (Nat×HObj)):=match mpE h (u m),cO K (u k) with
    | some (id,E,c),some j=>match zO K j E 0 with
      | some (some i)=>match E[i]? with
        | some e=>some (.any,[(id,.mp (E.set i (e.1,e.2.1,u v)) c)])
        | none=>none
      | some none=>some (.any,[(id,.mp (E++[(j,c,u v)]) (c+1))])
      | none=>none
    | _,_=>none
def wP (K:KS) (z:AV) (o:Bool) (m:Opd) (k:Opd) (v:Opd->AV) (h:List HObj):Option (AV×List (Nat×HObj)):=match mpE h (v m),cO K (v k) with
    | some (id,E,c),some u=>match zO K u E 0 with
      | some (some i)=>match E[i]? with
        | some e=>some (bif o then .tup [e.2.2,B true] else e.2.2,[])
        | none=>none
      | some none=>some (bif o then .tup [z,B false] else z,[])
      | none=>none
    | _,_=>none
def wU (K:KS) (z:AV) (m:Opd) (k:Opd) (v:Opd->AV) (h:List HObj):Option (AV×List (Nat×HObj)):=match mpE h (v m),cO K (v k) with
    | some (id,E,c),some u=>match zO K u E 0 with
      | some (some i)=>match E[i]? with
        | some e=>some (.tup [e.2.2,I e.2.1],[])
        | none=>none
      | some none=>some (.tup [z,I c],[(id,.mp (E++[(u,c,z)]) (c+1))])
      | none=>none
    | _,_=>none
def wH (m:Opd) (s:Opd) (v:Opd) (u:Opd->AV) (h:List HObj):Option (AV×List (Nat×HObj)):=match mpE h (u m),vz (u s) with
    | some (id,E,c),some b=>match E.findIdx? (fun x=>x.2.1==b) with
      | some i=>match E[i]? with
        | some e=>if e.2.1=b then some (.any,[(id,.mp (E.set i (e.1,e.2.1,u v)) c)]) else none
        | none=>none
      | none=>none
    | _,_=>none
def wF (K:KS) (m:Opd) (k:Opd) (E:Opd->AV) (h:List HObj):Option (AV×List (Nat×HObj)):=match mpE h (E m),cO K (E k) with
    | some (id,e,c),some v=>match zO K v e 0 with
      | some (some i)=>some (.any,[(id,.mp (e.eraseIdx i) c)])
      | some none=>some (.any,[])
      | none=>none
    | _,_=>none
def wG (n:Bool) (k:KS) (x:Opd) (y:Opd) (e:Opd->AV) (h:List HObj):Option (AV×List (Nat×HObj)):=match (e x).val,(e y).val with
    | some a,some b=>match eqK k a b with
      | some z=>some (B (n != z),[])
      | none=>none
    | _,_=>none
def Dh:List AV->Option (List UInt8)
 | []=>some []
 | .v (.int .u8 n)::r=>if 0<=n/\n<=255 then (Dh r).map (UInt8.ofNat n.toNat::·) else none
 | _=>none
theorem Di:∀ {C:List AV} {b:List UInt8},Dh C=some b->C=QV b
 | [],b,h=>by simp [Dh] at h;subst h;rfl
 | c::C,b,h=>by
   unfold Dh at h;split at h
   . rename_i q;cases q
   . rename_i n r q;cases q;split at h
     . rename_i v;simp only [RL] at h;obtain ⟨l,u,rfl⟩:=h;have e:((UInt8.ofNat n.toNat).toNat:Int)=n:=by rw [UInt8.toNat_ofNat',qoC (by omega)];omega
       rw [Di u];show _=AV.v (.int .u8 ((UInt8.ofNat n.toNat).toNat:Int))::QV l;rw [e]
     cases h
   cases h
def Cg (x:Opd) (e:Opd->AV) (h:List HObj):Option (AV×List (Nat×HObj)):=match elems (hpf h) 1 (e x) with
    | some (n,c)=>match Dh c with
      | some b=>if b.length=n then some (.v (.string ⟨b.toArray⟩),[]) else none
      | none=>none
    | none=>none
def Cn (x:Opd) (e:Opd->AV) (h:List HObj):Option (AV×List (Nat×HObj)):=match e x with
    | .v (.string s)=>some (.sl false s.size (QV s.data.toList),[])
    | _=>none
def PO (b:Nat) (x:Opd) (y:Opd) (e:Opd->AV) (h:List HObj):Option (AV×List (Nat×HObj)):=match e y with
    | .v (.string s)=>ee h h.length 1 b (e x) s.size (QV s.data.toList)
    | _=>none
def ZB (o:AOp) (e:Opd->AV) (h:List HObj):Option (AV×List (Nat×HObj)) :=
 match o with
 | .mv _ x=>sV x e h
 | .pick _ c a b=>Cm c a b e h
 | .bin _ O x y=>wz O x y e h
 | .un _ O x=>sY O x e h
 | .ext _ x i=>wJ x i e h
 | .ld _ agg z x=>sU agg z x e h
 | .st z a x=>sX z a x e h
 | .box _ z x=>wB z x e h
 | .al _ zero=>sR zero e h
 | .bsl _ n z zero p=>wC n z zero p e h
 | .bld _ zero p=>wA zero p e h
 | .fa _ x off=>sS x off e h
 | .fld _ agg z off x=>wK agg z off x e h
 | .ia _ z x i=>sT z x i e h
 | .iaa _ l z x i=>wL l z x i e h
 | .idx _ l agg z x i=>wM l agg z x i e h
 | .ids _ x i=>Cj x i e h
 | .len _ x=>wO x e h
 | .lns _ x=>wR x e h
 | .lnm _ x=>wQ x e h
 | .slc _ z x L j u=>wV z x L j u e h
 | .sls _ x L j=>Cp x L j e h
 | .app _ z bytes x y=>wy z bytes x y e h
 | .cpy _ z x y=>Ci z x y e h
 | .mks _ z bytes zero n c=>wT z bytes zero n c e h
 | .cnv _ k x=>wE k x e h
 | .mx _ M x y=>sW M x y e h
 | .nilc _ x=>Cl x e h
 | .mkf _ f first C=>wS f first C e h
 | .cap _ x=>wD x e h
 | .clr z zero x=>Ch z zero x e h
 | .appz _ z bytes zero x k=>PP z bytes zero x k e h
 | .slp _ z l x L j u=>Co z l x L j u e h
 | .mkm _=>Ck  e h
 | .ins K m k v=>wN K m k v e h
 | .lku _ K zero ok m k=>wP K zero ok m k e h
 | .mpe _ K zero m k=>wU K zero m k e h
 | .est m s v=>wH m s v e h
 | .del K m k=>wF K m k e h
 | .eqk _ neg K x y=>wG neg K x y e h
 | .b2s _ x=>Cg x e h
 | .s2b _ x=>Cn x e h
 | .apps _ bytes x y=>PO bytes x y e h
 | _=>none
theorem Vk {x:AV} (h:cL x=some n):∃ k,x = .v (.int k (n:Int)):=by
 unfold cL at h;split at h
 . cases h;exact ⟨_,rfl⟩
 cases h
theorem Rr {l:List AV} (h:(l.all AV.isPC)=true) (k:Nat):((l.take k).all AV.isPC)=true:=by rw [LL] at *;exact fun x u=>h x (qnw u)
theorem EG {P:Program} {o:AOp} {E:Opd->AV} {A:List HObj} {r:AV} {ws:List (Nat×HObj)} (h:ZB o E A=some (r,ws)):o.sem P E (hpf A) A.length r ws:=by
 cases o with
 | mv=>simp only [ZB,sV] at h;cases h;exact ⟨rfl,rfl⟩
 | pick d c a b=>simp only [ZB,Cm] at h;simp only [AOp.sem];generalize E c=uc at h ⊢;split at h <;> cases h;exact ⟨rfl,rfl⟩
 | bin d op x y =>
   simp only [ZB,wz] at h;simp only [AOp.sem];generalize E x=g at h ⊢;generalize E y=uy at h ⊢;split at h
   . split at h
     . rename_i T;cases h;exact ⟨_,T,rfl,rfl⟩
     cases h
   cases h
 | un d op x =>
   simp only [ZB,sY] at h;simp only [AOp.sem];generalize E x=g at h ⊢;split at h
   . split at h
     . rename_i T;cases h;exact ⟨_,T,rfl,rfl⟩
     cases h
   cases h
 | ext d x i =>
   simp only [ZB,wJ] at h;simp only [AOp.sem];generalize E x=g at h ⊢;split at h
   . split at h
     . rename_i T;cases h;exact ⟨_,T,rfl,rfl⟩
     cases h
   cases h
 | ld d agg Q x =>
   simp only [ZB,sU] at h;simp only [AOp.sem,ZM];generalize E x=g at h ⊢;split at h
   . simp only [RL] at h;obtain ⟨y,v,j⟩:=h;cases j;exact ⟨rfl,Ga v⟩
   . split at h
     . rename_i C s;simp only [RL] at h;obtain ⟨y,v,j⟩:=h;cases j;simp only [QW s];exact ⟨trivial,Ga v⟩
     cases h
   cases h
 | st Q a x =>
   simp only [ZB,sX] at h;simp only [AOp.sem,Ux];generalize E a=ua at h ⊢;generalize E x=g at h ⊢;split at h
   . split at h
     . rename_i C s;split at h
       . rename_i u;cases h;simp only [QW s];exact ⟨u.1,u.2.1,u.2.2,trivial,trivial⟩
       cases h
     cases h
   cases h
 | box=>simp only [ZB,wB] at h;split at h <;> first | (rename_i u;cases h;exact ⟨u.1,u.2,rfl,rfl⟩) | cases h
 | al=>simp only [ZB,sR] at h;cases h;exact ⟨rfl,rfl⟩
 | bsl =>
   simp only [ZB,wC] at h;split at h
   . rename_i Y ids x0;split at h
     . rename_i u;cases h;exact ⟨Y,ids,x0,u,.inl ⟨rfl,rfl⟩⟩
     cases h
   cases h
 | bld=>simp only [ZB,wA] at h;split at h <;> first | (rename_i u;cases h;exact ⟨u,rfl,rfl⟩) | cases h
 | fa d x off=>simp only [ZB,sS] at h;simp only [AOp.sem];generalize E x=g at h ⊢;split at h <;> cases h <;> exact ⟨rfl,rfl⟩
 | fld d agg Q off x =>
   simp only [ZB,wK] at h;simp only [AOp.sem];generalize E x=g at h ⊢;split at h
   . simp only [RL] at h;obtain ⟨y,v,j⟩:=h;cases j;exact ⟨Ga v,rfl⟩
   cases h
 | ia d Q x i =>
   simp only [ZB,sT] at h;simp only [AOp.sem];generalize E x=g at h ⊢;generalize E i=ui at h ⊢;split at h
   . rename_i t;obtain ⟨k,q⟩:=Vk t;split at h
     . rename_i u;cases h;rw [q];exact ⟨by omega,by simp,rfl,u.2⟩
     cases h
   . rename_i t;obtain ⟨k,q⟩:=Vk t;split at h
     . rename_i u;cases h;rw [q];exact ⟨by omega,u.2,by simp,rfl⟩
     cases h
   . rename_i t;obtain ⟨k,q⟩:=Vk t;split at h
     . rename_i u;cases h;rw [q];exact ⟨by omega,u.2,by simp,rfl⟩
     cases h
   cases h
 | iaa d ln Q x i =>
   simp only [ZB,wL] at h;simp only [AOp.sem];generalize E x=g at h ⊢;generalize E i=ui at h ⊢;split at h
   . rename_i t;obtain ⟨k,q⟩:=Vk t;split at h
     . rename_i u;cases h;rw [q];exact ⟨by omega,by simp,rfl⟩
     cases h
   . rename_i t;obtain ⟨k,q⟩:=Vk t;split at h
     . rename_i u;cases h;rw [q];exact ⟨by omega,by simp,rfl⟩
     cases h
   cases h
 | idx d ln agg Q x i =>
   simp only [ZB,wM] at h;simp only [AOp.sem];generalize E x=g at h ⊢;generalize E i=ui at h ⊢;split at h
   . rename_i t;obtain ⟨k,q⟩:=Vk t;split at h
     . rename_i u;simp only [RL] at h;obtain ⟨y,v,j⟩:=h;cases j;rw [q];exact ⟨by omega,Ga v,rfl⟩
     cases h
   cases h
 | ids d x i =>
   simp only [ZB,Cj] at h;simp only [AOp.sem];generalize E x=g at h ⊢;generalize E i=ui at h ⊢;split at h
   . rename_i t;obtain ⟨k,q⟩:=Vk t;split at h
     . rename_i b p;cases h;rw [q];exact ⟨by omega,⟨b,by simpa using p,rfl⟩,rfl⟩
     cases h
   cases h
 | len d x=>simp only [ZB,wO] at h;simp only [AOp.sem];generalize E x=g at h ⊢;split at h <;> cases h <;> exact ⟨rfl,rfl⟩
 | lns d x=>simp only [ZB,wR] at h;simp only [AOp.sem];generalize E x=g at h ⊢;split at h <;> cases h <;> exact ⟨rfl,rfl⟩
 | lnm d x =>
   simp only [ZB,wQ] at h;simp only [AOp.sem];generalize E x=g at h ⊢;split at h
   . rename_i hm;obtain ⟨v,j⟩:=VS hm;cases h;simp only [v,j]
     first | exact ⟨rfl,rfl⟩ | trivial | simp
   cases h
 | slc =>simp only [ZB,wV,RL] at h;obtain ⟨y,v,j⟩:=h;cases j;exact fR v
 | sls d x lo t =>
   simp only [ZB,Cp] at h;simp only [AOp.sem];generalize E x=g at h ⊢;split at h
   . split at h
     . rename_i l X Z L;split at h
       . rename_i u;cases h;exact ⟨l,X,QZ Z,QZ L,u.1,u.2,rfl,rfl⟩
       cases h
     cases h
   cases h
 | app d Q bytes x y =>
   simp only [ZB,wy] at h;simp only [AOp.sem];generalize E x=g at h ⊢;split at h
   . rename_i m Y w;split at h
     . rename_i u;exact ⟨m,Y,w,u,UY h⟩
     cases h
   cases h
 | cpy d Q x y =>
   simp only [ZB,Ci] at h;simp only [AOp.sem];generalize E x=g at h ⊢;split at h
   . rename_i m Y w;split at h
     . rename_i u;split at h
       . split at h
         . rename_i C s;split at h
           . rename_i p;cases h;exact ⟨m,Y,C,w,Rr u _,QW s,p.1,p.2,rfl,rfl⟩
           cases h
         cases h
       . split at h
         . rename_i C s;split at h
           . rename_i p;cases h;exact ⟨m,Y,C,w,Rr u _,QW s,p.1,p.2,rfl,rfl⟩
           cases h
         cases h
       cases h
     cases h
   cases h
 | mks =>
   simp only [ZB,wT] at h;simp only [AOp.sem];split at h
   . rename_i k k' v j;split at h
     . rename_i u;cases h;obtain ⟨rfl,V,c2,c3⟩:=u;exact ⟨k,Vo v,Vo j,V,c2,c3,rfl,rfl⟩
     cases h
   cases h
 | cnv d k x=>simp only [ZB,wE] at h;simp only [AOp.sem];generalize E x=g at h ⊢;split at h <;> cases h;exact ⟨rfl,rfl⟩
 | mx d m x y=>simp only [ZB,sW] at h;simp only [AOp.sem];generalize E x=g at h ⊢;generalize E y=uy at h ⊢;split at h <;> cases h;exact ⟨rfl,rfl⟩
 | nilc d x=>simp only [ZB,Cl] at h;simp only [AOp.sem];generalize E x=g at h ⊢;split at h <;> cases h <;> exact ⟨rfl,rfl⟩
 | mkf=>simp only [ZB,wS] at h;cases h;exact ⟨rfl,rfl⟩
 | cap d x =>
   simp only [ZB,wD] at h;simp only [AOp.sem];generalize E x=g at h ⊢;split at h
   . split at h
     . rename_i u;cases h;exact ⟨u,rfl,rfl⟩
     cases h
   . cases h;exact ⟨rfl,rfl⟩
   cases h
 | clr Q z x =>
   simp only [ZB,Ch] at h;simp only [AOp.sem];generalize E x=g at h ⊢;split at h
   . split at h
     . rename_i C s;split at h
       . rename_i u;cases h;exact ⟨C,QW s,u.1,u.2,rfl,rfl⟩
       cases h
     cases h
   . split at h
     . rename_i C s;split at h
       . rename_i u;cases h;exact ⟨C,QW s,u.1,u.2,rfl,rfl⟩
       cases h
     cases h
   cases h
 | appz =>
   simp only [ZB,PP] at h;simp only [AOp.sem];split at h
   . rename_i m hm;exact ⟨m,Vo hm,UY h⟩
   cases h
 | slp d Q ln x lo t J =>
   simp only [ZB,Co] at h;simp only [AOp.sem];generalize E x=g at h ⊢;split at h
   . split at h
     . rename_i C l X m s Z L hm;split at h
       . rename_i u;cases h;obtain ⟨V,c2,c3,c4,c5⟩:=u;simp only [QW s];refine ⟨l,X,m,QZ Z,QZ L,?_,V,c2,c3,c4,rfl,trivial⟩;have:=QZ hm;cases J with
         | none=>exact this
         | some y=>simp at c5;exact ⟨this,by simpa using c5⟩
       cases h
     cases h
   . split at h
     . rename_i l X Z L;split at h
       . rename_i u;cases h;obtain ⟨V,c2,c3,c4⟩:=u;exact ⟨l,X,QZ Z,QZ L,by simpa using V,c2,c3,c4,rfl,rfl⟩
       cases h
     cases h
   cases h
 | mkm=>simp only [ZB,Ck] at h;cases h;exact ⟨rfl,rfl⟩
 | ins =>
   simp only [ZB,wN] at h;simp only [AOp.sem];split at h
   . rename_i id D O N hm q;obtain ⟨v,j⟩:=VS hm;obtain ⟨K,M⟩:=GU q;simp only [v,j];split at h
     . rename_i i f;split at h
       . rename_i e R;cases h;exact ⟨N,K,M,rfl,.inl ⟨i,e,f,R,rfl⟩⟩
       cases h
     . rename_i f;cases h;exact ⟨N,K,M,rfl,.inr ⟨f,rfl⟩⟩
     cases h
   cases h
 | lku =>
   simp only [ZB,wP] at h;simp only [AOp.sem];split at h
   . rename_i id D O N hm q;obtain ⟨v,j⟩:=VS hm;obtain ⟨K,M⟩:=GU q;simp only [v,j];split at h
     . rename_i i f;split at h
       . rename_i e R;cases h;exact ⟨N,K,M,rfl,.inl ⟨i,e,f,R,rfl⟩⟩
       cases h
     . rename_i f;cases h;exact ⟨N,K,M,rfl,.inr ⟨f,rfl⟩⟩
     cases h
   cases h
 | mpe =>
   simp only [ZB,wU] at h;simp only [AOp.sem];split at h
   . rename_i id D O N hm q;obtain ⟨v,j⟩:=VS hm;obtain ⟨K,M⟩:=GU q;simp only [v,j];split at h
     . rename_i i f;split at h
       . rename_i e R;cases h;exact ⟨N,K,M,.inl ⟨i,e,f,R,rfl,rfl⟩⟩
       cases h
     . rename_i f;cases h;exact ⟨N,K,M,.inr ⟨f,rfl,rfl⟩⟩
     cases h
   cases h
 | est =>
   simp only [ZB,wH] at h;simp only [AOp.sem];split at h
   . rename_i id D O b hm q;obtain ⟨v,j⟩:=VS hm;simp only [v,j];split at h
     . rename_i i f;split at h
       . rename_i e R;split at h
         . rename_i p;cases h;exact ⟨i,e,by rw [p];exact Vo q,by rw [p];exact f,R,rfl,rfl⟩
         cases h
       cases h
     cases h
   cases h
 | del =>
   simp only [ZB,wF] at h;simp only [AOp.sem];split at h
   . rename_i id D O N hm q;obtain ⟨v,j⟩:=VS hm;obtain ⟨K,M⟩:=GU q;simp only [v,j];split at h
     . rename_i i f;cases h;exact ⟨N,K,M,rfl,.inl ⟨i,f,rfl⟩⟩
     . rename_i f;cases h;exact ⟨N,K,M,rfl,.inr ⟨f,rfl⟩⟩
     cases h
   cases h
 | eqk =>
   simp only [ZB,wG] at h;simp only [AOp.sem];split at h
   . rename_i a b ha p;split at h
     . rename_i z T;cases h;exact ⟨a,b,z,ha,p,T,rfl,rfl⟩
     cases h
   cases h
 | b2s d x =>
   simp only [ZB,Cg] at h;simp only [AOp.sem];split at h
   . rename_i n C w;split at h
     . rename_i bs p;split at h
       . rename_i hn;cases h;exact ⟨bs,by rw [w,hn,Di p],rfl,rfl⟩
       cases h
     cases h
   cases h
 | s2b d x=>simp only [ZB,Cn] at h;simp only [AOp.sem];generalize E x=g at h ⊢;split at h <;> cases h;exact ⟨rfl,rfl⟩
 | apps d bytes x y =>
   simp only [ZB,PO] at h;simp only [AOp.sem];generalize E y=uy at h ⊢;split at h
   . exact UY h
   cases h
 | _=>simp [ZB] at h
abbrev FrL:=List (Nat×AV)
abbrev K1:=FrL->List HObj->Prop
def fnP (n:Nat) (k:Nat->Prop):Prop:=Nat.rec (motive:=fun _=>Prop) (k 0) (fun m _=>k (Nat.succ m)) n
theorem qC (n:Nat) (k:Nat->Prop):fnP n k=k n:=by cases n <;> rfl
def fiP (z:Int) (k:Int->Prop):Prop:=Int.rec (motive:=fun _=>Prop) (fun n=>fnP n fun n=>k (.ofNat n)) (fun n=>fnP n fun n=>k (.negSucc n)) z
theorem FU (z:Int) (k:Int->Prop):fiP z k=k z:=by
 cases z with
 | ofNat n=>exact qC n fun n=>k (.ofNat n)
 | negSucc n=>exact qC n fun n=>k (.negSucc n)
def fbP (b:Bool) (k:Bool->Prop):Prop:=Bool.rec (motive:=fun _=>Prop) (k false) (k true) b
theorem jk (b:Bool) (k:Bool->Prop):fbP b k=k b:=by cases b <;> rfl
def flP {α:Type} (l:List α) (k:List α->Prop):Prop:=List.rec (motive:=fun _=>(List α->Prop)->Prop) (fun k=>k []) (fun a _ i k=>i fun t=>k (a::t)) l k
theorem zM {α:Type}:∀ (l:List α) (k:List α->Prop),flP l k=k l
 | [],k=>rfl
 | a::l,k=>zM l fun t=>k (a::t)
def fmP {α:Type} (f:α->(α->Prop)->Prop) (l:List α) (k:List α->Prop):Prop:=List.rec (motive:=fun _=>(List α->Prop)->Prop) (fun k=>k []) (fun a _ i k=>f a fun a=>i fun t=>k (a::t)) l k
theorem QI {α:Type} {f:α->(α->Prop)->Prop} (h:∀ a k,f a k=k a):∀ (l:List α) (k:List α->Prop),fmP f l k=k l
 | [],k=>rfl
 | a::l,k=>by show (f a fun a=>fmP f l fun t=>k (a::t))=_;rw [h,QI h l]
def fsP (s:ByteArray) (k:ByteArray->Prop):Prop:=flP s.data.toList fun l=>k ⟨⟨l⟩⟩
theorem oZ (s:ByteArray) (k:ByteArray->Prop):fsP s k=k s:=by unfold fsP;rw [zM]
def fkP (x:IntKind) (k:IntKind->Prop):Prop:=IntKind.rec (motive:=fun _=>Prop) (k .i8) (k .i16) (k .i32) (k .i64) (k .u8) (k .u16) (k .u32) (k .u64) x
theorem oU (x:IntKind) (k:IntKind->Prop):fkP x k=k x:=by cases x <;> rfl
def fvP (x:Value) (k:Value->Prop):Prop:=match x with
 | .int K n=>fkP K fun K=>fiP n fun n=>k (.int K n)
 | .bool b=>fbP b fun b=>k (.bool b)
 | .string s=>fsP s fun s=>k (.string s)
 | x=>k x
theorem bG (x:Value) (k:Value->Prop):fvP x k=k x:=by cases x <;> simp only [fvP,oU,FU,jk,oZ]
def faP:Nat->AV->(AV->Prop)->Prop
 | 0=>fun x k=>k x
 | d+1=>fun x k=>match x with
   | .v y=>fvP y fun y=>k (.v y)
   | .sl f n C=>fbP f fun f=>fnP n fun n=>fmP (faP d) C fun C=>k (.sl f n C)
   | .agg C=>fmP (faP d) C fun C=>k (.agg C)
   | .tup C=>fmP (faP d) C fun C=>k (.tup C)
   | .ptr C o=>fnP o fun o=>fmP (faP d) C fun C=>k (.ptr C o)
   | .ref i o=>fnP i fun i=>fnP o fun o=>k (.ref i o)
   | .ms i o n z=>fnP i fun i=>fnP o fun o=>fnP n fun n=>fnP z fun z=>k (.ms i o n z)
   | .mc i o n c z=>fnP i fun i=>fnP o fun o=>fnP n fun n=>fnP c fun c=>fnP z fun z=>k (.mc i o n c z)
   | .fn f u b=>fmP (faP d) u fun u=>fmP (faP d) b fun b=>k (.fn f u b)
   | .mp i=>fnP i fun i=>k (.mp i)
   | .yl i=>fnP i fun i=>k (.yl i)
   | .any=>k .any
theorem QR:∀ (d:Nat) (x:AV) (k:AV->Prop),faP d x k=k x
 | 0,x,k=>rfl
 | d+1,x,k=>by cases x <;> simp only [faP,bG,jk,qC,QI (QR d)]
def foP (x:HObj) (k:HObj->Prop):Prop:=match x with
 | .cells C=>fmP (faP 4) C fun C=>k (.cells C)
 | .mp E c=>fmP (fun e k=>fnP e.2.1 fun b=>faP 4 e.2.2 fun x=>k (e.1,b,x)) E fun E=>fnP c fun c=>k (.mp E c)
 | .it m s l c=>fnP m fun m=>fnP s fun s=>fmP fnP l fun l=>fnP c fun c=>k (.it m s l c)
 | x=>k x
theorem bD (x:HObj) (k:HObj->Prop):foP x k=k x:=by
 cases x with
 | cells C=>simp only [foP,QI (QR 4)]
 | mp e c=>simp only [foP];rw [QI (fun a k=>by simp only [qC,QR]),qC]
 | it m s l c=>simp only [foP,qC,QI qC]
 | _=>rfl
def NM (f:FrL) (t:Nat) (k:AV->Prop):Prop:=List.rec (motive:=fun _=>Prop) (k .any) (fun p _ i=>Prod.rec (motive:=fun _=>Prop) (fun j x=>Bool.rec (motive:=fun _=>Prop) i (k x) (Nat.beq j t)) p) f
theorem zV:∀ (fr:FrL) (t:Nat) (k:AV->Prop),NM fr t k=k (get fr t)
 | [],t,k=>rfl
 | (j,x)::r,t,k=>by
   show Bool.rec (motive:=fun _=>Prop) (NM r t k) (k x) (Nat.beq j t)=_;rw [get,zV r t k];by_cases h:j=t
   . subst h;rw [if_pos rfl,qoe]
   have e:Nat.beq j t=false:=by
    cases e:Nat.beq j t with
    | false=>rfl
    | true=>exact absurd (qe e) h
   rw [if_neg h,e]
abbrev Op1:=FrL->(AV->Prop)->Prop
def oT (t:Nat):Op1:=fun f k=>NM f t k
def oK (x:AV):Op1:=fun _ k=>k x
def qK:Opd->Op1
 | .t n=>oT n
 | .k x=>oK x
theorem qi (o:Opd) (f:FrL) (k:AV->Prop):qK o f k=k (evF (get f) o):=by
 cases o with
 | t n=>exact zV f n k
 | k x=>rfl
def ZQ:List Opd->FrL->(List AV->Prop)->Prop
 | [],_,k=>k []
 | o::O,f,k=>qK o f fun a=>ZQ O f fun l=>k (a::l)
theorem Qj:∀ (O:List Opd) (f:FrL) (k:List AV->Prop),ZQ O f k=k (O.map (evF (get f)))
 | [],f,k=>rfl
 | o::O,f,k=>by rw [ZQ,qi,Qj O];rfl
def XS {α:Type} (l:List α) (i:Nat) (k:α->Prop):Prop:=List.rec (motive:=fun _=>Nat->Prop) (fun _=>False) (fun a _ h i=>Nat.rec (motive:=fun _=>Prop) (k a) (fun j _=>h j) i) l i
theorem zW {α:Type} {k:α->Prop}:∀ {l:List α} {i:Nat},XS l i k->∃ a,l[i]?=some a/\k a
 | [],i,h=>h.elim
 | a::l,0,h=>⟨a,rfl,h⟩
 | a::l,i+1,h=>by have h:XS l i k:=h;obtain ⟨b,u,v⟩:=zW h;exact ⟨b,by simpa using u,v⟩
def cU {α:Type} (l:List α) (i:Nat) (x:α) (k:List α->Prop):Prop :=
 List.rec (motive:=fun _=>Nat->(List α->Prop)->Prop) (fun _ _=>False) (fun a t h i k=>Nat.rec (motive:=fun _=>Prop) (k (x::t)) (fun j _=>h j fun r=>k (a::r)) i) l i k
theorem PV {α:Type} {x:α}:∀ {l:List α} {i:Nat} {k:List α->Prop},cU l i x k->i<l.length/\k (l.set i x)
 | [],i,k,h=>h.elim
 | a::l,0,k,h=>⟨by simp,h⟩
 | a::l,i+1,k,h=>by have h:cU l i x (fun r=>k (a::r)):=h;obtain ⟨u,v⟩:=PV h;exact ⟨by simp;exact u,v⟩
def kI {α:Type} (l:List α) (i:Nat) (k:List α->Prop):Prop:=Nat.rec (motive:=fun _=>List α->Prop) k (fun _ h l=>List.rec (motive:=fun _=>Prop) False (fun _ t _=>h t) l) i l
theorem Gu {α:Type} {k:List α->Prop}:∀ {i:Nat} {l:List α},kI l i k->i<=l.length/\k (l.drop i)
 | 0,l,h=>⟨qmQ _,h⟩
 | i+1,[],h=>h.elim
 | i+1,a::l,h=>by have h:kI l i k:=h;obtain ⟨v,u⟩:=Gu h;exact ⟨by simp;omega,u⟩
def tZ {α:Type} (l:List α) (n:Nat) (k:List α->Prop):Prop:=Nat.rec (motive:=fun _=>List α->(List α->Prop)->Prop) (fun _ k=>k []) (fun _ i l k=>List.rec (motive:=fun _=>Prop) False (fun a t _=>i t fun r=>k (a::r)) l) n l k
theorem SX {α:Type}:∀ {n:Nat} {l:List α} {k:List α->Prop},tZ l n k->n<=l.length/\k (l.take n)
 | 0,l,k,h=>⟨qmQ _,by rw [qoP];exact h⟩
 | n+1,[],k,h=>h.elim
 | n+1,a::l,k,h=>by have h:tZ l n (fun r=>k (a::r)):=h;obtain ⟨v,u⟩:=SX h;exact ⟨by simp;omega,u⟩
def NA (c:List AV) (o m:Nat) (k:List AV->Prop):Prop:=kI c o fun t=>tZ t m k
theorem Jo {k:List AV->Prop} (h:NA c o m k):o+m<=c.length/\k (qJ c o m):=by obtain ⟨z,u⟩:=Gu h;obtain ⟨v,j⟩:=SX u;rw [qnV] at v;exact ⟨by omega,j⟩
def JA (hp:List HObj) (o:HObj) (k:Nat->List HObj->Prop):Prop :=
 List.rec (motive:=fun _=>Nat->(Nat->List HObj->Prop)->Prop) (fun n k=>fnP n fun n=>k n [o]) (fun a _ i n k=>i (Nat.succ n) fun m t=>k m (a::t)) hp 0 k
theorem Sq {o:HObj}:∀ {hp:List HObj} {n:Nat} {k:Nat->List HObj->Prop},
 List.rec (motive:=fun _=>Nat->(Nat->List HObj->Prop)->Prop) (fun n k=>fnP n fun n=>k n [o]) (fun a _ i n k=>i (Nat.succ n) fun m t=>k m (a::t)) hp n k->k (n+hp.length) (hp++[o])
 | [],n,k,h=>by have h:fnP n (fun n=>k n [o]):=h;rw [qC] at h;exact h
 | a::hp,n,k,h=>by have:=Sq (hp:=hp) (n:=Nat.succ n) (k:=fun m t=>k m (a::t)) h;rw [qm5,show n+(hp.length+1)=Nat.succ n+hp.length by omega];exact this
theorem zP {hp:List HObj} {o:HObj} {k:Nat->List HObj->Prop} (h:JA hp o k):k hp.length (qf hp [(hp.length,o)]):=by
 have:=Sq h;rw [qnt] at this;have e:qf hp [(hp.length,o)]=hp++[o]:=by show qz hp hp.length o=_;unfold qz;rw [if_neg (qny _)]
 rw [e];exact this
def VC (h:List HObj) (id:Nat) (k:List AV->Prop):Prop:=XS h id fun o=>match o with
 | .cells c=>k c
 | _=>False
theorem zU {p:List HObj} {id:Nat} {k:List AV->Prop} (h:VC p id k):∃ cs,hpf p id=some (.cells cs)/\k cs:=by
 obtain ⟨o,v,u⟩:=zW h;split at u
 . exact ⟨_,v,u⟩
 exact u.elim
def jf (h:List HObj) (id:Nat) (o:HObj) (k:List HObj->Prop):Prop:=cU h id o k
theorem qT {p:List HObj} {id:Nat} {o:HObj} {k:List HObj->Prop} (h:jf p id o k):k (qf p [(id,o)]):=by
 obtain ⟨u,v⟩:=PV h;have e:qf p [(id,o)]=p.set id o:=by show qz p id o=_;unfold qz;rw [if_pos u]
 rw [e];exact v
def yY (a:AV) (k:IntKind->Int->Prop):Prop:=match a with
 | .v (.int K n)=>k K n
 | _=>False
theorem KT {a:AV} {k:IntKind->Int->Prop} (h:yY a k):∃ K n,a = .v (.int K n)/\k K n:=by
 unfold yY at h;split at h
 . exact ⟨_,_,rfl,h⟩
 exact h.elim
def fc (a:AV) (k:Nat->Prop):Prop:=yY a fun _ z=>Int.rec (motive:=fun _=>Prop) k (fun _=>False) z
theorem Pp {a:AV} {k:Nat->Prop} (h:fc a k):∃ K n,a = .v (.int K ((n:Nat):Int))/\k n:=by
 obtain ⟨K,z,rfl,h⟩:=KT h;cases z with
 | ofNat n=>exact ⟨K,n,rfl,h⟩
 | negSucc n=>exact h.elim
def kNo:IntKind->Nat
 | .i8=>0
 | .i16=>1
 | .i32=>2
 | .i64=>3
 | .u8=>4
 | .u16=>5
 | .u32=>6
 | .u64=>7
theorem Ba {a b:IntKind} (h:kNo a=kNo b):a=b:=by cases a <;> cases b <;> first | rfl | cases h
def ksP (a b:IntKind) (k:Prop):Prop:=Bool.rec (motive:=fun _=>Prop) False k (Nat.beq (kNo a) (kNo b))
theorem bU {a b:IntKind} {k:Prop} (h:ksP a b k):a=b/\k:=by
 unfold ksP at h;cases e:Nat.beq (kNo a) (kNo b) with
 | false=>rw [e] at h;exact h.elim
 | true=>rw [e] at h;exact ⟨Ba (qe e),h⟩
def iI:IntKind->Nat
 | .i8=>127
 | .i16=>32767
 | .i32=>2147483647
 | .i64=>9223372036854775807
 | .u8=>255
 | .u16=>65535
 | .u32=>4294967295
 | .u64=>18446744073709551615
def iH:IntKind->Nat
 | .i8=>128
 | .i16=>32768
 | .i32=>2147483648
 | .i64=>9223372036854775808
 | _=>0
theorem ge (h:n<=iI k):k.wrap (.ofNat n) = .ofNat n:=by have e:Int.ofNat n=(n:Int):=rfl;rw [e];cases k <;> simp only [iI] at h <;> simp only [IntKind.wrap,IntKind.bits,IntKind.signed] <;> simp <;> omega
theorem gc (h:n<iH k):k.wrap (.negSucc n) = .negSucc n:=by
 have e:Int.negSucc n = -(n:Int) - 1:=by rw [qpJ];omega
 rw [e];cases k <;> simp only [iH] at h <;> first | (exact absurd h (Nat.not_lt_zero _)) | (simp only [IntKind.wrap,IntKind.bits,IntKind.signed];simp;omega)
def wrP (K:IntKind) (z:Int) (k:Int->Prop):Prop:=Int.rec (motive:=fun _=>Prop)
 (fun n=>fnP n fun n=>Bool.rec (motive:=fun _=>Prop) (fiP (K.wrap (.ofNat n)) k) (k (.ofNat n)) (Nat.ble n (iI K)))
 (fun n=>fnP n fun n=>Bool.rec (motive:=fun _=>Prop) (fiP (K.wrap (.negSucc n)) k) (k (.negSucc n)) (Nat.blt n (iH K))) z
theorem UJ (K:IntKind) (z:Int) (k:Int->Prop):wrP K z k=k (K.wrap z):=by
 cases z with
 | ofNat n =>
   have q:wrP K (.ofNat n) k=fnP n (fun n=>Bool.rec (motive:=fun _=>Prop) (fiP (K.wrap (.ofNat n)) k) (k (.ofNat n)) (Nat.ble n (iI K))):=rfl;rw [q,qC];cases e:Nat.ble n (iI K) with
   | false=>exact FU _ _
   | true=>show k (.ofNat n)=_;rw [ge (xr e)]
 | negSucc n =>
   have q:wrP K (.negSucc n) k=fnP n (fun n=>Bool.rec (motive:=fun _=>Prop) (fiP (K.wrap (.negSucc n)) k) (k (.negSucc n)) (Nat.blt n (iH K))):=rfl;rw [q,qC];cases e:Nat.blt n (iH K) with
   | false=>exact FU _ _
   | true=>show k (.negSucc n)=_;rw [gc (Nat.lt_of_succ_le (xr e))]
def ltZ (a b:Int) (k:Bool->Prop):Prop:=Int.rec (motive:=fun _=>Prop)
 (fun m=>Int.rec (motive:=fun _=>Prop) (fun n=>fbP (Nat.blt m n) k) (fun _=>k false) b)
 (fun m=>Int.rec (motive:=fun _=>Prop) (fun _=>k true) (fun n=>fbP (Nat.blt n m) k) b) a
theorem Hw (a b:Int) (k:Bool->Prop):ltZ a b k=k (decide (a<b)):=by
 cases a with
 | ofNat m =>
   cases b with
   | ofNat n =>show fbP (Nat.blt m n) k=_;rw [jk];congr 1;rw [qnB,qnO];show Nat.ble (m+1) n=true↔(m:Int)<n;rw [Nat.ble_eq];omega
   | negSucc n =>have e:decide (Int.ofNat m<Int.negSucc n)=false:=qoo (by have:=Int.negSucc_lt_zero n;show ¬ (m:Int)<_;omega);rw [e];rfl
 | negSucc m =>
   cases b with
   | ofNat n =>have e:decide (Int.negSucc m<Int.ofNat n)=true:=qpj (by have:=Int.negSucc_lt_zero m;show _<(n:Int);omega);rw [e];rfl
   | negSucc n =>show fbP (Nat.blt n m) k=_;rw [jk];congr 1;rw [qnB,qnO];show Nat.ble (n+1) m=true↔_;rw [Nat.ble_eq,qpJ,qpJ];omega
def eqZ (a b:Int) (k:Bool->Prop):Prop:=Int.rec (motive:=fun _=>Prop)
 (fun m=>Int.rec (motive:=fun _=>Prop) (fun n=>fbP (Nat.beq m n) k) (fun _=>k false) b)
 (fun m=>Int.rec (motive:=fun _=>Prop) (fun _=>k false) (fun n=>fbP (Nat.beq m n) k) b) a
theorem FP (a b:Int) (k:Bool->Prop):eqZ a b k=k (a==b):=by
 have N:∀ m n:Nat,Nat.beq m n=decide (m=n):=fun m n=>by rw [qnB,qnO,Nat.beq_eq]
 have e:(a==b)=decide (a=b):=rfl;rw [e];cases a with
 | ofNat m =>
   cases b with
   | ofNat n =>show fbP (Nat.beq m n) k=_;rw [jk,N];congr 1;rw [qnB,qnO,qnO];exact ⟨fun h=>by rw [h],fun h=>Int.ofNat.inj h⟩
   | negSucc n=>show k false=_;congr 1
 | negSucc m =>
   cases b with
   | ofNat n=>show k false=_;congr 1
   | negSucc n =>show fbP (Nat.beq m n) k=_;rw [jk,N];congr 1;rw [qnB,qnO,qnO];exact ⟨fun h=>by rw [h],fun h=>Int.negSucc.inj h⟩
def Pb (o:BinOp) (a b:AV) (k:AV->Prop):Prop:=match a,b with
 | .v u,.v w=>match jI o u w with
   | some z=>fvP z fun z=>k (.v z)
   | none=>False
 | _,_=>False
def qgx (o:BinOp) (f:AV->AV->(AV->Prop)->Prop):Prop:=∀ a b k,f a b k->∃ u w z,a = .v u/\b = .v w/\jI o u w=some z/\k (.v z)
theorem AD (o:BinOp):qgx o (Pb o):=fun a b k h=>by
 unfold Pb at h;split at h
 . split at h
   . rename_i z u;rw [bG] at h;exact ⟨_,_,z,rfl,rfl,u,h⟩
   exact h.elim
 exact h.elim
def CS (o:BinOp) (f:IntKind->Int->Int->(AV->Prop)->Prop) (a b:AV) (k:AV->Prop):Prop:=match a with
 | .v (.int K x)=>(match b with
   | .v (.int u y)=>ksP K u (f K x y k)
   | _=>False)
 | a=>Pb o a b k
theorem Jn {o:BinOp} {f:IntKind->Int->Int->(AV->Prop)->Prop} (q:∀ K x y k,f K x y k->∃ z,jI o (.int K x) (.int K y)=some z/\k (.v z)):qgx o (CS o f):=fun a b k h=>by
 unfold CS at h;split at h
 . split at h
   . obtain ⟨rfl,u⟩:=bU h;obtain ⟨z,v,j⟩:=q _ _ _ _ u;exact ⟨_,_,z,rfl,rfl,v,j⟩
   exact h.elim
 exact AD o _ _ _ h
def Wl:BinOp->AV->AV->(AV->Prop)->Prop
 | .add=>CS .add fun K x y k=>wrP K (Int.add x y) fun z=>k (.v (.int K z))
 | .sub=>CS .sub fun K x y k=>wrP K (Int.sub x y) fun z=>k (.v (.int K z))
 | .mul=>CS .mul fun K x y k=>wrP K (Int.mul x y) fun z=>k (.v (.int K z))
 | .lss=>CS .lss fun K x y k=>ltZ x y fun z=>k (.v (.bool z))
 | .gtr=>CS .gtr fun K x y k=>ltZ y x fun z=>k (.v (.bool z))
 | .leq=>CS .leq fun K x y k=>ltZ y x fun z=>fbP (!z) fun z=>k (.v (.bool z))
 | .geq=>CS .geq fun K x y k=>ltZ x y fun z=>fbP (!z) fun z=>k (.v (.bool z))
 | .eql=>CS .eql fun K x y k=>eqZ x y fun z=>k (.v (.bool z))
 | .neq=>CS .neq fun K x y k=>eqZ x y fun z=>fbP (!z) fun z=>k (.v (.bool z))
 | op=>Pb op
theorem IT (o:BinOp):qgx o (Wl o):=by
 cases o with
 | add=>exact Jn fun K x y k h=>by rw [UJ] at h;exact ⟨.int K (K.wrap (x+y)),by simp only [jI,qmA],h⟩
 | sub=>exact Jn fun K x y k h=>by rw [UJ] at h;exact ⟨.int K (K.wrap (x - y)),by simp only [jI,qmA],h⟩
 | mul=>exact Jn fun K x y k h=>by rw [UJ] at h;exact ⟨.int K (K.wrap (x*y)),by simp only [jI,qmA],h⟩
 | lss=>exact Jn fun K x y k h=>by rw [Hw] at h;exact ⟨_,by simp only [jI,qmA],h⟩
 | gtr=>exact Jn fun K x y k h=>by rw [Hw] at h;exact ⟨_,by simp only [jI,qmA],h⟩
 | leq =>
   exact Jn fun K x y k h=>by
    rw [Hw,jk] at h;refine ⟨.bool (decide (x<=y)),by simp only [jI,qmA],?_⟩;have e:decide (x<=y) = !decide (y<x):=by rw [qnB];simp
    rw [e];exact h
 | geq =>
   exact Jn fun K x y k h=>by
    rw [Hw,jk] at h;refine ⟨.bool (decide (x≥y)),by simp only [jI,qmA],?_⟩;have e:decide (x≥y) = !decide (x<y):=by rw [qnB];simp
    rw [e];exact h
 | eql=>exact Jn fun K x y k h=>by rw [FP] at h;exact ⟨_,by simp only [jI,qmA],h⟩
 | neq=>exact Jn fun K x y k h=>by rw [FP,jk] at h;exact ⟨.bool (x != y),by simp only [jI,qmA],h⟩
 | _=>exact AD _
def Sx (P:Program) (o:AOp) (X:K1->K1):Prop:=∀ (c:K1) (f:FrL) (h:List HObj),X c f h->∃ r w,o.sem P (evF (get f)) (hpf h) h.length r w/\c (zb f o.dst r) (qf h w)
section
variable {P:Program}
def wsP (w:List (Nat×HObj)) (h:List HObj) (k:List HObj->Prop):Prop:=fmP (fun p k=>fnP p.1 fun i=>foP p.2 fun o=>k (i,o)) w fun w=>flP (qf h w) k
theorem Yd (ws:List (Nat×HObj)) (hp:List HObj) (k:List HObj->Prop):wsP ws hp k=k (qf hp ws):=by unfold wsP;rw [QI (fun a k=>by simp only [qC,bD]),zM]
def ik (f:(Opd->AV)->List HObj->Option (AV×List (Nat×HObj))) (d:Option Nat):K1->K1:=fun c u h=>match f (evF (get u)) h with
 | some (r,w)=>faP 6 r fun r=>wsP w h fun h=>c (zb u d r) h
 | none=>False
theorem AE (o:AOp):Sx P o (ik (ZB o) o.dst):=fun c f p h=>by
 unfold ik at h;split at h
 . rename_i r w s;rw [QR,Yd] at h;exact ⟨r,w,EG s,h⟩
 exact h.elim
def cMv (d:Nat) (x:Op1):K1->K1:=fun c f h=>x f fun a=>c ((d,a)::f) h
theorem eJ :Sx P (.mv d x) (cMv d (qK x)):=fun c f p h=>by unfold cMv at h;rw [qi] at h;exact ⟨_,[],⟨rfl,rfl⟩,h⟩
def MV (d:Nat) (b x y:Op1):K1->K1:=fun c f h=>b f fun v=>match v with
 | .v (.bool t)=>Bool.rec (motive:=fun _=>Prop) (y f fun a=>c ((d,a)::f) h) (x f fun a=>c ((d,a)::f) h) t
 | _=>False
theorem IX {b y:Opd}:Sx P (.pick d b x y) (MV d (qK b) (qK x) (qK y)):=fun c f p h=>by
 unfold MV at h;rw [qi] at h;simp only [AOp.sem];generalize evF (get f) b=u at h ⊢;split at h
 . rename_i t;cases t with
   | false =>have h:qK y f (fun a=>c ((d,a)::f) p):=h;rw [qi] at h;exact ⟨_,[],⟨rfl,rfl⟩,h⟩
   | true =>have h:qK x f (fun a=>c ((d,a)::f) p):=h;rw [qi] at h;exact ⟨_,[],⟨rfl,rfl⟩,h⟩
 exact h.elim
def qg6 (d:Nat) (f:AV->AV->(AV->Prop)->Prop) (x y:Op1):K1->K1:=fun c u h=>x u fun a=>y u fun b=>f a b fun r=>c ((d,r)::u) h
theorem pD {o:BinOp} {y:Opd}:Sx P (.bin d o x y) (qg6 d (Wl o) (qK x) (qK y)):=fun c f p h=>by unfold qg6 at h;rw [qi,qi] at h;obtain ⟨u,w,z,v,j,q,g⟩:=IT o _ _ _ h;refine ⟨.v z,[],?_,g⟩;simp only [AOp.sem,v,j];exact ⟨z,q,rfl,trivial⟩
def qhs (d:Nat) (x:Op1):K1->K1:=fun c f h=>x f fun v=>match v with
 | .v (.bool t)=>fbP (!t) fun t=>c ((d,.v (.bool t))::f) h
 | _=>False
theorem pY :Sx P (.un d .not x) (qhs d (qK x)):=fun c f p h=>by
 unfold qhs at h;rw [qi] at h;simp only [AOp.sem];generalize evF (get f) x=u at h ⊢;split at h
 . rw [jk] at h;exact ⟨_,[],⟨_,rfl,rfl,rfl⟩,h⟩
 exact h.elim
def qhg (d:Nat) (x:Op1) (i:Nat):K1->K1:=fun c f h=>x f fun v=>match v with
 | .tup V=>XS V i fun y=>c ((d,y)::f) h
 | _=>False
theorem pN :Sx P (.ext d x i) (qhg d (qK x) i):=fun c f p h=>by
 unfold qhg at h;rw [qi] at h;simp only [AOp.sem];generalize evF (get f) x=u at h ⊢;split at h
 . obtain ⟨y,v,j⟩:=zW h;exact ⟨_,[],⟨y,v,rfl,rfl⟩,j⟩
 exact h.elim
noncomputable def kH {α:Type} (n:Nat):List α->List α:=Nat.rec (motive:=fun _=>List α->List α) (fun l=>l) (fun _ i l=>List.rec (motive:=fun _=>List α) [] (fun _ t _=>i t) l) n
theorem RP {α:Type}:∀ (n:Nat) (l:List α),kH n l=l.drop n
 | 0,l=>rfl
 | n+1,[]=>rfl
 | n+1,a::l=>by show kH n l=_;rw [RP n l];rfl
def qgf {α:Type} (l:List α) (i:Nat) (k:α->Prop):Prop:=Bool.rec (motive:=fun _=>Prop) (XS l i k) (XS (kH (i - i % 512) l) (i % 512) k) (Nat.ble 512 i)
theorem fo {k:α->Prop} {l:List α} (h:qgf l i k):∃ a,l[i]?=some a/\k a:=by
 unfold qgf at h;cases e:Nat.ble 512 i with
 | false=>rw [e] at h;exact zW h
 | true =>rw [e] at h;obtain ⟨a,u,v⟩:=zW (show XS (kH (i - i % 512) l) (i % 512) k from h);rw [RP,qol,Nat.sub_add_cancel (Nat.mod_le _ _)] at u;exact ⟨a,u,v⟩
def ldP (a:Bool) (s o:Nat) (c:List AV) (k:AV->Prop):Prop:=Bool.rec (motive:=fun _=>Prop) (qgf c o k) (NA c o s fun l=>k (.agg l)) a
theorem VP {a:Bool} {s:Nat} {k:AV->Prop} (h:ldP a s o c k):∃ r,(match a with | true=>o+s<=c.length/\r = .agg (qJ c o s) | false=>∃ y,c[o]?=some y/\r=y)/\k r:=by
 cases a with
 | true =>obtain ⟨u,v⟩:=Jo (show NA c o s _ from h);exact ⟨_,⟨u,rfl⟩,v⟩
 | false =>obtain ⟨y,u,v⟩:=fo (show qgf c o k from h);exact ⟨y,⟨y,u,rfl⟩,v⟩
def cLd (d:Nat) (a:Bool) (s:Nat) (x:Op1):K1->K1:=fun c f h=>x f fun v=>match v with
 | .ptr C off=>ldP a s off C fun r=>c ((d,r)::f) h
 | .ref id off=>VC h id fun C=>ldP a s off C fun r=>c ((d,r)::f) h
 | _=>False
theorem eC {s:Nat} {a:Bool} :Sx P (.ld d a s x) (cLd d a s (qK x)):=fun c f p h=>by
 unfold cLd at h;rw [qi] at h;simp only [AOp.sem,ZM];generalize evF (get f) x=u at h ⊢;split at h
 . obtain ⟨r,v,j⟩:=VP h;exact ⟨r,[],⟨rfl,v⟩,j⟩
 . obtain ⟨C,v,j⟩:=zU h;obtain ⟨r,z,y⟩:=VP j;refine ⟨r,[],?_,y⟩;simp only [v];exact ⟨trivial,z⟩
 exact h.elim
theorem LQ {v:AV} (h:o<c.length):splice c o [v]=c.set o v:=by rw [qni,if_pos h];unfold splice;simp
def cSt (z:Nat) (a x:Op1):K1->K1:=fun c f h=>a f fun p=>match p with
 | .ref id off=>x f fun v=>VC h id fun s=>match v with
   | .agg l=>Bool.rec (motive:=fun _=>Prop) False (flP (splice s off l) fun C=>jf h id (.cells C) fun h=>c f h) (Nat.beq l.length z&&l.all AV.isCell&&Nat.ble (off+z) s.length)
   | v=>Bool.rec (motive:=fun _=>Prop) False (cU s off v fun C=>jf h id (.cells C) fun h=>c f h) (Nat.beq z 1&&AV.isCell v)
 | _=>False
theorem eU {s:Nat} {a:Opd}:Sx P (.st s a x) (cSt s (qK a) (qK x)):=fun c f p h=>by
 unfold cSt at h;rw [qi] at h;simp only [AOp.sem,Ux];generalize evF (get f) a=u at h ⊢;split at h
 . rename_i id off;rw [qi] at h;generalize evF (get f) x=v at h ⊢;obtain ⟨z,o,j⟩:=zU h;simp only [o];split at j
   . rename_i l;cases e:(Nat.beq l.length s&&l.all AV.isCell&&Nat.ble (off+s) z.length) with
     | false=>rw [e] at j;exact j.elim
     | true =>rw [e] at j;have j:flP (splice z off l) fun C=>jf p id (.cells C) fun p=>c f p:=j;rw [zM] at j;simp only [qd] at e;exact ⟨_,_,⟨qe e.1.1,e.1.2,xr e.2,rfl,rfl⟩,qT j⟩
   rename_i b
   have g:v.cells=[v]:=by
    cases v with
    | agg l=>exact absurd rfl (b l)
    | _=>rfl
   cases e:(Nat.beq s 1&&AV.isCell v) with
   | false=>rw [e] at j;exact j.elim
   | true =>rw [e] at j;have j:cU z off v fun C=>jf p id (.cells C) fun p=>c f p:=j;obtain ⟨y,q⟩:=PV j;simp only [qd] at e;have E:=qe e.1;subst E;rw [g];refine ⟨_,_,⟨rfl,by rw [qmC,e.2];rfl,y,rfl,rfl⟩,?_⟩;rw [LQ y];exact qT q
 exact h.elim
def cFa (d:Nat) (x:Op1) (O:Nat):K1->K1:=fun c f h=>x f fun v=>match v with
 | .ptr C o=>fnP (Nat.add o O) fun o=>c ((d,.ptr C o)::f) h
 | .ref id o=>fnP (Nat.add o O) fun o=>c ((d,.ref id o)::f) h
 | _=>False
theorem eA :Sx P (.fa d x o) (cFa d (qK x) o):=fun c f p h=>by
 unfold cFa at h;rw [qi] at h;simp only [AOp.sem];generalize evF (get f) x=u at h ⊢;split at h
 . rw [qC] at h;exact ⟨_,[],⟨rfl,rfl⟩,h⟩
 . rw [qC] at h;exact ⟨_,[],⟨rfl,rfl⟩,h⟩
 exact h.elim
def okP (b:Bool) (k:Prop):Prop:=Bool.rec (motive:=fun _=>Prop) False k b
theorem qt {b:Bool} {k:Prop} (h:okP b k):b=true/\k:=by
 cases b with
 | false=>exact h.elim
 | true=>exact ⟨rfl,h⟩
theorem zJ {a b:Nat} (h:Nat.blt a b=true):a<b:=Nat.lt_of_succ_le (xr h)
def cIa (d z:Nat) (x i:Op1):K1->K1:=fun c f h=>x f fun v=>i f fun j=>fc j fun j=>match v with
 | .sl _ n C=>okP (Nat.blt j n&&Nat.beq C.length (n*z)) (fnP (Nat.mul j z) fun o=>c ((d,.ptr C o)::f) h)
 | .ms id off n s=>okP (Nat.blt j n&&Nat.beq s z) (fnP (Nat.add off (Nat.mul j z)) fun o=>c ((d,.ref id o)::f) h)
 | .mc id off n _ s=>okP (Nat.blt j n&&Nat.beq s z) (fnP (Nat.add off (Nat.mul j z)) fun o=>c ((d,.ref id o)::f) h)
 | _=>False
theorem eB {s:Nat} {i:Opd}:Sx P (.ia d s x i) (cIa d s (qK x) (qK i)):=fun c f p h=>by
 unfold cIa at h;rw [qi,qi] at h;obtain ⟨k,j,y,h⟩:=Pp h;simp only [AOp.sem];rw [y];generalize evF (get f) x=u at h ⊢;split at h
 . obtain ⟨v,z⟩:=qt h;simp only [qd] at v;rw [qC] at z;have:=zJ v.1;exact ⟨_,[],⟨by omega,by simp,rfl,qe v.2⟩,z⟩
 . obtain ⟨v,z⟩:=qt h;simp only [qd] at v;rw [qC] at z;have:=zJ v.1;exact ⟨_,[],⟨by omega,qe v.2,by simp,rfl⟩,z⟩
 . obtain ⟨v,z⟩:=qt h;simp only [qd] at v;rw [qC] at z;have:=zJ v.1;exact ⟨_,[],⟨by omega,qe v.2,by simp,rfl⟩,z⟩
 exact h.elim
def qhk (d l s:Nat) (x i:Op1):K1->K1:=fun c f h=>x f fun v=>i f fun j=>fc j fun j=>okP (Nat.blt j l) (match v with
 | .ptr C o=>fnP (Nat.add o (Nat.mul j s)) fun o=>c ((d,.ptr C o)::f) h
 | .ref id o=>fnP (Nat.add o (Nat.mul j s)) fun o=>c ((d,.ref id o)::f) h
 | _=>False)
theorem pP {l s:Nat} {i:Opd}:Sx P (.iaa d l s x i) (qhk d l s (qK x) (qK i)):=fun c f p h=>by
 unfold qhk at h;rw [qi,qi] at h;obtain ⟨k,j,z,h⟩:=Pp h;obtain ⟨v,h⟩:=qt h;have:=zJ v;simp only [AOp.sem];rw [z];generalize evF (get f) x=u at h ⊢;split at h
 . rw [qC] at h;exact ⟨_,[],⟨by omega,by simp,rfl⟩,h⟩
 . rw [qC] at h;exact ⟨_,[],⟨by omega,by simp,rfl⟩,h⟩
 exact h.elim
def qhn (d:Nat) (x:Op1):K1->K1:=fun c f h=>x f fun v=>match v with
 | .sl _ n _=>c ((d,.v (.int .i64 (.ofNat n)))::f) h
 | .ms _ _ n _=>c ((d,.v (.int .i64 (.ofNat n)))::f) h
 | .mc _ _ n _ _=>c ((d,.v (.int .i64 (.ofNat n)))::f) h
 | _=>False
theorem pS :Sx P (.len d x) (qhn d (qK x)):=fun c f p h=>by unfold qhn at h;rw [qi] at h;simp only [AOp.sem];generalize evF (get f) x=u at h ⊢;split at h <;> first | exact ⟨_,[],⟨rfl,rfl⟩,h⟩ | exact h.elim
def qhb (d:Nat) (k:IntKind) (x:Op1):K1->K1:=fun c f h=>x f fun v=>yY v fun _ n=>wrP k n fun z=>c ((d,.v (.int k z))::f) h
theorem pJ :Sx P (.cnv d k x) (qhb d k (qK x)):=fun c f p h=>by unfold qhb at h;rw [qi] at h;obtain ⟨K,n,v,u⟩:=KT h;rw [UJ] at u;refine ⟨_,[],?_,u⟩;simp only [AOp.sem,v];exact ⟨trivial,trivial⟩
def cAl (d:Nat) (z:List AV):K1->K1:=fun c f h=>JA h (.cells z) fun n h=>c ((d,.ref n 0)::f) h
theorem er :Sx P (.al d z) (cAl d z):=fun c f p h=>⟨_,_,⟨rfl,rfl⟩,zP h⟩
def cOp:AOp->K1->K1
 | .mv d x=>cMv d (qK x)
 | .pick d b x y=>MV d (qK b) (qK x) (qK y)
 | .bin d O x y=>qg6 d (Wl O) (qK x) (qK y)
 | .un d .not x=>qhs d (qK x)
 | .ext d x i=>qhg d (qK x) i
 | .ld d agg s x=>cLd d agg s (qK x)
 | .st s a x=>cSt s (qK a) (qK x)
 | .fa d x off=>cFa d (qK x) off
 | .ia d s x i=>cIa d s (qK x) (qK i)
 | .iaa d l s x i=>qhk d l s (qK x) (qK i)
 | .len d x=>qhn d (qK x)
 | .cnv d k x=>qhb d k (qK x)
 | .al d zero=>cAl d zero
 | o=>ik (ZB o) o.dst
theorem MU (o:AOp):Sx P o (cOp o):=by
 cases o with
 | mv d x=>exact eJ
 | pick d b x y=>exact IX
 | bin d O x y=>exact pD
 | un d O x=>cases O <;> first | exact pY | exact AE _
 | ext d x i=>exact pN
 | ld d agg s x=>exact eC
 | st s a x=>exact eU
 | fa d x off=>exact eA
 | ia d s x i=>exact eB
 | iaa d l s x i=>exact pP
 | len d x=>exact pS
 | cnv d k x=>exact pJ
 | al d zero=>exact er
 | _=>exact AE _
end
end Go.AM

namespace Go.AM
def cvP (N:Nat->List Nat) (n:Nat):List Nat->Nat->List Nat->(List Nat->Prop)->Prop :=
 Nat.rec (motive:=fun _=>List Nat->Nat->List Nat->(List Nat->Prop)->Prop) (fun _ _ a k=>k a)
  (fun _ i T m a k=>List.rec (motive:=fun _=>Prop) (k a) (fun f t _=>Bool.rec (motive:=fun _=>Prop) (fnP (m ||| (1 <<< f)) fun m=>flP (N f++t) fun d=>i d m (f::a) k) (i t m a k) (m.testBit f)) T) n
theorem Fv {P:Program} {N:Nat->List Nat} (u:∀ f,(P.funcs[f]?).elim [] P.leadsTo=N f):∀ (n:Nat) (T:List Nat) (m:Nat) (a:List Nat) (k:List Nat->Prop),(∀ f,m.testBit f=a.contains f)->cvP N n T m a k=k (P.closureVia n T a).reverse
 | 0,T,m,a,k,h=>by
   have e:P.closureVia 0 T a=a.reverse:=by cases T <;> rfl
   rw [e,qpb];rfl
 | n+1,[],m,a,k,h=>by have e:P.closureVia (n+1) [] a=a.reverse:=rfl;rw [e,qpb];rfl
 | n+1,f::t,m,a,k,h=>by
   show Bool.rec (motive:=fun _=>Prop) (fnP (m ||| (1 <<< f)) fun m=>flP (N f++t) fun d=>cvP N n d m (f::a) k) (cvP N n t m a k) (m.testBit f)=_;have e:P.closureVia (n+1) (f::t) a=if a.contains f then P.closureVia n t a else P.closureVia n ((P.funcs[f]?).elim [] P.leadsTo++t) (f::a):=rfl
   rw [e,<-h f];cases hb:m.testBit f with
   | true=>exact Fv u n t m a k h
   | false =>
     show fnP (m ||| (1 <<< f)) (fun m=>flP (N f++t) fun d=>cvP N n d m (f::a) k)=k (P.closureVia n ((P.funcs[f]?).elim [] P.leadsTo++t) (f::a)).reverse;rw [qC,zM,u f];refine Fv u n (N f++t) _ (f::a) k fun g=>?_;rw [Nat.testBit_or,h g,qoJ,Nat.testBit_shiftLeft];by_cases v:g=f
     . subst v;simp
     have y:(decide (f<=g)&&Nat.testBit 1 (g - f))=false:=by
      rcases qmV g f with z | z
      . simp;omega
      have:g - f≠0:=by omega
      obtain ⟨j,o⟩:=Nat.exists_eq_succ_of_ne_zero this;rw [o,Nat.testBit_succ];simp
     simp [y,v]
end Go.AM

set_option maxRecDepth 100000
namespace Go.AM
open Go.RowKit
variable {f:FuncId} {C z:List AV} {s c o n i:Nat}
theorem qb {n:Int} (h : -9223372036854775808<=n/\n<9223372036854775808):IntKind.i64.wrap n=n:=by simp [IntKind.wrap,IntKind.bits,IntKind.signed,Int.bmod];omega
variable {P:Program} {hp:List HObj} {K:AV->List (Nat×HObj)->Prop}
theorem Pz {l:List AV} (h:(l.all AV.isPC)=true) (k:Nat):((l.take k).all AV.isPC)=true:=by rw [LL] at *;exact fun x u=>h x (qnw u)
theorem BN {l:List AV} (h:(l.all AV.isPC)=true) (k:Nat):((l.drop k).all AV.isPC)=true:=by rw [LL] at *;exact fun x u=>h x (List.mem_of_mem_drop u)
theorem Qf {id off n l h m:Nat} {L i M:Option AV} (o:match L with | none=>l=0 | some y=>y=I l) (z:match i with | none=>h=n | some y=>y=I h)
 (q:match M with | none=>m=c | some y=>y=I m/\i.isSome) (u:l<=h) (v:h<=m) (j:m<=c) (k:K (.mc id (off+l*s) (h - l) (m - l) s) []):co s (.mc id off n c s) L i M K :=
 ⟨_,_,⟨l,h,m,o,z,q,u,v,j,rfl,rfl,rfl⟩,k⟩
theorem ZY {id off n l h:Nat} {L i M:Option AV} (z:match L with | none=>l=0 | some y=>y=I l) (j:match i with | none=>h=n | some y=>y=I h)
 (o:match M with | none=>True | some y=>∃ m:Nat,y=I m/\h<=m/\m<=n/\i.isSome) (u:l<=h) (v:h<=n) (k:K (.ms id (off+l*s) (h - l) s) []):co s (.ms id off n s) L i M K :=
 ⟨_,_,⟨l,h,z,j,u,v,rfl,o,.inl rfl,rfl⟩,k⟩
theorem bq {b id off n m:Nat} {y:AV} {ys:List AV} (h:qu hp id=some (.cells C)) (e:elems (hpf hp) s y=some (m,ys)) (p:(ys.all AV.isPC)=true) (v:off+(n+m)*s<=C.length)
 (j:(n+m)*b<=140737488355328) (u:n+m<=140737488355328) (r:n+m<=c) (k:K (.mc id off (n+m) c s) [(id,.cells (splice C (off+n*s) ys))]):gz hp s b (.mc id off n c s) y K:=by
 have h:hpf hp id=some (.cells C):=by rw [qn] at h;exact h
 refine ⟨m,ys,e,p,_,_,?_,k⟩;simp only [zG,h];exact ⟨trivial,qmT (Nat.add_le_add_left (qmt _ (Nat.le_add_right _ _)) _) v,j,u,.inl ⟨r,v,trivial,trivial⟩⟩
theorem Gx {id off n:Nat} (u:qu hp id=some (.cells C)) (h:off+n*s<=C.length):elems (hpf hp) s (.mc id off n c s)=some (n,qJ C off (n*s)):=by
 have u:hpf hp id=some (.cells C):=by rw [qn] at u;exact u
 simp only [elems,u];rw [if_pos ⟨trivial,h⟩]
theorem xY {id:Nat} {F:Nat->AV} {x:Opd} (v:evF F x = .mc id o n c s) (u:qu hp id=some (.cells C)) (h:o+n*s<=C.length) (k:K .any [(id,.cells (splice C o (zh n z)))]) :
 (AOp.clr s z x).wp P F hp K:=by
 have u:hpf hp id=some (.cells C):=by rw [qn] at u;exact u
 refine ⟨_,_,?_,k⟩;simp only [AOp.sem,v];exact ⟨C,u,trivial,h,trivial,rfl⟩
theorem qiD {w g id o n s v} (h:Rep w g false (.ms id o n s) v):∃ c,n<=c/\Rep w g false (.mc id o n c s) v:=by
 cases h with
 | ms _ _ _ _ c d C A t f u j b z=>exact ⟨C,j,.mc id o n C s c d A t f u j b z⟩
 | msz _ _ _ a l u=>exact ⟨0,Qs _,.mcz id o s a l u⟩
theorem MY {id:Nat} {x:List AV} {C:AV->List HObj->Prop} (h:∀ c,n<=c->qB P f (.mc id o n c s::x) hp C):qB P f (.ms id o n s::x) hp C:=by
 intro R m w g V k v r;obtain ⟨c,j,u⟩:=qiD (r 0 (by simp));refine h c j R m w g V k v fun i z=>?_;cases i with
 | zero=>exact u
 | succ i=>exact r (i+1) (by simpa using z)
theorem ke {x:List AV} {C:AV->List HObj->Prop} (h:qB P f x hp fun r p=>∃ id off n c s,(r = .mc id off n c s\/r = .ms id off n s)/\C (.ms id off n s) p):qB P f x hp C:=by
 intro R m w g V o j u;refine (h R m w g V o j u).mono ?_;rintro e t ⟨v,r,p,y,rfl,⟨id,off,n,c,s,l,k⟩,z,q,b⟩;refine ⟨v,_,p,y,rfl,k,?_,q,b⟩;rcases l with rfl | rfl
 . exact GY z
 exact z
def qft (b:Nat) (z:List AV):AC:=(.seq (.rgn [⟨none,[(.mv 6 (.k (.sl true 0 [])))]⟩] [0,1,2]) (.seq (.rgn [⟨none,[(.mv 8 (.t 0)),(.mv 9 (.t 1)),(.mv 10 (.t 2)),(.mv 11 (.t 0)),(.len 12 (.t 11)),(.slc 13 1 (.t 8) (some (.t 9)) (some (.t 10)) (some (.t 12)))]⟩] [0,1,2]) (.seq (.seq (.rgn [⟨none,[(.mv 14 (.t 1)),(.mv 15 (.t 2)),(.bin 16 .eql (.t 14) (.t 15))]⟩] [0,1,2,16]) (.cond (.t 16) (.seq (.rgn [⟨none,[(.mv 17 (.t 0)),(.mv 6 (.t 17))]⟩] [6]) .ret) .skip)) (.seq (.rgn [⟨none,[(.mv 18 (.t 0)),(.len 19 (.t 18)),(.mv 7 (.t 19))]⟩] [0,1,2,7]) (.seq (.drw [⟨none,[(.mv 20 (.t 0)),(.mv 21 (.t 1)),(.slc 22 1 (.t 20) none (some (.t 21)) none),(.mv 23 (.t 0)),(.mv 24 (.t 2)),(.slc 25 1 (.t 23) (some (.t 24)) none none),(.app 26 1 b (.t 22) (.t 25)),(.mv 0 (.t 26))]⟩] [] [0,7]) (.seq (.rgn [⟨none,[(.mv 27 (.t 0)),(.mv 28 (.t 0)),(.len 29 (.t 28)),(.mv 30 (.t 7)),(.slc 31 1 (.t 27) (some (.t 29)) (some (.t 30)) none),(.clr 1 z (.t 31))]⟩] [0]) (.seq (.rgn [⟨none,[(.mv 32 (.t 0)),(.mv 6 (.t 32))]⟩] [6]) .ret)))))))
def Yj (z:List AV) (c:List AV) (o n i j:Nat):List AV:=c.take (o+i)++(qJ c (o+j) (n - j)++(zh (j - i) z++c.drop (o+n)))
theorem NE {z:List AV} (h:z.length=1):∀ k,(zh k z).length=k
 | 0=>rfl
 | k+1=>by simp [zh,NE h k,h];omega
theorem kF {c:List AV} (h:i<=n):Yj z c o n i i=c:=by
 simp only [Yj,qJ,Nat.sub_self,zh,qmF];have e:c.drop (o+n)=(c.drop (o+i)).drop (n - i):=by rw [qnk];congr 1;omega
 rw [e,qnD,qnD]
theorem aG {c:List AV} {j:Nat} (b:z.length=1) (q:i<=j) (g:j<=n) (s:o+n<=c.length) :
 splice (splice c (o+i) (qJ c (o+j) (n - j))) (o+(i+(n - j))) (zh (j - i) z)=Yj z c o n i j:=by
 have u:(c.take (o+i)).length=o+i:=by simp;omega
 have h:(qJ c (o+j) (n - j)).length=n - j:=by simp [qJ];omega
 simp only [splice,Yj,h];generalize y:qJ c (o+j) (n - j)=B at h ⊢;generalize v:c.take (o+i)=A at u ⊢;have e:o+(i+(n - j))=(A++B).length:=by simp [u,h];omega
 rw [e];have t1:∀ C:List AV,(A++B++C).take (A++B).length=A++B:=fun C=>by rw [qn1];rfl
 have t2:∀ (C:List AV) k,(A++B++C).drop ((A++B).length+k)=C.drop k:=fun C k=>by rw [<-qnk,qpF];rfl
 rw [<-qmo A B,t1,t2,qnk,NE b];rw [show o+i+(n - j)+(j - i)=o+n by omega];simp
theorem Cx {l:List HObj} {id:Nat} {o:HObj} (h:qu l id=some o):qz l id o=l:=by
 rw [qn] at h;have t:id<l.length:=qF h;rw [qz,if_pos t]
 exact qpu fun k=>by
  rw [qoS];by_cases e:id=k
  . subst e;rw [Wd t] at h;simp [t];exact (qnq h).symm
  simp [e]
theorem FC {q:Func} {b:Nat} (M:P.funcs[f]?=some q) (r:qg P q [6]=some (qft b z)) (N:zc q.results.toList=some [6]) (p:3<=q.ntmps) (Q:z.length=1)
 {id O j:Nat} {cs:List AV} {C:AV->List HObj->Prop} (d:qu hp id=some (.cells cs)) (y:i<=j) (u:j<=n) (g:O+n<=cs.length) (w:((qJ cs (O+j) (n - j)).all AV.isPC)=true)
 (k:n*b<=140737488355328) (x:n<=140737488355328) (v:C (.ms id O (n - (j - i)) 1) (qz hp id (.cells (Yj z cs O n i j)))):qB P f [.ms id O n 1,I i,I j] hp C:=by
 refine MY fun c L=>ke (QF M r N p ?_);simp (disch:=omega)[qft];refine Qf (l:=i) (h:=j) (m:=n) rfl rfl ⟨rfl,rfl⟩ y u L ?_;simp (disch:=omega)[qft];refine qA (fun h=>?_) (fun h=>?_)
 . have h:i=j:=by simp at h;omega
   subst h;simp (disch:=omega);rw [kF u,Cx d,Nat.sub_self,qoL] at v;exact ⟨id,O,n,c,1,by simp,v⟩
 have h:i≠j:=by simp at h;omega
 simp (disch:=omega);refine Qf (l:=0) (h:=i) (m:=c) rfl rfl rfl (by omega) (by omega) (Qs _) ?_;simp (disch:=omega);refine Qf (l:=j) (h:=n) (m:=c) rfl rfl rfl (by omega) (by omega) (Qs _) ?_;simp (disch:=omega);refine bq d (Gx (by simpa using d) (by omega)) (by simpa using w) (by omega) (qmT (qmt _ (by omega)) k) (by omega) (by omega) ?_;simp (disch:=omega);have t:id<hp.length:=by rw [qn] at d;exact qF d
 simp only [t,qmA];have s:∀ o,qu (hp.set id o) id=some o:=fun o=>by rw [qn];simp [hpf,t]
 refine Qf (l:=i+(n - j)) (h:=n) (m:=c) (by simp) rfl rfl (by omega) (by omega) (Qs _) ?_;simp (disch:=omega);refine xY rfl (s _) ?_ ?_
 . simp;omega
 simp (disch:=omega)[t];refine ⟨id,O,i+(n - j),c,1,by simp,?_⟩;have e:n - (i+(n - j))=j - i:=by omega
 have E:n - (j - i)=i+(n - j):=by omega
 rw [<-aG Q y u g,E,qz,if_pos t] at v;have a:min (n - j) (cs.length - (O+j))=n - j:=by omega
 simp [e,a] at v ⊢;exact v
end Go.AM

namespace Go.AM
open Go.RowKit
variable {A:AC} {x:AV} {Q:Exit->St->Prop} {c:List AV} {l:List Int} {i n k d:Nat} {P:Program} {s:St} {α:Type}
abbrev Ls (f:Bool) (l:List Int):AV := .sl f l.length (l.map fun n=>I n)
def Pc {α:Type} (p:α->Bool) (l:List α):Int:=match l.findIdx? p with
 | some k=>k
 | none => -1
theorem JP {p:α->Bool} {l:List α} (h:i<l.length) (v:p l[i]=true) (n:∀ k (z:k<l.length),k<i->p l[k]=false):Pc p l=i:=by have:l.findIdx? p=some i:=qn9.2 ⟨h,v,fun j u=>by simpa using n j (by omega) u⟩;simp [Pc,this]
theorem JO {p:α->Bool} {l:List α} (n:∀ k (h:k<l.length),p l[k]=false):Pc p l = -1:=by
 have:l.findIdx? p=none:=List.findIdx?_eq_none_iff.2 fun x u=>by obtain ⟨k,h,rfl⟩:=qnA u;exact n k h
 simp [Pc,this]
theorem XM (p:α->Bool) (l:List α):decide (Pc p l≥0)=l.any p:=by
 cases h:l.findIdx? p with
 | some k =>
   have u:Pc p l=k:=by simp [Pc,h]
   obtain ⟨j,v,_⟩:=qn9.1 h;rw [u];have:l.any p=true:=qnG.2 ⟨l[k],qmr j,v⟩;rw [this];simp
 | none =>
   have u:Pc p l = -1:=by simp [Pc,h]
   have:l.any p=false:=by rw [List.any_eq_false];intro x z;have:=List.findIdx?_eq_none_iff.1 h x z;simp [this]
   rw [u,this];rfl
def JC (L h:Int) (l:List Int):Bool:=l.all fun x=>decide (L<=x)&&decide (x<=h)
theorem Dg (L h:Int) (l:List Int):JC L h l = !(l.any fun x=>decide (x<L) || decide (h<x)):=by
 induction l with
 | nil=>rfl
 | cons x l i =>
   simp only [JC,qmC,qpP] at i ⊢;rw [i];by_cases u:L<=x
   . by_cases v:x<=h
     . simp [u,v,show ¬ x<L by omega,show ¬ h<x by omega]
     simp [u,v,show h<x by omega]
   simp [u,show x<L by omega]
theorem Sf [BEq α] [LawfulBEq α] (l:List α) (v:α):0<=Pc (fun x=>v==x) l↔v∈l:=by
 have:=XM (fun x=>v==x) l;constructor
 . intro h;have u:l.any (fun x=>v==x)=true:=by rw [<-this];simpa using h
   obtain ⟨x,j,e⟩:=qnG.1 u;have:=LawfulBEq.eq_of_beq e;rw [this];exact j
 intro h;have u:l.any (fun x=>v==x)=true:=qnG.2 ⟨v,h,by simp⟩;rw [u] at this;simpa using this
def VF (c:List (Int×Int)):List AV:=c.flatMap fun p=>[I p.1,I p.2]
abbrev Ps (f:Bool) (c:List (Int×Int)):AV := .sl f c.length (VF c)
abbrev Pr (p:Int×Int):AV := .agg [I p.1,I p.2]
theorem JI (c:List (Int×Int)):(VF c).length=c.length*2:=by
 induction c with
 | nil=>rfl
 | cons p c i=>simp [VF] at i ⊢;omega
theorem TX (c:List (Int×Int)) (i:Nat):(VF c).drop (i*2)=VF (c.drop i):=by
 induction i generalizing c with
 | zero=>simp
 | succ i h =>
   cases c with
   | nil=>simp [VF]
   | cons p c =>
     have:(i+1)*2=i*2+1+1:=by omega
     rw [this];simp only [List.drop_succ_cons];rw [<-h c];rfl
theorem TY (c:List (Int×Int)) (i:Nat):(VF c).take (i*2)=VF (c.take i):=by
 induction i generalizing c with
 | zero=>simp [VF]
 | succ i h =>
   cases c with
   | nil=>simp [VF]
   | cons p c =>
     have:(i+1)*2=i*2+1+1:=by omega
     rw [this];show _::_::List.take (i*2) (VF c)=_;rw [h c];rfl
theorem La {c:List (Int×Int)} (h:i<c.length):((VF c).drop (i*2)).take 2=[I c[i].1,I c[i].2]:=by rw [TX,qn5 h];rfl
theorem Wo {c:List (Int×Int)} {K:AV->List (Nat×HObj)->Prop} (h:i<c.length):zF (VF c) (i*2) 2 true K=K (Pr (c.getD i (0,0))) []:=by have:=JI c;simp only [zF,qJ,La h];simp [h];intro _;omega
theorem MM {n:Bool} {p q:Int×Int} {K:AV->List (Nat×HObj)->Prop}:qfr n (true,[.int,.int]) (Pr p) (Pr q) K=K (B (n != decide (p=q))) []:=kK
theorem Ul {p:Nat->Bool}:(List.range n).all p=true↔∀ k,k<n->p k=true:=by simp [LL]
@[simp high] theorem qiA (l:List Int):(l.map fun n=>I n).all AV.isPC=true:=by simp [LL]
@[simp high] theorem VQ (l:List Int):(l.map fun n=>I n).all AV.isPure=true:=by simp [LL]
theorem BK {id n:Nat} {p:List HObj} (h:qu p id=some (.cells (l.map fun n=>I n))) (u:n=l.length):Out (Ls false l) (.ms id 0 n 1) p:=by subst u;rw [qn,<-show hpf p id=p[id]? from rfl] at h;refine Zd (is:=[id]) ?_;simp only [qH,qR];rw [JT h ⟨by simp,VQ l⟩];simp only [qJ,qpi,qnj];rw [qmn (by simp)]
theorem Hu (n:Int) (h : -1000000<=n/\n<=1000000):IntKind.i64.wrap (0 - n) = -n:=by rw [qb (by omega)];omega
def qa (l:List Int):Prop:=∀ x∈l,-1000000<=x/\x<=1000000
theorem Yx {h:Hp} {a A y:AV} {i u:List Nat} (v:qH h a=some (A,i)) (j:qH h x=some (y,u)):qj h [a,x]=some ([A,y],i++u):=by simp [qj,v,j]
theorem qY {hp:List HObj} {w:List (Nat×HObj)} (h:∀ p∈w,p.1<=hp.length) (i:Nat):qu (qf hp w) i=Hp.write (hpf hp) w i:=by rw [qn];exact congrFun (zN h) i
theorem Wa {l:List Int} {k:Nat} {v:Int} (h:k<l.length):splice (l.map fun n=>I n) k [I v]=(l.set k v).map fun n=>I n:=by simp only [splice,qnC];rw [qni,if_pos h];simp [qpQ,List.map_drop]
theorem qD {p:List HObj} {id:Nat} {o:HObj} (h:id<p.length):qu (p.set id o) id=some o:=by rw [qn,qm9 h]
theorem qq {p:List HObj} {id j:Nat} {o:HObj} (h:id≠j):qu (p.set id o) j=qu p j:=by rw [qn,qn,qmY h]
theorem qiY {l:List AV} {v:AV} (h:n<l.length):l.take n++v::l.drop (n+1)=l.set n v:=by rw [qni,if_pos h]
theorem sZ {l:List AV} {v:AV} (h:n<l.length+1):(x::l).take n++v::l.drop n=(x::l).set n v:=by rw [qni,if_pos (by simpa using h)];simp
def rid:AV->Option Nat
 | .ms id _ _ _=>some id
 | _=>none
def RowIs (hp:List HObj) (x:AV) (l:List Int):Prop :=
 (x = .sl true 0 []/\l=[])\/∃ id off cs,x = .ms id off l.length 1/\qu hp id=some (.cells cs)/\off+l.length<=cs.length/\qJ cs off l.length=l.map fun n=>I n
def Fr (p h:List HObj) (o:Nat->Prop):Prop:=p.length<=h.length/\∀ i,i<p.length->¬ o i->qu h i=qu p i
theorem Fr.refl (y:List HObj) (o:Nat->Prop):Fr y y o:=⟨Qs _,fun _ _ _=>rfl⟩
theorem qw {hp:List HObj} {i:Nat} {o:HObj} (h:qu hp i=some o):i<hp.length:=by rw [qn] at h;exact qF h
theorem RowIs.lt {q x l i} (h:RowIs q x l) (y:rid x=some i):i<q.length:=by
 rcases h with ⟨rfl,_⟩ | ⟨id,off,O,rfl,e,_⟩
 . cases y
 cases y;exact qw e
theorem RowIs.mono {y H x l} (h:RowIs y x l) (O:∀ i,rid x=some i->qu H i=qu y i):RowIs H x l:=by
 rcases h with h | ⟨id,off,cs,rfl,q,e⟩
 . exact .inl h
 exact .inr ⟨id,off,cs,rfl,(O id rfl).trans q,e⟩
section
variable {hp:List HObj} {K:AV->List (Nat×HObj)->Prop}
theorem ZR {T r:List AV} (h:k<r.length):zF (.ptr T 0::r) (1+k) 1 false K=K r[k] []:=by
 have e:(AV.ptr T 0::r)[1+k]?=some r[k]:=by rw [qpC,qog,Wd h]
 apply propext;constructor
 . rintro ⟨z,u,v⟩;rw [e] at u;cases u;exact v
 intro h;exact ⟨_,e,h⟩
theorem Hh {o j:Nat} (y:qJ c o l.length=l.map fun n=>I n) (h:j<l.length):zF c (o+j) 1 false K=K (I l[j]) []:=by
 have e:c[o+j]?=some (I l[j]):=by
  have:(qJ c o l.length)[j]?=some (I l[j]):=by rw [y];simp [h]
  simp only [qJ,List.getElem?_take,qol] at this;rwa [if_pos h] at this
 apply propext;constructor
 . rintro ⟨z,u,v⟩;rw [e] at u;cases u;exact v
 intro h;exact ⟨_,e,h⟩
theorem Pi (h:RowIs hp x l):bj x K=K (I l.length) []:=by rcases h with ⟨rfl,rfl⟩ | ⟨id,off,c,rfl,_⟩ <;> rfl
theorem SN {l:List Int} (h:RowIs hp x l) (u:l≠[]):∃ id off c,x = .ms id off l.length 1/\qu hp id=some (.cells c)/\off+l.length<=c.length/\qJ c off l.length=l.map fun n=>I n:=by
 rcases h with ⟨_,h⟩ | h
 . exact absurd h u
 exact h
end
theorem Nu {T r:List AV} (h:k<r.length):List.take (1+k) (AV.ptr T 0::r)++x::List.drop (1+k) r=AV.ptr T 0::r.set k x:=by rw [sZ (by omega),qpC];rfl
theorem jw {hp:List HObj} {l:List Int} {v:Int} {K:AV->List (Nat×HObj)->Prop} (h:RowIs hp x l) (s:l.length<=1000000)
 (j:∀ w,(∀ i,i<hp.length->rid x≠some i->qu (qf hp w) i=qu hp i)->hp.length<(qf hp w).length->qu (qf hp w) hp.length=some (.cells ((l++[v]).map fun n=>I n))->K (.ms hp.length 0 (l.length+1) 1) w) :
 gz hp 1 8 x (.sl true 1 [I v]) K:=by
 rcases h with ⟨rfl,rfl⟩ | ⟨id,off,c,rfl,u,g,y⟩
 . rw [Rw];refine ⟨by simp,j _ (fun i q _=>?_) ?_ ?_⟩
   . rw [qY (by simp),qn];simp only [Hp.write];rw [Hp.set_other _ _ (by omega)];rfl
   . have:=qw (hp:=qf hp [(hp.length,HObj.cells ([]++[I v]))]) (i:=hp.length) (o := .cells [I v]) (by rw [qY (by simp)];simp [Hp.write,Hp.set_same]);exact this
   rw [qY (by simp)];simp [Hp.write,Hp.set_same]
 have t:=qw u;rw [Ru,u,Vw];have z:qu (qf hp [(id,HObj.gone),(hp.length,HObj.cells (qJ c off (l.length*1)++[I v]))]) hp.length=some (.cells ((l++[v]).map fun n=>I n)):=by rw [qY (by simp;omega)];simp only [Hp.write,Hp.set_same,qnj,y];simp
 refine ⟨by simp;omega,j _ (fun i q r=>?_) (qw z) z⟩;rw [qY (by simp;omega),qn];simp only [Hp.write];rw [Hp.set_other _ _ (by omega),Hp.set_other _ _ (fun e=>r (by rw [e];rfl))];rfl
theorem CY {o:Nat} {l:List Int} (v:qJ c o l.length=l.map fun n=>I n):qJ c (o+1) l.tail.length=l.tail.map fun n=>I n:=by
 cases l with
 | nil=>simp [qJ]
 | cons x l =>
   simp only [List.tail_cons,qm5] at v ⊢;have:=qnH List.tail v;simp only [wI,List.tail_cons] at this;rw [<-this];simp only [qJ,<-qnk];cases h:List.drop o c with
   | nil=>simp
   | cons y Y=>simp
def AccR (h:List HObj) (x:AV) (l:List Int):Prop:=(x = .sl true 0 []/\l=[])\/∃ id,x = .ms id 0 l.length 1/\l≠[]/\qu h id=some (.cells (l.map fun n=>I n))
theorem AccR.row {y x l} (h:AccR y x l):RowIs y x l:=by
 rcases h with h | ⟨id,rfl,_,h⟩
 . exact .inl h
 exact .inr ⟨id,0,_,rfl,h,by simp,by simp [qJ];rw [qmn (by simp)]⟩
theorem AccR.mono {y H x l} (h:AccR y x l) (O:∀ i,rid x=some i->qu H i=qu y i):AccR H x l:=by
 rcases h with h | ⟨id,rfl,q,e⟩
 . exact .inl h
 exact .inr ⟨id,rfl,q,(O id rfl).trans e⟩
theorem AccR.out {y x l} (h:AccR y x l):Out (Ls l.isEmpty l) x y:=by
 rcases h with ⟨rfl,rfl⟩ | ⟨id,rfl,q,O⟩
 . exact ⟨[],rfl⟩
 have e:l.isEmpty=false:=by simpa using q
 rw [e];exact BK O rfl
theorem sJ {E:HE} {g:Opd} {p k:List Nat} {x y:AC} {fr:List (Nat×AV)} {hp:List HObj} {K0:List HObj->Prop}
 (u:E.R (evF (get fr) g) hp (fun X h K=>hpf h hp.length=some (.lp .ready (hp.length+1))/\X.length=p.length /\
    AWP P E x { fr:=putPs p X fr,hp:=h } (Exit.th (fun s=>hpf s.hp hp.length=some (.lp .ready (hp.length+1)) /\
     AWP P E y { fr:=s.fr,hp:=qz s.hp hp.length (.lp .busy (hp.length+1)) } (Jq hp.length K)) (fun _ _=>False))) K0)
 (v:∀ h,K0 h->Vu hp.length fr k Q h) (n:(x.noRf&&y.noRf)=true:=by rfl):AWP P E (.rf g p x y k) ⟨fr,hp⟩ Q:=⟨n,K0,u,v⟩
theorem ze (h:List HObj) (i:Nat):hpf h i=qu h i:=(qn h i).symm
theorem Nq {id:Nat} {fr:List (Nat×AV)} {k:List Nat} {hp:List HObj} {m:Nat} (h:qu hp id=some (.lp .ready m)) (q:Q .normal (St.keep { fr:=fr,hp:=hp.set id .gone } k)):Vu id fr k Q hp:=by simp only [Vu,ze,h];have:=qw h;simp only [qz,this,qmA];exact q
abbrev LLs (g:Bool) (ls:List (Bool×List Int)):AV := .sl g ls.length (ls.map fun p=>Ls p.1 p.2)
theorem az {F:Nat->AV} {p:List HObj} {K:AV->List (Nat×HObj)->Prop} {sz:Nat} {x y:Opd} {id off n m:Nat} {ys:List AV} (v:evF F x = .ms id off n sz) (j:elems (hpf p) sz (evF F y)=some (m,ys)) (u:((ys.take (Nat.min m n*sz)).all AV.isPC)=true)
 (h:qu p id=some (.cells c)) (l:off+n*sz<=c.length) (k:K (I (Nat.min m n:Nat)) [(id,.cells (splice c off (ys.take (Nat.min m n*sz))))]):(AOp.cpy d sz x y).wp P F p K:=by
 refine ⟨_,_,?_,k⟩;simp only [AOp.sem,v];exact ⟨m,ys,c,j,u,by rw [ze];exact h,trivial,l,rfl,rfl⟩
theorem To:∀ (n:Nat) (x:AV),zh n [x]=List.replicate n x
 | 0,_=>rfl
 | n+1,x=>by simp [zh,To n x,List.replicate_succ]
theorem GT (l:List Int):((l.map fun n=>I n).all AV.isPC)=true:=by rw [LL];intro x h;obtain ⟨n,_,rfl⟩:=gm.1 h;rfl
theorem Rv {p:List HObj} {l m:List Int} {g:Bool} {K:AV->List (Nat×HObj)->Prop} (h:RowIs p x l) (q:l.length<=1000000) (s:m.length<=1000000)
 (z:∀ w,(∀ i,i<p.length->rid x≠some i->qu (qf p w) i=qu p i)->p.length<(qf p w).length->qu (qf p w) p.length=some (.cells ((l++m).map fun n=>I n))->(∀ i∈w.map (·.1),i=p.length\/rid x=some i)->K (.ms p.length 0 (l.length+m.length) 1) w) :
 gz p 1 8 x (Ls g m) K:=by
 rcases h with ⟨rfl,rfl⟩ | ⟨id,off,c,rfl,j,o,y⟩
 . rw [Rw];have v:qu (qf p [(p.length,HObj.cells ([]++m.map fun n=>I n))]) p.length=some (.cells (m.map fun n=>I n)):=by rw [qY (by simp)];simp [Hp.write,Hp.set_same]
   refine ⟨⟨rfl,by simp,GT m,by simp,by simp;omega,by simp;omega,.inl rfl⟩,z _ (fun i u _=>?_) (qw v) v (fun i u=>by simp at u;exact .inl u)⟩;rw [qY (by simp),qn];simp only [Hp.write];rw [Hp.set_other _ _ (by omega)];rfl
 have t:=qw j;rw [Ru,j,Vw];have v:qu (qf p [(id,HObj.gone),(p.length,HObj.cells (qJ c off (l.length*1)++m.map fun n=>I n))]) p.length=some (.cells ((l++m).map fun n=>I n)):=by rw [qY (by simp;omega)];simp only [Hp.write,Hp.set_same,qnj,y];simp
 refine ⟨⟨by simp,GT m,rfl,by omega,by omega,by omega⟩,z _ (fun i u r=>?_) (qw v) v (fun i u=>by simp at u;rcases u with rfl | rfl;exact .inr rfl;exact .inl rfl)⟩;rw [qY (by simp;omega),qn];simp only [Hp.write];rw [Hp.set_other _ _ (by omega),Hp.set_other _ _ (fun e=>r (by rw [e];rfl))];rfl
theorem DT {p:List HObj} {id n:Nat} (h:qu p id=some (.cells (l.map fun n=>I n))) (u:n=l.length):qH (hpf p) (.ms id 0 n 1)=some (Ls false l,[id]):=by subst u;simp only [qH,qR];rw [JT (by rw [ze];exact h) ⟨by simp,VQ l⟩];simp only [qJ,qpi,qnj];rw [qmn (by simp)]
theorem DS {h:Hp} {f:Bool} :qH h (Ls f l)=some (Ls f l,[]):=rfl
theorem iE {E:HE} {N:Bool} {x:Opd} {o:List AOp} {r:List (Nat×AV)} {h:List HObj} {K:St->Prop} {f:Bool} {n:Nat} {cs:List AV} (j:evF (get r) x = .sl f n cs)
 (u:cs=[]->∀ c,zz P E o ⟨(d,.v (.bool c))::r,h⟩ K) (v:cs≠[]->zz P E o ⟨(d,.v (.bool N))::r,h⟩ K):zz P E (.isn d N 0 x::o) ⟨r,h⟩ K:=by
 simp only [zz,aop,AOp.many,j];cases cs with
 | nil=>exact ⟨u rfl false,u rfl true⟩
 | cons a l=>exact v (by simp)
def MkR (h:List HObj) (x:AV) (l:List Int):Prop:=(x = .sl true 0 []/\l=[])\/∃ id,x = .ms id 0 l.length 1/\qu h id=some (.cells (l.map fun n=>I n))
theorem MkR.pur {q x l} (h:MkR q x l):∃ f ids,qH (hpf q) x=some (Ls f l,ids)/\∀ i∈ids,rid x=some i/\i<q.length:=by
 rcases h with ⟨rfl,rfl⟩ | ⟨id,rfl,e⟩
 . exact ⟨true,[],rfl,fun i y=>by simp at y⟩
 exact ⟨false,[id],DT e rfl,fun i y=>by simp at y;subst y;exact ⟨rfl,qw e⟩⟩
theorem Dn {F:Nat->AV} {h:List HObj} {K:AV->List (Nat×HObj)->Prop} {n:Nat} {x:Opd} {cs:List AV} (u:evF F x = .sl true n cs) (k:K (I n) []):(AOp.cap d x).wp P F h K:=by refine ⟨_,_,?_,k⟩;simp only [AOp.sem,u];exact ⟨by trivial,by first | rfl | trivial,by first | rfl | trivial⟩
theorem Ob {F:Nat->AV} {h:List HObj} {K:AV->List (Nat×HObj)->Prop} {m:Nat} {z:AV} {x k:Opd} (v:evF F x = .sl true 0 []) (u:evF F k=I m) (b:m*8<=140737488355328) (j:K (.ms h.length 0 m 1) [(h.length,.cells (zh m [z]))]) :
 (AOp.appz d 1 8 [z] x k).wp P F h K:=by
 refine ⟨_,_,?_,j⟩;simp only [AOp.sem,v,u];refine ⟨m,rfl,?_⟩;simp only [zG];exact ⟨by trivial,by first | rfl | trivial,by omega,by omega,by simp,by simp⟩
def Fzn (h:List HObj) (d:List Nat) (r f:List (Nat×AV)):Prop :=
 ∀ t,get f t=get r t\/∃ s,qH (hpf h) (get r t)=some (get f t,s)/\∀ i∈s,i∈d
theorem Fzn.refl {y ids fr}:Fzn y ids fr fr:=fun _ => .inl rfl
theorem Fzn.keep {q ids y fr'} (h:Fzn q ids y fr'):Fzn q ids ((k,x)::y) ((k,x)::fr'):=fun t=>by
 rw [VL,VL];split
 . exact .inl rfl
 exact h t
theorem Fzn.new {hp ids fr fr'} {k:Nat} {y:AV} {q:List Nat} (O:qH (hpf hp) x=some (y,q)) (e:∀ i∈q,i∈ids) (h:Fzn hp ids fr fr'):Fzn hp ids ((k,x)::fr) ((k,y)::fr'):=fun t=>by
 rw [VL,VL];split
 . exact .inr ⟨q,O,e⟩
 exact h t
theorem DP {f fr':List (Nat×AV)} {u:List HObj} {ids:List Nat} (h:Fzn u ids f fr') (d:∀ i∈ids,∃ C,hpf u i=some (.cells C)):St.le ⟨f,u⟩ ⟨fr',qf u (gones ids)⟩:=by
 rintro N a w g ⟨j,v,o⟩;obtain ⟨k,A⟩:=o.giveAll ids d;have e:hpf (qf u (gones ids))=Hp.write (hpf u) (gones ids):=zN fun p u=>by simp only [gones,gm] at u;obtain ⟨i,z,rfl⟩:=u;obtain ⟨C,c⟩:=d i z;exact qmu (qF c)
 refine ⟨_,⟨j,?_,by rw [e];exact k⟩,by rw [e];exact A⟩;intro t;rcases h t with h | ⟨y,h,s⟩
 . show Rep _ _ _ (get fr' t) _;rw [h];exact (v t).mono A.tr
 exact (Yy o h s (v t)).of
theorem Lf {p:Hp} {g:G} {w:World} (h:HeapOK p g w) {id:Nat} {u C:List AV} {s:List Nat} (X:p id=some (.cells u)) (h2:zC p u=some (C,s)) (n:id∉s)
 (m:∀ i∈s,∃ u,p i=some (.cells u)) (r:C.length=u.length/\∀ j (hj:j<u.length) (x3:j<C.length) v,Rep w g false u[j] v->Rep w (g.pub (Qn p g s)) true C[j] v) :
 HeapOK (Hp.set (Hp.write p (gones s)) id (.cells C)) (g.pub (Qn p g s)) w/\Upd p g w (Hp.set (Hp.write p (gones s)) id (.cells C)) (g.pub (Qn p g s)) w:=by
 obtain ⟨k,A⟩:=h.giveAll s m;have t:Hp.write p (gones s) id=some (.cells u):=by rw [zE,if_neg n];exact X
 obtain ⟨l0,D,E⟩:=k.rep id _ t;have T:=A.tr;have N:g.ρ id=some l0:=D;obtain ⟨l1,J,K⟩:=h.rep id _ X;rw [N] at J;cases J
 have new:HRep w (g.pub (Qn p g s)) (.cells C) l0:=by
  cases l0 with
  | virg =>have e:u=[]:=K;have:C=[]:=qmk (by rw [r.1,e];rfl);exact this
  | base L=>exact E.elim
  | blk c d =>
    obtain ⟨a,ty,fz,Q,a2,a3,a4,a5⟩:=E;obtain ⟨R,x4,x0,V,b2,b3,b4,b5⟩:=K;rw [Q] at V;cases V;refine ⟨a,ty,fz,Q,by rw [r.1];exact a2,a3,a4,fun i z=>?_⟩;have y:i<u.length:=by rw [<-r.1];exact z
    obtain ⟨x,x1,x2⟩:=b5 i y;exact ⟨x,x1,(r.2 i y z x x2).of⟩
 have tr:Trans w (g.pub (Qn p g s)) w (g.pub (Qn p g s)) := .refl _ _;have live:(HObj.cells C).live=(HObj.cells u).live:=rfl;refine ⟨k.change (fun i=>i=id) tr (fun i z=>Hp.set_other _ _ z) (fun _ _=>rfl) (fun _ _ _ _ _ _ _ _=>rfl) (fun _ _ _ _ _ _ _ _ _ hq=>hq) ?_ ?_ k.ex,A.trans ⟨tr,?_,fun b q hs => .inl hs,fun b hb _=>rfl⟩⟩
 . rintro i rfl;exact ⟨_,l0,Hp.set_same _ _ _,D,new⟩
 . intro i Z o o' c d d' z O f Y M l P;subst z;by_cases e:Z=i
   . exact e.symm
   rw [Hp.set_other _ _ e] at f;exact k.inj i Z _ o' c d d' t f rfl M l P
 rintro c ⟨i,o,d,O,Y,l⟩;by_cases e:i=id
 . subst e;exact .inl ⟨i,_,d,t,rfl,l⟩
 rw [Hp.set_other _ _ e] at O;exact .inl ⟨i,o,d,O,Y,l⟩
theorem Ei {H:List HObj} {a:AV} (h:AccR H a l):Out (Ls l.isEmpty l) a H:=by
 rcases h with ⟨rfl,rfl⟩ | ⟨id,rfl,v,u⟩
 . exact Zd (is:=[]) rfl
 have e:l.isEmpty=false:=by cases l <;> simp_all
 rw [e];exact BK u rfl
theorem QJ {E:HE} {c:AC} {K:Exit->St->Prop} (h:∀ u,u=K->AWP P E c s u):AWP P E c s K:=h K rfl
variable {P:Program}
def AWS (P:Program) (A:AC) (st:St) (Q:Exit->St->Prop):Prop :=
 ∀ (N:Nat) (c:Go.Code) (a:Act) (w:World) (g:G) (R:Exit->Act->World->Prop) (r:Option Nat) (n:Nat),
   NI P N c A->(r=none\/A.noRf=true)->Sim N st a w g->Dc N st a w g Q R->c.wpIn (W r) n P R a w
theorem NW (h:AWP P (E1 P) A s Q):AWS P A s Q:=fun N c a w g R o n f r u l =>
 zw (E:=E1 P) (w1:=w) (g1:=g) gf sP f r h (.refl _ _) u l
theorem ef {j:St} (l:St.le j s) (h:AWS P A s Q):AWS P A j Q:=fun N c a w g R x n f r q o=>by obtain ⟨i,u,v⟩:=l N a w g q;exact h _ _ _ _ _ _ _ _ f r u fun e t z k y b m p d=>o e t z k y b m (v.trans p) d
theorem MD {x y:AC} {t:St} (h:AWS P x t (Exit.th (fun t=>AWS P y t Q) Q)):AWS P (.seq x y) t Q:=fun N c a w g R o n f z p l=>by
 cases c <;> first | exact f.elim | skip
 rename_i C c2;have r:o=none\/x.noRf=true:=z.imp (fun h=>h) (fun h=>by simp [AC.noRf] at h;exact h.1);have u:o=none\/y.noRf=true:=z.imp (fun h=>h) (fun h=>by simp [AC.noRf] at h;exact h.2);refine wpIn_seq (h _ _ _ _ _ _ _ _ f.1 r p fun e L O V T q s v d=>?_);cases e with
 | normal=>exact q _ _ _ _ _ _ _ _ f.2 u s (fun e j A M m k i b D=>l e j A M m k i (v.trans b) (d.trans v.tr.size b D))
 | _=>exact l _ _ _ _ _ q s v d
theorem qN {x y:AC} (h:AWP P (E1 P) x s (Exit.th (fun s=>AWS P y s Q) Q)):AWS P (.seq x y) s Q:=MD (NW h)
theorem Km {f:FuncId} {z:Func} {T:List Nat} {x:List AV} {hp:List HObj} {K:AV->List HObj->Prop} (hf:P.funcs[f]?=some z) (Q:qg P z T=some A) (b:zc z.results.toList=some T)
 (hl:x.length<=z.ntmps) (h:AWS P A { fr:=Jx 0 x,hp:=hp } (Mp T K)):qB P f x hp K:=by
 simp only [qg,RL] at Q;obtain ⟨c,J,rfl⟩:=Q;have y:=Qu (P:=P) (N:=z.ntmps) (rt:=T) (ex:=[]) (l:=T) (zK c);have b:=JV (P:=P) b;rw [<-Us] at h;intro ro n w g vs k d o
 have Y:CallsIn (W none) n P f vs w fun e u=>∃ v r p j,e = .returned v/\K r p/\Rep u j false r v/\HeapOK (hpf p) j u/\Upd (hpf hp) g w (hpf p) j u:=by
  refine qph hf J trivial (h _ _ _ _ g _ _ _ y (.inl rfl) ?_ ?_) rfl
  . refine ⟨by simp [d];omega,fun t=>?_,k⟩;show Rep w g false (get (Jx 0 x) t) _;rw [Vx];simp only [qmQ,qmA,qoL];by_cases m:t<x.length
    . have E:x.getD t .any=x[t]:=by simp [m]
      rw [E];have:=o t m;simp only [qmB] at this ⊢;rw [qmN (by omega)];exact this
    have E:x.getD t .any = .any:=by simp [qoA m]
    rw [E];exact .any _ _
  intro e s a u j q R hu hd;obtain ⟨X,L,M,O⟩:=hd;simp only [qm3] at L;have fin:(∃ x,Up (hpf s.hp) s.fr (T.map (·,none)) x/\K (NQ x) s.hp)->LeavesInM (W none) n P z a.tmps (fun e u=>∃ v r p j,e = .returned v/\K r p/\Rep u j false r v/\HeapOK (hpf p) j u/\Upd (hpf hp) g w (hpf p) j u) a.defers .returning u:=fun ⟨ys,hy,C⟩=>by rw [L];obtain ⟨V,k2,k3⟩:=YA X u M O R.2.2 hu;refine jm X u M (fun D Z=>(O D Z).2.1) ?_;obtain ⟨v,j1,j2⟩:=JY (P:=P) V (fun i=>(R.2.1 i).mono k3) b hy;exact ⟨v,j1,v,_,_,j,rfl,C,j2,V,k2⟩
  cases e with
  | normal=>exact fin q
  | ret=>exact fin q
  | _=>exact q.elim
 exact Y
variable {P:Program}
def pwN (i:Nat):Nat:=2 ^ i
def orN (a c:Nat):Nat:=a ||| c
theorem BU (h:i<=59):pwN i<2 ^ 60:=Nat.pow_lt_pow_right (by decide) (by omega)
section
variable {K:AV->List (Nat×HObj)->Prop}
end
end Go.AM

namespace Go.AM
open Go.RowKit
variable {x:AV} {Q:Exit->St->Prop} {f:FuncId} {K:KS} {C:List AV} {s d c:Nat} {m v:Opd} {α:Type} {a b:Value} {k:Value->Prop}
def AccG (h:List HObj) (x:AV) (s n:Nat) (c:List AV):Prop :=
 (x = .sl true 0 []/\n=0/\c=[])\/∃ id,x = .ms id 0 n s/\0<n/\qu h id=some (.cells c)/\c.length=n*s/\(c.all AV.isPC)=true
theorem AccG.mono {y H x sz n cs} (h:AccG y x sz n cs) (X:∀ i,rid x=some i->qu H i=qu y i):AccG H x sz n cs:=by
 rcases h with h | ⟨id,rfl,q,e,O⟩
 . exact .inl h
 exact .inr ⟨id,rfl,q,(X id rfl).trans e,O⟩
theorem IG {p:List HObj} {b n:Nat} {ys:List AV} {g:Bool} {K:AV->List (Nat×HObj)->Prop} (h:AccG p x s n C) (u:n<=100000000) (q:b<=1000) (y:ys.length=s) (c:(ys.all AV.isPC)=true)
 (j:∀ w,(∀ i,i<p.length->rid x≠some i->qu (qf p w) i=qu p i)->p.length<(qf p w).length->AccG (qf p w) (.ms p.length 0 (n+1) s) s (n+1) (C++ys)->K (.ms p.length 0 (n+1) s) w) :
 gz p s b x (.sl g 1 ys) K:=by
 have bd:(n+1)*b<=140737488355328:=qmT (Nat.mul_le_mul (show n+1<=100000001 by omega) q) (by decide);rcases h with ⟨rfl,rfl,rfl⟩ | ⟨id,rfl,t,v,z,o⟩
 . rw [Rw];have u:qu (qf p [(p.length,HObj.cells ([]++ys))]) p.length=some (.cells ([]++ys)):=by rw [qY (by simp)];simp [Hp.write,Hp.set_same]
   refine ⟨⟨rfl,by omega,c,by simp,bd,by omega,.inl rfl⟩,j _ (fun i m _=>?_) (qw u) (.inr ⟨p.length,rfl,by omega,u,by simp [y],by simpa using c⟩)⟩;rw [qY (by simp),qn];simp only [Hp.write];rw [Hp.set_other _ _ (by omega)];rfl
 have l:=qw v;rw [Ru,v,Vw];have f:qJ C 0 (n*s)=C:=by simp only [qJ,qpi];rw [qmn (by omega)]
 rw [f];have u:qu (qf p [(id,HObj.gone),(p.length,HObj.cells (C++ys))]) p.length=some (.cells (C++ys)):=by rw [qY (by simp;omega)];simp only [Hp.write,Hp.set_same]
 refine ⟨⟨by omega,c,rfl,by omega,bd,by omega⟩,j _ (fun i m r=>?_) (qw u) (.inr ⟨p.length,rfl,by omega,u,?_,?_⟩)⟩
 . rw [qY (by simp;omega),qn];simp only [Hp.write];rw [Hp.set_other _ _ (by omega),Hp.set_other _ _ (fun e=>r (by rw [e];rfl))];rfl
 . rw [qmI,z,y,qm0,Nat.one_mul]
 rw [List.all_append,o,c];rfl
theorem GX {f fr':List (Nat×AV)} {v:List HObj} {id:Nat} {c:List AV} {s:List Nat} (j:qu v id=some (.cells C)) (z:zC (hpf v) C=some (c,s)) (q:id∉s) (m:Fzn v s f fr') :
 St.le ⟨f,v⟩ ⟨fr',qf v (gones s++[(id,.cells c)])⟩:=by
 rintro N a w g ⟨k,b,o⟩;have d:=Jh z;obtain ⟨n,Q⟩:=Lf o (by rw [qn] at j;exact j) z q d (Jj o z fun i h=>h)
 have lt:∀ p∈gones s++[(id,HObj.cells c)],p.1<=v.length:=fun p u=>by
  rw [xm] at u;rcases u with u | u
  . simp only [gones,gm] at u;obtain ⟨i,r,rfl⟩:=u;obtain ⟨C,y⟩:=d i r;exact qmu (qF y)
  simp at u;subst u;exact qmu (qw j)
 have e:hpf (qf v (gones s++[(id,.cells c)]))=Hp.set (Hp.write (hpf v) (gones s)) id (.cells c):=by rw [zN lt,jV]
 refine ⟨_,⟨k,?_,by rw [e];exact n⟩,by rw [e];exact Q⟩;intro t;rcases m t with h | ⟨J,h,l⟩
 . show Rep _ _ _ (get fr' t) _;rw [h];exact (b t).mono Q.tr
 exact (Yy o h l (b t)).of
theorem DU {v:List HObj} {ids:List Nat} {j:Nat} (h:∀ i∈ids,i<v.length) (o:j∉ids):qu (qf v (gones ids)) j=qu v j:=by
 have z:∀ p∈gones ids,p.1<=v.length:=fun p u=>by simp only [gones,gm] at u;obtain ⟨i,y,rfl⟩:=u;exact qmu (h i y)
 rw [qY z,zE,if_neg o,qn];rfl
theorem SL {a:Nat} {f:List (Nat×AV)} {h:List HObj} {id off:Nat} {c:List AV} {K:AV->List HObj->Prop} (u:get f a = .ref id off) (v:qu h id=some (.cells c)) (j:off+s<=c.length) (k:K (.agg (qJ c off s)) h) :
 bm [(a,some (true,s))] K .ret ⟨f,h⟩:=by
 refine ⟨[.agg (qJ c off s)],⟨?_,trivial⟩,k⟩;simp only [ZM,u,ze,v];exact ⟨trivial,j,trivial⟩
section
variable {P:Program} {F:Nat->AV} {hp:List HObj} {K:AV->List (Nat×HObj)->Prop}
theorem SR {l:Nat} {x:Opd} {id off:Nat} {c:List AV} (v:evF F x = .ref id off) (h:qu hp id=some (.cells c)) (u:off+l*s<=c.length) (k:K (.mc id off l l s) []):(AOp.slp d s l x none none none).wp P F hp K:=by refine ⟨_,_,?_,k⟩;simp only [AOp.sem,v,ze,h];exact ⟨0,l,l,(by first | rfl | trivial),(by first | rfl | trivial),(by first | rfl | trivial),qmQ _,Qs _,Qs _,u,by simp,(by first | rfl | trivial)⟩
theorem bu {z:List AV} {x:Opd} {id off n c:Nat} (u:evF F x = .mc id off n c s) (h:qu hp id=some (.cells C)) (l:off+n*s<=C.length) (k:K .any [(id,.cells (splice C off (zh n z)))]):(AOp.clr s z x).wp P F hp K:=by refine ⟨_,_,?_,k⟩;simp only [AOp.sem,u,ze,h];exact ⟨C,(by first | rfl | trivial),(by first | rfl | trivial),l,(by first | rfl | trivial),(by first | rfl | trivial)⟩
theorem Fs {x y:Opd} {id off n c m:Nat} {ys:List AV} (u:evF F x = .mc id off n c s) (h:qu hp id=some (.cells C)) (l:off+n*s<=C.length) (v:elems (hpf hp) s (evF F y)=some (m,ys)) (p:((ys.take (Nat.min m n*s)).all AV.isPC)=true)
 (k:K (I (Nat.min m n:Nat)) [(id,.cells (splice C off (ys.take (Nat.min m n*s))))]):(AOp.cpy d s x y).wp P F hp K:=by
 refine ⟨_,_,?_,k⟩;simp only [AOp.sem,u];exact ⟨m,ys,C,v,p,by rw [ze];exact h,(by first | rfl | trivial),l,(by first | rfl | trivial),(by first | rfl | trivial)⟩
theorem Ft {x y:Opd} {id off n m:Nat} {c ys:List AV} (u:evF F x = .ms id off n s) (h:qu hp id=some (.cells c)) (l:off+n*s<=c.length) (v:elems (hpf hp) s (evF F y)=some (m,ys)) (p:((ys.take (Nat.min m n*s)).all AV.isPC)=true)
 (k:K (I (Nat.min m n:Nat)) [(id,.cells (splice c off (ys.take (Nat.min m n*s))))]):(AOp.cpy d s x y).wp P F hp K:=by
 refine ⟨_,_,?_,k⟩;simp only [AOp.sem,u];exact ⟨m,ys,c,v,p,by rw [ze];exact h,(by first | rfl | trivial),l,(by first | rfl | trivial),(by first | rfl | trivial)⟩
theorem FG {id off n:Nat} (h:qu hp id=some (.cells C)) (l:off+n*s<=C.length):elems (hpf hp) s (.mc id off n c s)=some (n,qJ C off (n*s)):=by simp only [elems,ze,h];rw [if_pos ⟨trivial,l⟩]
theorem FH {h:Hp} {f:Bool} {n:Nat} {c:List AV} (l:c.length=n*s):elems h s (.sl f n c)=some (n,c):=by simp only [elems];rw [if_pos l]
end
section
variable {P:Program} {E:HE} {fr:List (Nat×AV)} {hp:List HObj} {F:Nat->AV} {os:List AOp} {KS:St->Prop} {K:AV->List (Nat×HObj)->Prop}
theorem GS {i:Nat} {o:HObj} (h:qu hp i=some o):hpf hp i=some o:=by rw [ze];exact h
def qfv (hp:List HObj) (x:AV) (K:AV->List (Nat×HObj)->Prop):Prop:=match x with
 | .mp id=>match qu hp id with
   | some (.mp _ c)=>K (.ref hp.length 0) [(hp.length,.it id c [] c)]
   | some (.mpp Φ)=>∀ e c,Φ e c->K (.ref hp.length 0) [(id,.mp e c),(hp.length,.it id c [] c)]
   | _=>False
 | _=>False
def qgI (hp:List HObj) (x:AV) (K:AV->List (Nat×HObj)->Prop):Prop:=(AOp.nxt 0 (.k x)).many (evF fun _ => .any) (hpf hp) hp.length K
def qgA (hp:List HObj) (x:AV) (K:AV->List (Nat×HObj)->Prop):Prop:=(AOp.ent 0 (.k x)).many (evF fun _ => .any) (hpf hp) hp.length K
theorem nW {a A}:zz P E (.rng a A::os) ⟨fr,hp⟩ KS=qfv hp (evF (get fr) A) (zt P E os (some a) fr hp KS):=by show (AOp.rng a A).many (evF (get fr)) (hpf hp) hp.length (zt P E os (some a) fr hp KS)=_;simp only [AOp.many,qfv,ze];rfl
theorem nV {a A}:zz P E (.nxt a A::os) ⟨fr,hp⟩ KS=qgI hp (evF (get fr) A) (zt P E os (some a) fr hp KS):=rfl
theorem nU {a A}:zz P E (.ent a A::os) ⟨fr,hp⟩ KS=qgA hp (evF (get fr) A) (zt P E os (some a) fr hp KS):=rfl
end
abbrev Ent:=Value×Nat×AV
def kvE (e:Ent):Value×AV:=(e.1,e.2.2)
theorem MP {a b:ByteArray}:(a==b)=true↔a=b:=by
 constructor
 . intro h;have v:(a.data==b.data)=true:=h;have u:a.data=b.data:=qoa v;cases a;cases b;simp only at u;rw [u]
 intro h;subst h;show (a.data==a.data)=true;simp
theorem Wy {l:Leaf} {t:Bool} (h:Qb l a b=some t):t=true↔a=b:=by
 unfold Qb at h;split at h
 . split at h
   . rename_i k;cases h;subst k;simp
   cases h
 . cases h;simp
 . cases h;rw [MP];simp
 cases h
theorem Xk:∀ {L:List Leaf} {as s:List Value} {t:Bool},qo L as s=some t->(t=true↔as=s)
 | [],[],[],t,h=>by cases h;simp
 | l::L,a::as,b::s,t,h=>by
   simp only [qo] at h;split at h
   . rename_i u;have E:=(Wy u).1 rfl;rw [Xk h];simp [E]
   . rename_i u;cases h;have E:¬ a=b:=fun e=>by have:=(Wy u).2 e;cases this
     simp [E]
   cases h
 | [],[],_::_,t,h=>by simp [qo] at h
 | [],_::_,_,t,h=>by simp [qo] at h
 | _::_,[],_,t,h=>by simp [qo] at h
 | _::_,_::_,[],t,h=>by simp [qo] at h
theorem Jb {k:KS} {t:Bool} (h:eqK k a b=some t):t=true↔a=b:=by
 unfold eqK at h;split at h
 . rename_i l as s;rw [Xk h];constructor
   . intro e;have:as=s:=by cases as;cases s;simpa using e
     rw [this]
   intro e;cases e;rfl
 . exact Wy h
 cases h
theorem KY {K:KS} {k:Value}:∀ {E:List Ent} {n:Nat},(∀ e∈E,∃ t,eqK K k e.1=some t)->(∀ e∈E,e.1≠k)->zO K k E n=some none
 | [],n,_,_=>rfl
 | e::E,n,d,u=>by
   obtain ⟨t,v⟩:=d e (by simp)
   have:t=false:=by
    cases t with
    | false=>rfl
    | true=>exact absurd ((Jb v).1 rfl).symm (u e (by simp))
   subst this;simp only [zO,v];exact KY (fun e h=>d e (by simp [h])) (fun e h=>u e (by simp [h]))
theorem GZ {s:KS} {K:Value} {u:Ent}:∀ {E:List Ent} {n:Nat},(∀ e∈E,∃ t,eqK s K e.1=some t)->(E.map (·.1)).Nodup->u∈E->u.1=K->∃ i,E[i]?=some u/\zO s K E n=some (some (n+i))
 | [],n,_,_,h,_=>by cases h
 | e::E,n,d,z,h,k=>by
   obtain ⟨t,j⟩:=d e (by simp);rw [wI,qm7] at z;rcases sg.1 h with v | v
   . subst v;have:t=true:=(Jb j).2 k.symm;subst this;exact ⟨0,rfl,by simp only [zO,j];rfl⟩
   have:t=false:=by
    cases t with
    | false=>rfl
    | true =>have y:=(Jb j).1 rfl;exact absurd (gm.2 ⟨u,v,by rw [k,y]⟩) z.1
   subst this;obtain ⟨i,o,q⟩:=GZ (n:=n+1) (fun e g=>d e (by simp [g])) z.2 v k;exact ⟨i+1,by simpa using o,by simp only [zO,j];rw [q];congr 2;omega⟩
structure Sh (es es':List Ent) (c:Nat):Prop where
 perm:(es.map kvE).Perm (es'.map kvE)
 keys:(es'.map (·.1)).Nodup
 born:(es'.map (·.2.1)).Nodup
 clk:∀ e∈es',e.2.1<c
theorem Be (e:List Ent):(e.map kvE).map (·.1)=e.map (·.1):=by rw [qmU];rfl
theorem Sh.keysE {y e c} (h:Sh y e c):(y.map (·.1)).Perm (e.map (·.1)):=by have:=h.perm.map (·.1);rwa [Be,Be] at this
theorem Sh.len {e es' c} (h:Sh e es' c):es'.length=e.length:=by have:=h.perm.length_eq;simpa using this.symm
theorem Sh.nil:Sh [] [] 0:=⟨.nil,by simp,by simp,by simp⟩
theorem Sh.to {O y c} (h:Sh O y c) {e:Ent} (A:e∈O):∃ q∈y,q.1=e.1/\q.2.2=e.2.2:=by have:=h.perm.mem_iff.1 (gm.2 ⟨e,A,rfl⟩);obtain ⟨q,K,X⟩:=gm.1 this;simp only [kvE,qmm] at X;exact ⟨q,K,X⟩
theorem Sh.back {O y c} (h:Sh O y c) {e:Ent} (A:e∈y):∃ q∈O,q.1=e.1/\q.2.2=e.2.2:=by have:=h.perm.mem_iff.2 (gm.2 ⟨e,A,rfl⟩);obtain ⟨q,K,X⟩:=gm.1 this;simp only [kvE,qmm] at X;exact ⟨q,K,X⟩
theorem iN {E:List Ent} (h:(E.map (·.1)).Nodup) {a b:Ent} (j:a∈E) (z:b∈E) (e:a.1=b.1):a=b:=by
 induction E with
 | nil=>cases j
 | cons x E i =>
   rw [wI,qm7] at h;rcases sg.1 j with v | v
   . rcases sg.1 z with u | u
     . rw [v,u]
     exact absurd (gm.2 ⟨b,u,by rw [<-e,v]⟩) h.1
   rcases sg.1 z with u | u
   . exact absurd (gm.2 ⟨a,v,by rw [e,u]⟩) h.1
   exact i h.2 v u
theorem Oe {E:List Ent} (h:(E.map (·.2.1)).Nodup) {a b:Ent} (j:a∈E) (z:b∈E) (e:a.2.1=b.2.1):a=b:=by
 induction E with
 | nil=>cases j
 | cons x E i =>
   rw [wI,qm7] at h;rcases sg.1 j with v | v
   . rcases sg.1 z with u | u
     . rw [v,u]
     exact absurd (gm.2 ⟨b,u,by rw [<-e,v]⟩) h.1
   rcases sg.1 z with u | u
   . exact absurd (gm.2 ⟨a,v,by rw [e,u]⟩) h.1
   exact i h.2 v u
def UP (n:Nat):Value := .int .i64 (n:Int)
def Yq (l:List Nat):Value := .agg (l.map UP).toArray
theorem yX {a b:Nat} (h:UP a=UP b):a=b:=by unfold UP at h;injection h with _ e;exact Int.ofNat.inj e
theorem XN {a b:List Nat} (h:Yq a=Yq b):a=b:=by
 unfold Yq at h;injection h with h;have u:a.map UP=b.map UP:=by have:=qnH Array.toList h;simp only [List.toList_toArray] at this;exact this
 exact (List.map_inj_right fun x y e=>yX e).1 u
def Nw (C:List (List Nat×Nat)) (l:List Nat):Nat:=((C.filter fun p=>p.1==l).map (·.2)).sum
structure Shw (es':List Ent) (clk:Nat) (C:List (List Nat×Nat)):Prop where
 keys:(es'.map (·.1)).Nodup
 born:(es'.map (·.2.1)).Nodup
 clk:∀ e∈es',e.2.1<clk
 ent:∀ e∈es',∃ l∈C.map (·.1),e.1=Yq l/\e.2.2 = .v (.int .i64 (IntKind.i64.wrap (Nw C l:Nat)))
 all:∀ l∈C.map (·.1),∃ e∈es',e.1=Yq l
def Wf (w:Nat):Nat->List Nat->List (List Nat×Nat)
 | 0,_=>[]
 | c+1,seen=>match seen with
   | []=>[]
   | a::t=>(t.take w,a)::Wf w c (t.drop w)
inductive PK where
 | pin (E:List Ent) (c:Nat) (V:List Value) (E0:List Ent)
 | ex (o:HObj)
 | add (B:List (List Nat×Nat))
abbrev ZZ:=Nat->Option PK
structure PinR (E:List Ent) (V:List Value) (E0:List Ent) (k:Nat) (es es':List Ent):Prop where
 sub:es'.Sublist E
 stay:∀ e∈E,e.1∉V->e∈es'
 old:∀ e∈es,e∈E0
 mark:k≠1->∀ e∈es,e.2.1=k->e.1∈V
def nmP:HObj->Bool
 | .mpp _=>false
 | _=>true
def qkO:HObj->Bool
 | .it .. => true
 | _=>false
theorem uD {z:HObj} (h:qkO z=true):nmP z=true:=by cases z <;> first | rfl | cases h
def HR1:Option PK->HObj->HObj->Prop
 | some (.ex z),o,o'=>o = .gone/\o'=z/\qkO z=true
 | some (.add B),.it w c seen _,o'=>∃ e C,o' = .mp e C/\Shw e C (Wf w c seen++B)/\∀ p∈Wf w c seen++B,p.1.length=w
 | some (.add _),.gone,o'=>nmP o'=true
 | some (.add _),_,_=>False
 | some (.pin E c V u),o,o'=>∃ s k e,o = .mp s k/\k≠0/\o' = .mp e c/\Sh s e c/\PinR E V u k s e
 | none,.gone,o'=>nmP o'=true
 | none,.mp s k,o'=>k=0/\∃ e c,o' = .mp e c/\Sh s e c
 | none,.mpp _,_=>False
 | none,.it ..,_=>False
 | none,o,o'=>o'=o
theorem Ht {z:Option PK} {o O:HObj} (h:HR1 z o O):nmP O=true:=by
 unfold HR1 at h;split at h
 . rw [h.2.1];exact uD h.2.2
 . obtain ⟨_,_,rfl,_⟩:=h;rfl
 . exact h
 . exact h.elim
 . obtain ⟨_,_,_,_,_,rfl,_⟩:=h;rfl
 . exact h
 . obtain ⟨_,_,_,rfl,_⟩:=h;rfl
 . exact h.elim
 . exact h.elim
 rename_i v j u y;subst h;unfold nmP;split
 . rename_i Φ;exact absurd rfl (u Φ)
 rfl
structure HR (Z:ZZ) (hp hq:List HObj):Prop where
 len:hq.length=hp.length
 new:∀ i,hp.length<=i->Z i=none
 obj:∀ (i:Nat) (o o':HObj),hp[i]?=some o->hq[i]?=some o'->HR1 (Z i) o o'
theorem HR.nil:HR (fun _=>none) [] []:=⟨rfl,fun _ _=>rfl,fun i o O h=>by simp at h⟩
theorem HR.at {Z hp q} (h:HR Z hp q) {i:Nat} {o:HObj} (e:hp[i]?=some o):∃ o',q[i]?=some o'/\HR1 (Z i) o o':=by
 have y:i<q.length:=by rw [h.len];exact (qml.1 e).1
 exact ⟨q[i],Wd y,h.obj i o _ e (Wd y)⟩
theorem HR.cel {Z q e} (h:HR Z q e) {id:Nat} {cs:List AV} (K:hpf q id=some (.cells cs)):hpf e id=some (.cells cs)/\Z id=none:=by
 obtain ⟨A,O,y⟩:=h.at K;cases hz:Z id with
 | none=>rw [hz] at y;exact ⟨by rw [<-(show A = .cells cs from y)];exact O,rfl⟩
 | some z =>
   rw [hz] at y;cases z with
   | ex z=>cases y.1
   | add B=>exact y.elim
   | pin E c V E0=>obtain ⟨_,_,_,X,_⟩:=y;cases X
theorem HR.lp {Z e O} (h:HR Z e O) {id:Nat} {s q} (A:hpf e id=some (.lp s q)):hpf O id=some (.lp s q)/\Z id=none:=by
 obtain ⟨o',X,y⟩:=h.at A;cases hz:Z id with
 | none=>rw [hz] at y;exact ⟨by rw [<-(show o' = .lp s q from y)];exact X,rfl⟩
 | some z =>
   rw [hz] at y;cases z with
   | ex z=>cases y.1
   | add B=>exact y.elim
   | pin E c V E0=>obtain ⟨_,_,_,K,_⟩:=y;cases K
theorem HR.mp {Z hp A} (h:HR Z hp A) {id:Nat} {e k} (hi:hpf hp id=some (.mp e k)):∃ es' c,hpf A id=some (.mp es' c)/\Sh e es' c/\((Z id=none/\k=0)\/∃ E V q,Z id=some (.pin E c V q)/\k≠0/\PinR E V q k e es'):=by
 obtain ⟨o',K,y⟩:=h.at hi;cases hz:Z id with
 | none =>rw [hz] at y;obtain ⟨X,es',c,rfl,O⟩:=y;exact ⟨es',c,K,O,.inl ⟨rfl,X⟩⟩
 | some z =>
   rw [hz] at y;cases z with
   | ex z=>cases y.1
   | add B=>exact y.elim
   | pin E c V q =>obtain ⟨x0,k2,es',O,X,rfl,h4,h5⟩:=y;cases O;exact ⟨es',c,K,h4,.inr ⟨E,V,q,rfl,X,h5⟩⟩
theorem HR.set {Z X hq} (h:HR Z X hq) {id:Nat} {o o':HObj} (x0:id<=X.length) (ho:HR1 (Z id) o o'):HR Z (qz X id o) (qz hq id o'):=by
 unfold qz;rw [h.len];by_cases y:id<X.length
 . rw [if_pos y,if_pos y];refine ⟨by simp [h.len],fun i K=>h.new i (by simpa using K),fun i a A q O=>?_⟩;by_cases e:id=i
   . subst e;rw [qm9 y] at q;rw [qm9 (by rw [h.len];exact y)] at O;cases q;cases O;exact ho
   rw [qmY e] at q O;exact h.obj i a A q O
 rw [if_neg y,if_neg y];have e0:id=X.length:=by omega
 subst e0;refine ⟨by simp [h.len],fun i K=>h.new i (by simp at K;omega),fun i a A q O=>?_⟩;by_cases K:i<X.length
 . rw [qmw K] at q;rw [qmw (by rw [h.len];exact K)] at O;exact h.obj i a A q O
 have hl:=(qml.1 q).1;simp at hl;have e1:i=X.length:=by omega
 subst e1;rw [qmy (Qs _)] at q;rw [qmy (by rw [h.len];exact Qs _)] at O;simp [h.len] at q O;subst q O;exact ho
def HObj.self:HObj->Bool
 | .cells _ | .gone | .lp .. => true
 | .mp [] 0=>true
 | _=>false
theorem KP {o:HObj} (h:o.self=true):HR1 none o o:=by
 unfold HObj.self at h;split at h
 . rfl
 . trivial
 . rfl
 . exact ⟨rfl,[],0,rfl,.nil⟩
 cases h
theorem HR.write {Z:ZZ}:∀ {ws:List (Nat×HObj)} {hp q:List HObj},HR Z hp q->(∀ p∈ws,Z p.1=none/\p.1<=hp.length/\p.2.self=true)->HR Z (qf hp ws) (qf q ws)
 | [],hp,q,h,_=>h
 | (id,o)::ws,hp,q,h,y=>by obtain ⟨e,O,X⟩:=y (id,o) (by simp);show HR Z (qf (qz hp id o) ws) (qf (qz q id o) ws);refine HR.write (h.set O (by rw [e];exact KP X)) fun p hp'=>?_;obtain ⟨K,A,k3⟩:=y p (by simp [hp']);exact ⟨K,qmT A (XZ _ _ _),k3⟩
theorem HR.pur {Z e O} (h:HR Z e O) {r} (X:qH (hpf e) x=some r):qH (hpf O) x=some r:=by obtain ⟨y,is⟩:=r;exact Xs X fun i K=>by obtain ⟨A,q⟩:=jT X i K;rw [(h.cel q).1,q]
theorem HR.purA {Z hp e} (h:HR Z hp e) {xs:List AV} {r} (O:qj (hpf hp) xs=some r):qj (hpf e) xs=some r:=by obtain ⟨y,A⟩:=r;exact zg O fun i X=>by obtain ⟨K,q⟩:=qS O i X;rw [(h.cel q).1,q]
theorem HR.elems {Z O X} (h:HR Z O X) {sz:Nat} {x:AV} {r} (y:elems (hpf O) sz x=some r):elems (hpf X) sz x=some r:=by
 cases x with
 | ms id off n e =>
   simp only [AM.elems] at y ⊢;split at y
   . rename_i q;rw [(h.cel q).1];exact y
   cases y
 | mc id off n c e =>
   simp only [AM.elems] at y ⊢;split at y
   . rename_i q;rw [(h.cel q).1];exact y
   cases y
 | _=>exact y
theorem HR.gones {Z hp e} (h:HR Z hp e) {xs ys:List AV} {ids:List Nat} (O:qj (hpf hp) xs=some (ys,ids)):∀ p∈gones ids,Z p.1=none/\p.1<=hp.length/\p.2.self=true:=fun p hp'=>by simp only [AM.gones,gm] at hp';obtain ⟨i,q,rfl⟩:=hp';obtain ⟨X,y⟩:=qS O i q;exact ⟨(h.cel y).2,qmu (qF y),rfl⟩
theorem HR.app {Z hp hq} (h:HR Z hp hq) {r:AV} {ws:List (Nat×HObj)} {sz e m:Nat} {x:AV} {ys:List AV} (q:zG (hpf hp) hp.length r ws sz e x m ys):zG (hpf hq) hq.length r ws sz e x m ys/\∀ p∈ws,Z p.1=none/\p.1<=hp.length/\p.2.self=true:=by
 have A:=h.new hp.length (Qs _);rw [h.len];simp only [zG] at q ⊢;split at q
 . refine ⟨q,?_⟩;obtain ⟨_,_,_,_,_,_,rfl⟩:=q;intro p y;simp at y;subst y;exact ⟨A,Qs _,rfl⟩
 . split at q
   . rename_i O;obtain ⟨X,K⟩:=h.cel O;rw [X];refine ⟨q,?_⟩;obtain ⟨_,_,_,_,_,rfl⟩:=q;intro p y;simp at y;rcases y with rfl | rfl
     . exact ⟨K,qmu (qF O),rfl⟩
     exact ⟨A,Qs _,rfl⟩
   exact q.elim
 . split at q
   . rename_i O;obtain ⟨X,K⟩:=h.cel O;rw [X];refine ⟨q,?_⟩;obtain ⟨_,_,_,_,q⟩:=q;rcases q with ⟨_,_,_,rfl⟩ | ⟨_,_,rfl⟩
     . intro p y;simp at y;subst y;exact ⟨K,qmu (qF O),rfl⟩
     intro p y;simp at y;subst y;exact ⟨A,Qs _,rfl⟩
   exact q.elim
 exact q.elim
def AOp.noMap:AOp->Bool
 | .ins .. | .lku .. | .mpe .. | .est .. | .del .. | .lnm .. | .call .. | .callv .. | .callx .. | .rng .. | .nxt .. | .ent .. | .isn .. => false
 | _=>true
theorem HR.sem {Z hp hq} (h:HR Z hp hq) {P:Program} {o:AOp} (O:o.noMap=true) {ev:Opd->AV} {r:AV} {ws:List (Nat×HObj)} (q:o.sem P ev (hpf hp) hp.length r ws):o.sem P ev (hpf hq) hq.length r ws/\∀ p∈ws,Z p.1=none/\p.1<=hp.length/\p.2.self=true:=by
 have hn:=h.new hp.length (Qs _);have nil:∀ {ws:List (Nat×HObj)},ws=[]->∀ p∈ws,Z p.1=none/\p.1<=hp.length/\p.2.self=true:=fun e p hp'=>by subst e;simp at hp'
 have one:∀ {ws:List (Nat×HObj)} {id:Nat} {cs:List AV},Z id=none->id<=hp.length->ws=[(id,.cells cs)]->∀ p∈ws,Z p.1=none/\p.1<=hp.length/\p.2.self=true:=fun e1 e2 e3 p hp'=>by subst e3;simp at hp';subst hp';exact ⟨e1,e2,rfl⟩
 rw [h.len];cases o with
 | st sz a x =>
   simp only [AOp.sem,Ux] at q ⊢;split at q
   . split at q
     . rename_i X;obtain ⟨A,h2⟩:=h.cel X;rw [A];exact ⟨q,one h2 (qmu (qF X)) q.2.2.2.1⟩
     exact q.elim
   exact q.elim
 | ld d agg sz x =>
   simp only [AOp.sem,ZM] at q ⊢;split at q
   . exact ⟨q,nil q.1⟩
   . split at q
     . rename_i X;rw [(h.cel X).1];exact ⟨q,nil q.1⟩
     exact q.elim
   exact q.elim
 | box=>exact ⟨q,one hn (Qs _) q.2.2.2⟩
 | al=>exact ⟨q,one hn (Qs _) q.2⟩
 | mks =>obtain ⟨k,A,h2,K,h4,h5,h6,h7⟩:=q;exact ⟨⟨k,A,h2,K,h4,h5,h6,h7⟩,one hn (Qs _) h7⟩
 | bsl =>
   obtain ⟨ys,ids,A,h2,K⟩:=q;rcases K with ⟨K,rfl⟩ | ⟨rfl,rfl⟩
   . exact ⟨⟨ys,ids,h.purA A,h2,.inl ⟨K,rfl⟩⟩,h.gones A⟩
   refine ⟨⟨ys,ids,h.purA A,h2,.inr ⟨rfl,rfl⟩⟩,fun p hp'=>?_⟩;rcases xm.1 hp' with k | k
   . exact h.gones A p k
   simp at k;subst k;exact ⟨hn,Qs _,rfl⟩
 | app d sz bytes x y =>obtain ⟨m,ys,A,h2,K⟩:=q;obtain ⟨h4,h5⟩:=h.app K;rw [h.len] at h4;exact ⟨⟨m,ys,h.elems A,h2,h4⟩,h5⟩
 | cpy d sz x y =>
   simp only [AOp.sem] at q ⊢;split at q
   . obtain ⟨m,ys,cs,A,h2,X,K,h4,h5,h6⟩:=q;exact ⟨⟨m,ys,cs,h.elems A,h2,(h.cel X).1,K,h4,h5,h6⟩,one (h.cel X).2 (qmu (qF X)) h6⟩
   . obtain ⟨m,ys,cs,A,h2,X,K,h4,h5,h6⟩:=q;exact ⟨⟨m,ys,cs,h.elems A,h2,(h.cel X).1,K,h4,h5,h6⟩,one (h.cel X).2 (qmu (qF X)) h6⟩
   exact q.elim
 | clr =>
   simp only [AOp.sem] at q ⊢;split at q
   . obtain ⟨cs,X,K,h4,h5,h6⟩:=q;exact ⟨⟨cs,(h.cel X).1,K,h4,h5,h6⟩,one (h.cel X).2 (qmu (qF X)) h6⟩
   . obtain ⟨cs,X,K,h4,h5,h6⟩:=q;exact ⟨⟨cs,(h.cel X).1,K,h4,h5,h6⟩,one (h.cel X).2 (qmu (qF X)) h6⟩
   exact q.elim
 | appz d sz bytes z x y =>obtain ⟨m,A,K⟩:=q;obtain ⟨h4,h5⟩:=h.app K;rw [h.len] at h4;exact ⟨⟨m,A,h4⟩,h5⟩
 | b2s =>obtain ⟨bs,A,h2,K⟩:=q;exact ⟨⟨bs,h.elems A,h2,K⟩,nil K⟩
 | apps d bytes x y =>
   simp only [AOp.sem] at q ⊢;split at q
   . obtain ⟨h4,h5⟩:=h.app q;rw [h.len] at h4;exact ⟨h4,h5⟩
   exact q.elim
 | slp =>
   simp only [AOp.sem] at q ⊢;split at q
   . split at q
     . rename_i X;rw [(h.cel X).1];refine ⟨q,?_⟩;obtain ⟨_,_,_,_,_,_,_,_,_,_,_,h6⟩:=q;exact nil h6
     exact q.elim
   . refine ⟨q,?_⟩;obtain ⟨_,_,_,_,_,_,_,_,_,h6⟩:=q;exact nil h6
   exact q.elim
 | mkm =>refine ⟨q,fun p hp'=>?_⟩;obtain ⟨_,rfl⟩:=q;simp at hp';subst hp';exact ⟨hn,Qs _,rfl⟩
 | ins=>cases O
 | lku=>cases O
 | mpe=>cases O
 | est=>cases O
 | del=>cases O
 | lnm=>cases O
 | call=>cases O
 | callv=>cases O
 | callx=>cases O
 | rng=>cases O
 | nxt=>cases O
 | ent=>cases O
 | isn=>cases O
 | s2b =>
   simp only [AOp.sem] at q ⊢;split at q
   . exact ⟨q,nil q.2⟩
   exact q.elim
 | _ =>have e:ws=[]:=Ns rfl q;refine ⟨?_,nil e⟩;exact q
def lfP (l:Leaf) (a b:Value) (k:Bool->Prop):Prop:=match l with
 | .int=>(match a with
   | .int d x=>(match b with
     | .int K y=>ksP d K (eqZ x y k)
     | _=>False)
   | _=>False)
 | .bool=>(match a with
   | .bool x=>(match b with
     | .bool y=>fbP (x==y) k
     | _=>False)
   | _=>False)
 | .str=>(match Qb .str a b with
   | some t=>fbP t k
   | none=>False)
theorem bV {l:Leaf} {k:Bool->Prop} (h:lfP l a b k):∃ t,Qb l a b=some t/\k t:=by
 unfold lfP at h;split at h
 . split at h
   . split at h
     . obtain ⟨v,u⟩:=bU h;subst v;rw [FP] at u;exact ⟨_,by simp only [Qb,qmA],u⟩
     exact h.elim
   exact h.elim
 . split at h
   . split at h
     . rw [jk] at h;exact ⟨_,rfl,h⟩
     exact h.elim
   exact h.elim
 split at h
 . rename_i t j;rw [jk] at h;exact ⟨t,j,h⟩
 exact h.elim
def SZ (as b:List Value) (k:Prop):Prop:=match as,b with
 | [],[]=>k
 | _,_=>False
theorem CU {as b:List Value} {k:Prop} (h:SZ as b k):as=[]/\b=[]/\k:=by
 unfold SZ at h;split at h
 . exact ⟨rfl,rfl,h⟩
 exact h.elim
def lvP (L:List Leaf) (as s:List Value) (k:Bool->Prop):Prop:=List.rec (motive:=fun _=>List Value->List Value->(Bool->Prop)->Prop)
 (fun as s k=>SZ as s (k true))
 (fun l _ i as s k=>match as with
  | a::as=>(match s with
    | b::s=>lfP l a b fun t=>Bool.rec (motive:=fun _=>Prop) (k false) (i as s k) t
    | []=>False)
  | []=>False) L as s k
theorem bX:∀ {L:List Leaf} {as s:List Value} {k:Bool->Prop},lvP L as s k->∃ t,qo L as s=some t/\k t
 | [],as,s,k,h=>by obtain ⟨rfl,rfl,h⟩:=CU (show SZ as s (k true) from h);exact ⟨true,rfl,h⟩
 | l::L,[],s,k,h=>(show False from h).elim
 | l::L,a::as,[],k,h=>(show False from h).elim
 | l::L,a::as,b::s,k,h=>by
   have h:lfP l a b (fun t=>Bool.rec (motive:=fun _=>Prop) (k false) (lvP L as s k) t):=h;obtain ⟨t,u,v⟩:=bV h;cases t with
   | false=>exact ⟨false,by simp only [qo,u],v⟩
   | true =>obtain ⟨t,j,z⟩:=bX (show lvP L as s k from v);exact ⟨t,by simp only [qo,u];exact j,z⟩
def Mc (K:KS) (a b:Value) (k:Bool->Prop):Prop:=match K with
 | (true,L)=>(match a with
   | .agg as=>(match b with
     | .agg s=>lvP L as.toList s.toList k
     | _=>False)
   | _=>False)
 | (false,[l])=>lfP l a b k
 | _=>False
theorem Vd {k:Bool->Prop} (h:Mc K a b k):∃ t,eqK K a b=some t/\k t:=by
 unfold Mc at h;split at h
 . split at h
   . split at h
     . exact bX h
     exact h.elim
   exact h.elim
 . obtain ⟨t,u,v⟩:=bV h;exact ⟨t,by simp only [eqK];exact u,v⟩
 exact h.elim
def vP (a:AV) (k:Value->Prop):Prop:=match a with
 | .v x=>k x
 | _=>False
theorem qjr {a:AV} (h:vP a k):∃ x,a = .v x/\k x:=by
 unfold vP at h;split at h
 . exact ⟨_,rfl,h⟩
 exact h.elim
def vlP (c:List AV) (k:List Value->Prop):Prop:=List.rec (motive:=fun _=>(List Value->Prop)->Prop) (fun k=>k []) (fun a _ i k=>vP a fun x=>i fun l=>k (x::l)) c k
theorem nQ:∀ {c:List AV} {k:List Value->Prop},vlP c k->∃ l,lO c=some l/\k l
 | [],k,h=>⟨[],rfl,h⟩
 | a::c,k,h=>by obtain ⟨x,rfl,u⟩:=qjr (show vP a (fun x=>vlP c fun l=>k (x::l)) from h);obtain ⟨l,v,j⟩:=nQ u;exact ⟨x::l,by simp only [lO,v,qm6],j⟩
def lP (x:AV) (k:Value->Prop):Prop:=match x with
 | .v y=>k y
 | .agg c=>vlP c fun l=>k (.agg ⟨l⟩)
 | _=>False
theorem Rd (h:lP x k):∃ v,x.val=some v/\k v:=by
 unfold lP at h;split at h
 . exact ⟨_,rfl,h⟩
 . obtain ⟨l,u,j⟩:=nQ h;exact ⟨.agg l.toArray,by simp only [AV.val,u,qm6],j⟩
 exact h.elim
def Iv (s:KS) (x:AV) (k:Value->Prop):Prop:=lP x fun K=>Mc s K K fun t=>okP t (k K)
theorem WF {s:KS} (h:Iv s x k):∃ K,x.val=some K/\eqK s K K=some true/\k K:=by obtain ⟨K,u,v⟩:=Rd h;obtain ⟨t,j,z⟩:=Vd v;obtain ⟨y,o⟩:=qt z;subst y;exact ⟨K,u,j,o⟩
def mpP (x:AV) (h:List HObj) (k:Nat->List Ent->Nat->Prop):Prop:=match x with
 | .mp id=>XS h id fun o=>(match o with
   | .mp e c=>k id e c
   | _=>False)
 | _=>False
theorem VT {p:List HObj} {k:Nat->List Ent->Nat->Prop} (h:mpP x p k):∃ id e c,x = .mp id/\hpf p id=some (.mp e c)/\k id e c:=by
 unfold mpP at h;split at h
 . obtain ⟨o,v,u⟩:=zW h;split at u
   . exact ⟨_,_,_,rfl,v,u⟩
   exact u.elim
 exact h.elim
def Def (k:KS) (K:Value) (E:List Ent):Prop:=∀ e∈E,∃ t,eqK k K e.1=some t
theorem Sh.dfd {q y c K O} (h:Sh q y c) (hd:Def K O q):Def K O y:=fun e he=>by obtain ⟨X,A,h2,_⟩:=h.back he;rw [<-h2];exact hd X A
def lkP (K:KS) (v:Value) (E:List Ent) (k:Option AV->Prop):Prop:=List.rec (motive:=fun _=>(Option AV->Prop)->Prop) (fun k=>k none)
 (fun e _ i k=>i fun r=>Prod.rec (motive:=fun _=>Prop) (fun y b=>Prod.rec (motive:=fun _=>Prop) (fun _ x=>Mc K v y fun t=>Bool.rec (motive:=fun _=>Prop) (k r) (Option.rec (motive:=fun _=>Prop) (k (some x)) (fun _=>False) r) t) b) e) E k
theorem bW {s:KS} {K:Value}:∀ {E:List Ent} {k:Option AV->Prop},lkP s K E k->Def s K E/\((∃ e∈E,e.1=K/\k (some e.2.2))\/((∀ e∈E,e.1≠K)/\k none))
 | [],k,h=>⟨(fun e q=>by cases q),.inr ⟨(fun e q=>by cases q),h⟩⟩
 | (y,b,x)::E,k,h=>by
   have h:lkP s K E (fun r=>Mc s K y fun t=>Bool.rec (motive:=fun _=>Prop) (k r) (Option.rec (motive:=fun _=>Prop) (k (some x)) (fun _=>False) r) t):=h;obtain ⟨m,o⟩:=bW h
   have fin:∀ {r:Option AV},Mc s K y (fun t=>Bool.rec (motive:=fun _=>Prop) (k r) (Option.rec (motive:=fun _=>Prop) (k (some x)) (fun _=>False) r) t)->(∃ t,eqK s K y=some t)/\((y=K/\r=none/\k (some x))\/(y≠K/\k r)):=fun {r} h=>by
    obtain ⟨t,u,v⟩:=Vd h;refine ⟨⟨t,u⟩,?_⟩;cases t with
    | true =>
      cases r with
      | none=>exact .inl ⟨((Jb u).1 rfl).symm,rfl,v⟩
      | some r=>exact (show False from v).elim
    | false =>refine .inr ⟨fun e=>?_,v⟩;have:=(Jb u).2 e.symm;cases this
   rcases o with ⟨e,q,f,o⟩ | ⟨n,o⟩
   . obtain ⟨d,u⟩:=fin o;refine ⟨fun z j=>?_,?_⟩
     . rcases sg.1 j with v | v
       . subst v;exact d
       exact m z v
     rcases u with ⟨_,u,_⟩ | ⟨_,u⟩
     . cases u
     exact .inl ⟨e,by simp [q],f,u⟩
   obtain ⟨d,u⟩:=fin o;refine ⟨fun z j=>?_,?_⟩
   . rcases sg.1 j with v | v
     . subst v;exact d
     exact m z v
   rcases u with ⟨u,_,v⟩ | ⟨u,v⟩
   . exact .inl ⟨(y,b,x),by simp,u,v⟩
   refine .inr ⟨fun z j=>?_,v⟩;rcases sg.1 j with g | g
   . subst g;exact u
   exact n z g
theorem Sh.find {O y c ks K} (h:Sh O y c) (hd:Def ks K O) {e:Ent} (he:e∈O) (A:e.1=K):∃ i q,zO ks K y 0=some (some i)/\y[i]?=some q/\q.1=K/\q.2.2=e.2.2:=by obtain ⟨q,h1,X,h3⟩:=h.to he;obtain ⟨i,h4,h5⟩:=GZ (n:=0) (h.dfd hd) h.keys h1 (X.trans A);exact ⟨i,q,by rw [h5,qnt],h4,X.trans A,h3⟩
theorem Sh.miss {q y c O K} (h:Sh q y c) (hd:Def O K q) (hn:∀ e∈q,e.1≠K):zO O K y 0=some none/\∀ e∈y,e.1≠K:=by
 have:∀ e∈y,e.1≠K:=fun e he=>by obtain ⟨X,A,h2,_⟩:=h.back he;rw [<-h2];exact hn X A
 exact ⟨KY (h.dfd hd) this,this⟩
theorem bv {l:List α} {i:Nat} {a:α} (h:l[i]?=some a):∃ x y,l=x++a::y/\x.length=i:=by obtain ⟨u,h⟩:=qml.1 h;refine ⟨l.take i,l.drop (i+1),?_,by simp;omega⟩;rw [<-h,List.getElem_cons_drop,qnD]
theorem CA {x y:List α} {a b:α}:(x++a::y).set x.length b=x++b::y:=by rw [List.set_append_right _ _ (Qs _)];simp
theorem FQ {x y:List α} {a:α}:(x++a::y).eraseIdx x.length=x++y:=by rw [qnK (Qs _)];simp
theorem XU {x y X Y:List Ent} {a a':Ent} (h:((x++a::y).map kvE).Perm ((X++a'::Y).map kvE)) (e:kvE a=kvE a'):((x++y).map kvE).Perm ((X++Y).map kvE):=by have v:((a::(x++y)).map kvE).Perm ((x++a::y).map kvE):=(List.perm_middle.symm).map _;have j:((X++a'::Y).map kvE).Perm ((a'::(X++Y)).map kvE):=List.perm_middle.map _;have u:=(v.trans h).trans j;rw [wI,wI,e] at u;exact u.cons_inv
theorem vO {x y X Y:List Ent} {b u:Ent} (h:((x++y).map kvE).Perm ((X++Y).map kvE)) (e:kvE b=kvE u):((x++b::y).map kvE).Perm ((X++u::Y).map kvE):=by have v:((x++b::y).map kvE).Perm ((b::(x++y)).map kvE):=List.perm_middle.map _;have j:((u::(X++Y)).map kvE).Perm ((X++u::Y).map kvE):=(List.perm_middle.symm).map _;refine v.trans (.trans ?_ j);rw [wI,wI,e];exact h.cons _
theorem Sh.upd {x y x' y':List Ent} {e O:Ent} (h:Sh (x++e::y) (x'++O::y') c) (A:O.1=e.1) (hv:O.2.2=e.2.2) (b:Nat) (v:AV):Sh (x++(e.1,b,v)::y) (x'++(O.1,O.2.1,v)::y') c:=by
 have p:=XU h.perm (by simp only [kvE,A,hv]);refine ⟨vO p (by simp only [kvE,A]),?_,?_,fun q hq=>?_⟩
 . have:=h.keys;simpa using this
 . have:=h.born;simpa using this
 rcases xm.1 hq with X | X
 . exact h.clk q (by simp [X])
 rcases sg.1 X with K | K
 . subst K;exact h.clk O (by simp)
 exact h.clk q (by simp [K])
theorem Sh.app {es y:List Ent} (h:Sh es y c) {K:Value} (hn:∀ e∈y,e.1≠K) (b:Nat) (v:AV):Sh ((K,b,v)::es) (y++[(K,c,v)]) (c+1):=by
 refine ⟨?_,?_,?_,fun q X=>?_⟩
 . have h2:((K,c,v)::y).map kvE |>.Perm ((y++[(K,c,v)]).map kvE):=(qo6 (l₁:=[(K,c,v)]) (l₂:=y)).map _;refine .trans ?_ h2;rw [wI,wI];exact h.perm.cons _
 . rw [qmD,qns];refine ⟨h.keys,by simp,fun a ha b O=>?_⟩;simp at O;subst O;obtain ⟨q,X,rfl⟩:=gm.1 ha;exact hn q X
 . rw [qmD,qns];refine ⟨h.born,by simp,fun a ha b O=>?_⟩;simp at O;subst O;obtain ⟨q,X,rfl⟩:=gm.1 ha;exact qof (h.clk q X)
 rcases xm.1 X with A | A
 . exact Nat.lt_succ_of_lt (h.clk q A)
 simp at A;subst A;exact qoB _
theorem Sh.del {x y X A:List Ent} {e K:Ent} (h:Sh (x++e::y) (X++K::A) c) (hk:K.1=e.1) (hv:K.2.2=e.2.2):Sh (x++y) (X++A) c:=by have O:(X++A).Sublist (X++K::A):=(List.Sublist.refl X).append (List.sublist_cons_self _ _);exact ⟨XU h.perm (by simp only [kvE,hk,hv]),h.keys.sublist (O.map _),h.born.sublist (O.map _),fun q hq=>h.clk q (O.subset hq)⟩
def qia (s:KS) (v:Value) (a:AV) (E:List Ent) (k:List Ent->Bool->Prop):Prop:=List.rec (motive:=fun _=>(List Ent->Bool->Prop)->Prop) (fun k=>k [] false)
 (fun e _ i k=>i fun t b=>Prod.rec (motive:=fun _=>Prop) (fun K x=>Mc s v K fun q=>Bool.rec (motive:=fun _=>Prop) (k ((K,x)::t) b) (Bool.rec (motive:=fun _=>Prop) (k ((K,0,a)::t) true) False b) q) e) E k
theorem AW {s:KS} {K:Value} {a:AV}:∀ {E:List Ent} {k:List Ent->Bool->Prop},qia s K a E k->Def s K E/\((∃ x e y,E=x++e::y/\e.1=K/\k (x++(e.1,0,a)::y) true)\/((∀ e∈E,e.1≠K)/\k E false))
 | [],k,h=>⟨(fun e g=>by cases g),.inr ⟨(fun e g=>by cases g),h⟩⟩
 | (j,m)::E,k,h=>by
   have h:qia s K a E (fun t b=>Mc s K j fun q=>Bool.rec (motive:=fun _=>Prop) (k ((j,m)::t) b) (Bool.rec (motive:=fun _=>Prop) (k ((j,0,a)::t) true) False b) q):=h;obtain ⟨l,o⟩:=AW h
   have dfd:(∃ t,eqK s K j=some t)->Def s K ((j,m)::E):=fun d f v=>by
    rcases sg.1 v with u | u
    . subst u;exact d
    exact l f u
   rcases o with ⟨x,e,y,g,p,o⟩ | ⟨n,o⟩
   . obtain ⟨t,z,u⟩:=Vd o;cases t with
     | true=>exact (show False from u).elim
     | false=>exact ⟨dfd ⟨_,z⟩,.inl ⟨(j,m)::x,e,y,by rw [g];rfl,p,u⟩⟩
   obtain ⟨t,z,u⟩:=Vd o;cases t with
   | true=>exact ⟨dfd ⟨_,z⟩,.inl ⟨[],(j,m),E,rfl,((Jb z).1 rfl).symm,u⟩⟩
   | false =>
     refine ⟨dfd ⟨_,z⟩,.inr ⟨fun f v=>?_,u⟩⟩;rcases sg.1 v with r | r
     . subst r;intro e;have:=(Jb z).2 e.symm;cases this
     exact n f r
def qgl (s:KS) (K:Value) (a:AV) (id:Nat) (e:List Ent) (h:List HObj) (k:Bool->List HObj->Prop):Prop :=
 qia s K a e fun t b=>Bool.rec (motive:=fun _=>Prop) (jf h id (.mp ((K,0,a)::t) 0) (k false)) (jf h id (.mp t 0) (k true)) b
def cn (K:KS) (k:Value) (a:AV) (id:Nat) (q:List HObj) (e:List Ent) (c:Nat) (b:Bool) (h:List HObj):Prop :=
 (b=true/\∃ i E,zO K k e 0=some (some i)/\e[i]?=some E/\h=qz q id (.mp (e.set i (E.1,E.2.1,a)) c)) \/
 (b=false/\zO K k e 0=some none/\h=qz q id (.mp (e++[(k,c,a)]) (c+1)))
theorem Cz {l:KS} {K:Value} {a:AV} {id:Nat} {z:List Ent} {p:List HObj} {k:Bool->List HObj->Prop} (h:qgl l K a id z p k) :
 ∃ b u,k b u/\∀ Z j E c,HR Z p j->Z id=none->id<=p.length->Sh z E c->∃ q,cn l K a id j E c b q/\HR Z u q:=by
 obtain ⟨m,h⟩:=AW h;rcases h with ⟨x,e,y,L,f,h⟩ | ⟨M,h⟩
 . refine ⟨true,qz p id (.mp (x++(e.1,0,a)::y) 0),qT (show jf _ _ _ _ from h),fun Z j E c r g d s=>?_⟩;subst L;obtain ⟨i,t,o,v,w,n⟩:=s.find m (e:=e) (by simp) f;refine ⟨_,.inl ⟨rfl,i,t,o,v,rfl⟩,r.set d ?_⟩;obtain ⟨X,Y,rfl,rfl⟩:=bv v;rw [g,CA];exact ⟨rfl,_,_,rfl,s.upd (w.trans f.symm) n 0 a⟩
 refine ⟨false,qz p id (.mp ((K,0,a)::z) 0),qT (show jf _ _ _ _ from h),fun Z j E c r g d s=>?_⟩;obtain ⟨o,v⟩:=s.miss m M;refine ⟨_,.inr ⟨rfl,o,rfl⟩,r.set d ?_⟩;rw [g];exact ⟨rfl,_,_,rfl,s.app v 0 a⟩
def qhG (s:KS) (v:Value) (E:List Ent) (k:List Ent->Option Nat->Prop):Prop:=List.rec (motive:=fun _=>(List Ent->Option Nat->Prop)->Prop) (fun k=>k [] none)
 (fun e _ i k=>i fun t b=>Prod.rec (motive:=fun _=>Prop) (fun K x=>Mc s v K fun q=>Bool.rec (motive:=fun _=>Prop) (k ((K,x)::t) b) (Option.rec (motive:=fun _=>Prop) (k t (some x.1)) (fun _=>False) b) q) e) E k
theorem FB {s:KS} {K:Value}:∀ {E:List Ent} {k:List Ent->Option Nat->Prop},qhG s K E k->Def s K E/\((∃ x e y,E=x++e::y/\e.1=K/\k (x++y) (some e.2.1))\/((∀ e∈E,e.1≠K)/\k E none))
 | [],k,h=>⟨(fun e m=>by cases m),.inr ⟨(fun e m=>by cases m),h⟩⟩
 | (z,o)::E,k,h=>by
   have h:qhG s K E (fun t b=>Mc s K z fun q=>Bool.rec (motive:=fun _=>Prop) (k ((z,o)::t) b) (Option.rec (motive:=fun _=>Prop) (k t (some o.1)) (fun _=>False) b) q):=h;obtain ⟨l,g⟩:=FB h
   have dfd:(∃ t,eqK s K z=some t)->Def s K ((z,o)::E):=fun d f v=>by
    rcases sg.1 v with u | u
    . subst u;exact d
    exact l f u
   rcases g with ⟨x,e,y,m,p,g⟩ | ⟨n,g⟩
   . obtain ⟨t,j,u⟩:=Vd g;cases t with
     | true=>exact (show False from u).elim
     | false=>exact ⟨dfd ⟨_,j⟩,.inl ⟨(z,o)::x,e,y,by rw [m];rfl,p,u⟩⟩
   obtain ⟨t,j,u⟩:=Vd g;cases t with
   | true=>exact ⟨dfd ⟨_,j⟩,.inl ⟨[],(z,o),E,rfl,((Jb j).1 rfl).symm,u⟩⟩
   | false =>
     refine ⟨dfd ⟨_,j⟩,.inr ⟨fun f v=>?_,u⟩⟩;rcases sg.1 v with r | r
     . subst r;intro e;have:=(Jb j).2 e.symm;cases this
     exact n f r
def Sy (P:Program) (o:AOp) (X:K1->K1):Prop:=∀ (c:K1) (f:FrL) (p:List HObj),X c f p ->
 ∃ r h i,(∀ Z q,HR Z p q->∃ w,o.sem P (evF (get f)) (hpf q) q.length r w/\HR Z h (qf q w)/\w.map (·.1)=i)/\c (zb f o.dst r) h
section
variable {P:Program}
theorem YI {o:AOp} {X:K1->K1} (n:o.noMap=true) (h:Sx P o X):Sy P o X:=fun c f p x=>by obtain ⟨r,w,v,j⟩:=h c f p x;refine ⟨r,qf p w,w.map (·.1),fun Z q u=>?_,j⟩;obtain ⟨z,y⟩:=u.sem n v;exact ⟨w,z,u.write y,rfl⟩
def eD (d:Nat) (K:KS) (z:AV) (o:Bool) (m k:Op1):K1->K1:=fun c f h=>m f fun x=>k f fun y=>mpP x h fun _ e _=>Iv K y fun u=>lkP K u e fun r =>
 Option.rec (motive:=fun _=>Prop) (c ((d,bif o then .tup [z,B false] else z)::f) h) (fun v=>c ((d,bif o then .tup [v,B true] else v)::f) h) r
theorem MR {z:AV} {O:Bool} {k:Opd}:Sy P (.lku d K z O m k) (eD d K z O (qK m) (qK k)):=fun c M p h=>by
 unfold eD at h;rw [qi,qi] at h;obtain ⟨id,L,x,hm,g,h⟩:=VT h;obtain ⟨s,y,o,h⟩:=WF h;obtain ⟨q,h⟩:=bW h;rcases h with ⟨e,t,w,h⟩ | ⟨n,h⟩
 . refine ⟨_,p,[],fun Z a r=>?_,h⟩;obtain ⟨E,C,u,v,_⟩:=r.mp g;obtain ⟨i,b,j,f,N,l⟩:=v.find q t w;refine ⟨[],?_,r,rfl⟩;simp only [AOp.sem,hm,u];exact ⟨s,y,o,trivial,.inl ⟨i,b,j,f,by rw [l]⟩⟩
 refine ⟨_,p,[],fun Z a r=>?_,h⟩;obtain ⟨E,C,u,v,_⟩:=r.mp g;obtain ⟨j,_⟩:=v.miss q n;refine ⟨[],?_,r,rfl⟩;simp only [AOp.sem,hm,u];exact ⟨s,y,o,trivial,.inr ⟨j,by trivial⟩⟩
def frP (c:Nat) (k:Prop):Prop:=Nat.rec (motive:=fun _=>Prop) k (fun _ _=>False) c
theorem RZ {k:Prop} (h:frP c k):c=0/\k:=by
 cases c with
 | zero=>exact ⟨rfl,h⟩
 | succ n=>exact (show False from h).elim
theorem HR.mp0 {Z O X} (h:HR Z O X) {id:Nat} {q} (hi:hpf O id=some (.mp q 0)):∃ e c,hpf X id=some (.mp e c)/\Sh q e c/\Z id=none:=by
 obtain ⟨e,c,K,A,y⟩:=h.mp hi;rcases y with ⟨y,_⟩ | ⟨_,_,_,_,y,_⟩
 . exact ⟨e,c,K,A,y⟩
 exact absurd rfl y
def TC (K:KS) (m k v:Op1):K1->K1:=fun c f h=>m f fun x=>k f fun y=>v f fun a=>mpP x h fun id e C=>frP C (Iv K y fun u=>qgl K u a id e h fun _ h=>c f h)
theorem VA {s:KS} {K:Opd} {c:K1} {f:FrL} {p:List HObj} (h:TC s (qK m) (qK K) (qK v) c f p):∃ id k b hp',evF (get f) m = .mp id/\id<p.length/\(evF (get f) K).val=some k/\eqK s k k=some true/\c f hp' /\
 ∀ Z u,HR Z p u->∃ E C q,hpf u id=some (.mp E C)/\(E.map (·.2.1)).Nodup/\(∀ e∈E,e.2.1<C)/\cn s k (evF (get f) v) id u E C b q/\HR Z hp' q:=by
 unfold TC at h;rw [qi,qi,qi] at h;obtain ⟨id,i,n,hm,o,h⟩:=VT h;obtain ⟨rfl,h⟩:=RZ h;obtain ⟨k,z,y,h⟩:=WF h;obtain ⟨b,hp',g,l⟩:=Cz h;refine ⟨id,k,b,hp',hm,qF o,z,y,g,fun Z u r=>?_⟩;obtain ⟨E,C,t,j,a⟩:=r.mp0 o;obtain ⟨q,d,w⟩:=l Z u E C r a (qmu (qF o)) j;exact ⟨E,C,q,t,j.born,j.clk,d,w⟩
theorem AX {s:KS} {K:Opd} {id:Nat} {k:Value} {b:Bool} {E:Opd->AV} {q u:List HObj} {e:List Ent} (f:E m = .mp id) (y:(E K).val=some k) (o:eqK s k k=some true) (g:hpf q id=some (.mp e c))
 (h:cn s k (E v) id q e c b u):∃ w,(AOp.ins s m K v).sem P E (hpf q) q.length .any w/\qf q w=u/\w.map (·.1)=[id]:=by
 rcases h with ⟨_,i,j,z,r,rfl⟩ | ⟨_,z,rfl⟩
 . refine ⟨[(id,.mp (e.set i (j.1,j.2.1,E v)) c)],?_,rfl,rfl⟩;simp only [AOp.sem,f,g];exact ⟨k,y,o,trivial,.inl ⟨i,j,z,r,rfl⟩⟩
 refine ⟨[(id,.mp (e++[(k,c,E v)]) (c+1))],?_,rfl,rfl⟩;simp only [AOp.sem,f,g];exact ⟨k,y,o,trivial,.inr ⟨z,by trivial⟩⟩
theorem pR {k:Opd}:Sy P (.ins K m k v) (TC K (qK m) (qK k) (qK v)):=fun c a n h=>by obtain ⟨id,i,b,p,hm,_,j,z,y,o⟩:=VA h;refine ⟨.any,p,[id],fun Z l d=>?_,y⟩;obtain ⟨e,C,t,q,_,_,g,s⟩:=o Z l d;obtain ⟨w,f,r,u⟩:=AX (P:=P) hm j z q g;exact ⟨w,f,by rw [r];exact s,u⟩
def qfU (K:KS) (v:Value) (c id:Nat) (e:List Ent) (h:List HObj) (k:List Nat->List HObj->Prop):Prop:=qhG K v e fun t b =>
 Option.rec (motive:=fun _=>Prop) (k [] h) (fun b=>okP (Nat.beq c 0 || (!Nat.beq c 1&&Nat.beq b c)) (jf h id (.mp t c) (k [id]))) b
def qhc (K:KS) (m k:Op1):K1->K1:=fun c f h=>m f fun x=>k f fun y=>mpP x h fun id e C=>Iv K y fun v=>qfU K v C id e h fun _ h=>c f h
theorem PinR.del {E V E0 k x e y A e' y'} (h:PinR E V E0 k (x++e::y) (A++e'::y')) (hk:e'.1=e.1) (O:k≠1) (hb:e.2.1=k):PinR E V E0 k (x++y) (A++y'):=by
 have x0:(A++y').Sublist (A++e'::y'):=(List.Sublist.refl A).append (List.sublist_cons_self _ _);have K:∀ q∈x++y,q∈x++e::y:=fun q X=>by rcases xm.1 X with O | O <;> simp [O]
 refine ⟨x0.trans h.sub,fun q X hv=>?_,fun q X=>h.old q (K q X),fun O q X=>h.mark O q (K q X)⟩;have:=h.stay q X hv;rcases xm.1 this with O | O
 . exact xm.2 (.inl O)
 rcases sg.1 O with h2 | h2
 . subst h2;exact absurd (by rw [hk];exact h.mark (by assumption) e (by simp) hb) hv
 exact xm.2 (.inr h2)
theorem FA {a:KS} {v:Value} {id:Nat} {L:List Ent} {p:List HObj} {k:List Nat->List HObj->Prop} (h:qfU a v c id L p k) (l:hpf p id=some (.mp L c)) :
 ∃ hp' wi,k wi hp'/\∀ (P:Program) (m K:Opd) (ev:Opd->AV),ev m = .mp id->(ev K).val=some v->eqK a v v=some true->∀ Z u,HR Z p u->∃ n,(AOp.del a m K).sem P ev (hpf u) u.length .any n/\HR Z hp' (qf u n)/\n.map (·.1)=wi:=by
 obtain ⟨Q,h⟩:=FB h;rcases h with ⟨x,e,y,D,f,h⟩ | ⟨J,h⟩
 . obtain ⟨M,Y⟩:=qt (show okP _ _ from h);refine ⟨qz p id (.mp (x++y) c),[id],qT Y,fun P m K ev hm o g Z u r=>?_⟩;subst D;obtain ⟨s,C,b,z,N⟩:=r.mp l;obtain ⟨i,e',w,A,T,k4⟩:=z.find Q (e:=e) (by simp) f;refine ⟨[(id,.mp (s.eraseIdx i) C)],?_,?_,rfl⟩
   . simp only [AOp.sem,hm,b];exact ⟨v,o,g,trivial,.inl ⟨i,w,rfl⟩⟩
   obtain ⟨x',y',rfl,rfl⟩:=bv A;refine r.set (qmu (qF l)) ?_;rw [FQ];have R:=z.del (T.trans f.symm) k4;rcases N with ⟨d,rfl⟩ | ⟨E,V,E0,d,O,t⟩
   . rw [d];exact ⟨rfl,_,_,rfl,R⟩
   rw [d]
   have j:c≠1/\e.2.1=c:=by
    simp only [qm2,qd,qmZ] at M;rcases M with q | ⟨X,q2⟩
    . exact absurd (qe q) O
    exact ⟨(fun e=>by rw [e] at X;cases X),qe q2⟩
   exact ⟨_,_,_,rfl,O,rfl,R,t.del (T.trans f.symm) j.1 j.2⟩
 refine ⟨p,[],h,fun P m K ev hm o g Z u r=>?_⟩;obtain ⟨s,C,b,z,N⟩:=r.mp l;obtain ⟨w,_⟩:=z.miss Q J;refine ⟨[],?_,r,rfl⟩;simp only [AOp.sem,hm,b];exact ⟨v,o,g,trivial,.inr ⟨w,by trivial⟩⟩
theorem pL {k:Opd}:Sy P (.del K m k) (qhc K (qK m) (qK k)):=fun c f y h=>by unfold qhc at h;rw [qi,qi] at h;obtain ⟨id,e,C,hm,o,h⟩:=VT h;obtain ⟨q,u,v,h⟩:=WF h;obtain ⟨p,w,j,z⟩:=FA h o;exact ⟨.any,p,w,z P m k _ hm u v,j⟩
def Md {α:Type} (l:List α) (k:Nat->Prop):Prop:=List.rec (motive:=fun _=>Nat->(Nat->Prop)->Prop) (fun n k=>fnP n k) (fun _ _ i n k=>i (Nat.succ n) k) l 0 k
theorem Si {α:Type}:∀ (l:List α) (n:Nat) (k:Nat->Prop),(List.rec (motive:=fun _=>Nat->(Nat->Prop)->Prop) (fun n k=>fnP n k) (fun _ _ i n k=>i (Nat.succ n) k) l n k:Prop)=k (n+l.length)
 | [],n,k=>qC n k
 | a::l,n,k=>by show (List.rec (motive:=fun _=>Nat->(Nat->Prop)->Prop) (fun n k=>fnP n k) (fun _ _ i n k=>i (Nat.succ n) k) l (Nat.succ n) k:Prop)=_;rw [Si l];congr 1;simp;omega
theorem Jd (l:List α) (k:Nat->Prop):Md l k=k l.length:=by have:=Si l 0 k;rw [qnt] at this;exact this
def eE (d:Nat) (m:Op1):K1->K1:=fun c f h=>m f fun x=>mpP x h fun _ e _=>Md e fun n=>c ((d,.v (.int .i64 (.ofNat n)))::f) h
theorem MS :Sy P (.lnm d m) (eE d (qK m)):=fun c f p h=>by unfold eE at h;rw [qi] at h;obtain ⟨id,E,l,hm,o,h⟩:=VT h;rw [Jd] at h;refine ⟨_,p,[],fun Z q r=>?_,h⟩;obtain ⟨e,C,u,v,_⟩:=r.mp o;refine ⟨[],?_,r,rfl⟩;simp only [AOp.sem,hm,u,v.len];exact ⟨rfl,trivial⟩
def cD:AOp->K1->K1
 | .lku d K z ok m k=>eD d K z ok (qK m) (qK k)
 | .ins K m k v=>TC K (qK m) (qK k) (qK v)
 | .del K m k=>qhc K (qK m) (qK k)
 | .lnm d m=>eE d (qK m)
 | .mpe .. | .est .. => fun _ _ _=>False
 | o=>cOp o
theorem Gh (o:AOp) (h:∀ d f as,o≠.call d f as):Sy P o (cD o):=by
 have n:∀ {O:AOp},(∀ ev p new r w,¬ O.sem P ev p new r w)->Sy P O (cOp O):=fun {O} y c u p h=>by obtain ⟨r,w,j,_⟩:=MU (P:=P) O c u p h;exact absurd j (y _ _ _ _ _)
 cases o with
 | lku d K z ok m k=>exact MR
 | ins K m k v=>exact pR
 | del K m k=>exact pL
 | lnm d m=>exact MS
 | mpe=>exact fun c u p h=>(show False from h).elim
 | est=>exact fun c u p h=>(show False from h).elim
 | call d f as=>exact absurd rfl (h d f as)
 | callv d x as=>exact fun c u p h=>(show False from h).elim
 | callx d x as=>exact n fun _ _ _ _ _ h=>h
 | rng d x=>exact n fun _ _ _ _ _ h=>h
 | nxt d x=>exact n fun _ _ _ _ _ h=>h
 | ent d x=>exact n fun _ _ _ _ _ h=>h
 | isn d a b x=>exact n fun _ _ _ _ _ h=>h
 | _=>exact YI rfl (MU _)
end
def vy (o:AOp) (v:Opd->AV) (h:List HObj):Option (List (AV×List (Nat×HObj))) :=
 match o with
 | .rng _ x=>match mpE h (v x) with
   | some (id,_,c)=>some [(.ref h.length 0,[(h.length,.it id c [] c)])]
   | none=>none
 | .nxt _ x=>match v x with
   | .ref id 0=>match h[id]? with
     | some (.it m s seen l)=>match mpE h (.mp m) with
       | some (_,E,c)=>if (seen.isEmpty || E.isEmpty || !E.all (fun e=>decide (l<=e.2.1)))=true then
        some ((if (E.filter fun e => !seen.contains e.2.1&&decide (e.2.1<s)).isEmpty then [(.tup [B false],[])] else []) ++
         (E.filter fun e => !seen.contains e.2.1).map fun e=>(.tup [B true,AV.ofValue e.1,e.2.2],[(id,.it m s (seen++[e.2.1]) c)]))
         else none
       | none=>none
     | _=>none
   | _=>none
 | .ent _ x=>match v x with
   | .ref id 0=>match h[id]? with
     | some (.it m _ seen t)=>match mpE h (.mp m) with
       | some (_,E,c)=>if c=t then (match seen.getLast? with
         | some b=>match E.find? (fun e=>e.2.1==b) with
           | some e=>some [(.tup [AV.ofValue e.1,e.2.2],[])]
           | none=>none
         | none=>none) else none
       | none=>none
     | _=>none
   | _=>none
 | .isn _ neg k x=>match k,v x with
   | 0,.sl _ _ []=>some [(B false,[]),(B true,[])]
   | 0,.sl _ _ (_::_)=>some [(B neg,[])]
   | 0,.ms _ _ n _=>if n=0 then some [(B false,[]),(B true,[])] else some [(B neg,[])]
   | 1,.ptr .. | 1,.ref .. | 2,.mp _ | 3,.fn .. => some [(B neg,[])]
   | 0,.v (.slice none 0 0) | 1,.v (.pointer none) | 2,.v (.map none) | 3,.v .nilFunc=>some [(B !neg,[])]
   | _,_=>none
 | _=>none
theorem Bs {o:AOp} {E:Opd->AV} {p:List HObj} {l:List (AV×List (Nat×HObj))} (h:vy o E p=some l):o.many E (hpf p) p.length fun r k=>(r,k)∈l:=by
 cases o with
 | rng d x =>
   simp only [vy] at h;simp only [AOp.many];split at h
   . rename_i hm;obtain ⟨j,z⟩:=VS hm;cases h;simp only [j,z];simp
   cases h
 | nxt d x =>
   simp only [vy] at h;simp only [AOp.many];generalize E x=u at h ⊢;split at h
   . rename_i id;split at h
     . rename_i m s seen L v;split at h
       . rename_i f c hm;obtain ⟨j,z⟩:=VS hm;cases j;have i:hpf p id=some (.it m s seen L):=v;simp only [i,z];split at h
         . rename_i q;cases h;refine ⟨q,fun a=>by rw [if_pos a];simp,fun e g w=>?_⟩;rw [xm];refine .inr (gm.2 ⟨e,qo9.2 ⟨g,by simpa using w⟩,rfl⟩)
         cases h
       cases h
     cases h
   cases h
 | ent d x =>
   simp only [vy] at h;simp only [AOp.many];generalize E x=u at h ⊢;split at h
   . rename_i id;split at h
     . rename_i m s seen L v;split at h
       . rename_i f c hm;obtain ⟨j,z⟩:=VS hm;cases j;have i:hpf p id=some (.it m s seen L):=v;simp only [i,z];split at h
         . rename_i q;split at h
           . rename_i b t;split at h
             . rename_i e g;cases h;exact ⟨q,b,e,t,g,by simp⟩
             cases h
           cases h
         cases h
       cases h
     cases h
   cases h
 | isn d neg K x =>
   simp only [vy] at h;simp only [AOp.many];generalize E x=u at h ⊢;split at h
   . cases h;simp
   . cases h;simp
   . split at h
     . rename_i y;cases h;simp [y]
     rename_i y;cases h;simp [y]
   all_goals first | (cases h;simp;done) | cases h
 | _=>simp [vy] at h
inductive PR where
 | val (r:AV)
 | made (m sz:Nat) (cs:List AV)
 | mapp (es:List (Value×Nat×AV))
def shP (s E:List (Value×Nat×AV)) (c:Nat):Prop:=(s.map fun e=>(e.1,e.2.2)).Perm (E.map fun e=>(e.1,e.2.2))/\(E.map (·.1)).Nodup/\(E.map (·.2.1)).Nodup/\∀ e∈E,e.2.1<c
def Jp (P:Program) (f:FuncId) (y:List AV):PR->Prop
 | .val r=>qx P f y r
 | .made m s c=>YK P f y m s c
 | .mapp e=>HX P f y (shP e)
structure Hd where
 C:FuncId->List AV->List HObj->(AV->List HObj->Prop)->Prop
 C0:FuncId->List AV->List HObj->(AV->List HObj->Prop)->Prop
 D:FuncId->List AV->(PR->Prop)->Prop
 Y:Nat->List AV->List HObj->(AV->List HObj->Prop)->Prop
 R:AV->List HObj->(List AV->List HObj->(AV->List HObj->Prop)->Prop)->(List HObj->Prop)->Prop
 ok:FuncId->Prop->Prop
 kap:Option Nat
section
variable {P:Program} {E:HE} {H:Hd}
theorem jK {f x j} {K u:AV->List HObj->Prop} (k:∀ r p,K r p->u r p) (h:qB P f x j K):qB P f x j u:=fun R n w g V s b m =>
 (h R n w g V s b m).mono fun e l ⟨v,r,p,q,z,y,o⟩=>⟨v,r,p,q,z,k _ _ y,o⟩
theorem Qt:∀ {g:List Grp} {t:St} {K u:St->Prop},(∀ s,K s->u s)->zx P E g t K->zx P E g t u
 | [],t,K,u,k,h=>k t h
 | ⟨none,o⟩::g,t,K,u,k,h=>QG (fun s h=>Qt k h) h
 | ⟨some (j,b),o⟩::g,t,K,u,k,h=>by
   simp only [zx] at h ⊢;split at h
   . exact ⟨fun e=>QG (fun s h=>Qt k h) (h.1 e),fun e=>Qt k (h.2 e)⟩
   . exact Qt k h
   exact h.elim
theorem QH:∀ {os:List AOp} {v:St} {tr:Tr} {K u:St->Tr->Prop},(∀ s t,K s t->u s t)->QL P os v tr K->QL P os v tr u
 | [],v,tr,K,u,k,h=>k _ _ h
 | o::os,v,tr,K,u,k,⟨r,w,j,z⟩=>⟨r,w,j,QH k z⟩
theorem zL:∀ {gs:List Grp} {v:St} {T:Tr} {K u:St->Tr->Prop},(∀ s t,K s t->u s t)->zu P gs v T K->zu P gs v T u
 | [],v,T,K,u,k,h=>k _ _ h
 | ⟨none,os⟩::gs,v,T,K,u,k,h=>QH (fun s t h=>zL k h) h
 | ⟨some (j,b),os⟩::gs,v,T,K,u,k,h=>by
   simp only [zu] at h ⊢;split at h
   . exact ⟨fun e=>QH (fun s t h=>zL k h) (h.1 e),fun e=>zL k (h.2 e)⟩
   . exact zL k h
   exact h.elim
abbrev X1:=Hd->K1->K1
def pH (d:Nat) (f:FuncId) (a:FrL->(List AV->Prop)->Prop):X1:=fun H c u p=>a u fun x=>H.C f x p fun r h=>c ((d,r)::u) h
def MQ (d:Nat) (x:Op1) (a:FrL->(List AV->Prop)->Prop):X1:=fun H c u p=>x u fun v=>a u fun X=>match v with
 | .fn (.func f) first C=>H.ok f (flP (first++X++C) fun l=>H.C0 f l p fun r h=>c ((d,r)::u) h)
 | .yl id=>H.Y id X p fun r h=>c ((d,r)::u) h
 | _=>False
def YX:X1:=fun _ _ _ _=>False
def br (X:K1->K1):X1:=fun _=>X
def qkC:X1:=fun _ c=>c
def eX (X Y:X1):X1:=fun H c=>X H (Y H c)
def Ya (O:List AOp):FrL:=(O.filterMap fun o=>o.dst.map fun d=>(d,AV.v undef)).reverse
def ku (u f:FrL) (k:FrL->Prop):Prop:=List.rec (motive:=fun _=>(FrL->Prop)->Prop) (fun k=>k f) (fun a _ i k=>i fun t=>k (a::t)) u k
theorem OC:∀ (u f:FrL) (k:FrL->Prop),ku u f k=k (u++f)
 | [],f,k=>rfl
 | a::u,f,k=>OC u f fun t=>k (a::t)
def cGd (j:Nat) (b:Bool) (u:FrL) (X Y:X1):X1:=fun H c f h=>NM f j fun v=>match v with
 | .v (.bool t)=>Bool.rec (motive:=fun _=>Prop) (ku u f fun f=>Y H c f h) (X H (Y H c) f h) (Bool.rec (motive:=fun _=>Bool) (!b) b t)
 | .v (.tuple _)=>ku u f fun f=>Y H c f h
 | _=>False
def YE (K:List Nat) (f:FrL) (k:FrL->Prop):Prop:=List.rec (motive:=fun _=>(FrL->Prop)->Prop) (fun k=>k []) (fun t _ i k=>NM f t fun x=>i fun l=>k ((t,x)::l)) K k
theorem zH:∀ (K:List Nat) (fr:FrL) (k:FrL->Prop),YE K fr k=k (K.map fun t=>(t,get fr t))
 | [],fr,k=>rfl
 | t::K,fr,k=>by show (NM fr t fun x=>YE K fr fun l=>k ((t,x)::l))=_;rw [zV,zH K];rfl
abbrev KD:=FrL->List HObj->Tr->Prop
abbrev D1:=Hd->KD->KD
def trP (t:Tr) (x:List Nat×List Nat) (k:Tr->Prop):Prop:=flP (t++[x]) k
def aC (f:(Opd->AV)->List HObj->Option (AV×List (Nat×HObj))) (o:AOp):D1:=fun _ c u h t=>match f (evF (get u)) h with
 | some (r,w)=>fmP fnP (o.foot (get u) (hpf h)) fun v=>fmP fnP (w.map (·.1)) fun wi=>faP 6 r fun r=>wsP w h fun h=>trP t (v,wi) fun t=>c (zb u o.dst r) h t
 | none=>False
theorem Dv {d f a F H y i} (h:qj H (a.map (evF F))=some (y,i)):(AOp.call d f a).foot F H=i:=by show []++yN H (a.map (evF F))=i;rw [Zh h];rfl
def my (d:Nat) (f:FuncId) (a:List Opd):D1:=fun H c u h t=>ZQ a u fun x=>match qj (hpf h) x with
 | some (y,ids)=>fmP (faP 6) y fun y=>H.D f y fun q=>match q with
   | .val r=>fmP fnP ids fun v=>fmP fnP ((bif r.scalar then [] else gones ids).map (·.1)) fun wi=>wsP (bif r.scalar then [] else gones ids) h fun h=>trP t (v,wi) fun t=>c ((d,r)::u) h t
   | .made m s C=>fmP fnP ids fun v=>fmP fnP ((Wg C ids++[(h.length,HObj.cells C)]).map (·.1)) fun wi=>fnP h.length fun n=>wsP (Wg C ids++[(h.length,.cells C)]) h fun h=>trP t (v,wi) fun t=>c ((d,.ms n 0 m s)::u) h t
   | .mapp _=>False
 | none=>False
def qkF:D1:=fun _ c=>c
def aD (X Y:D1):D1:=fun H c=>X H (Y H c)
def dGd (j:Nat) (b:Bool) (u:FrL) (e:Tr) (X Y:D1):D1:=fun H c f h T=>NM f j fun v=>match v with
 | .v (.bool t)=>Bool.rec (motive:=fun _=>Prop) (ku u f fun f=>flP (T++e) fun T=>Y H c f h T) (X H (Y H c) f h T) (Bool.rec (motive:=fun _=>Bool) (!b) b t)
 | .v (.tuple _)=>ku u f fun f=>flP (T++e) fun T=>Y H c f h T
 | _=>False
end
section
variable {P:Program} {E:HE} {w1:World} {g1:G}
def Il (P:Program) (w1:World) (g1:G) (A:AC) (st:St) (Q:Exit->St->Prop):Prop :=
 ∀ (N:Nat) (c:Go.Code) (a:Act) (w:World) (g:G) (R:Exit->Act->World->Prop) (r:Option Nat) (n:Nat),
   NI P N c A->(r=none\/A.noRf=true)->Trans w1 g1 w g->Sim N st a w g->Dc N st a w g Q R->c.wpIn (W r) n P R a w
theorem pq (Y:YS P E w1 g1) (u:RS P E) {A:AC} {s:St} (h:AWP P E A s Q):Il P w1 g1 A s Q:=fun N c a w g R o n f r t v l=>zw Y u f r h t v l
theorem qc {A:AC} {st:St} (h:∀ w1 g1,Il P w1 g1 A st Q):AWS P A st Q:=fun N c a w g R o n f r s l=>h w g N c a w g R o n f r (.refl _ _) s l
theorem ME {x:AC} {s:St} {u:Exit->St->Prop} (v:∀ e s,Q e s->u e s) (h:Il P w1 g1 x s Q):Il P w1 g1 x s u:=fun N c a w g R o n f r t j l =>
 h N c a w g R o n f r t j fun e s a w g q=>l e s a w g (v e s q)
theorem Fa {x:List AV} {p:List HObj} {K:AV->List HObj->Prop} (h:∀ w1 g1,NH P w1 g1 f x p K):qB P f x p K:=fun r n w g v a b c=>h w g r n w g v a (.refl _ _) b c
theorem Ha {x:List AV} {j:List HObj} {K u:AV->List HObj->Prop} (k:∀ r H,K r H->u r H) (h:NH P w1 g1 f x j K):NH P w1 g1 f x j u:=fun R n w g V a t b c =>
 (h R n w g V a t b c).mono fun e s ⟨v,r,p,q,z,y,o⟩=>⟨v,r,p,q,z,k _ _ y,o⟩
theorem Oj {x:List AV} {j:List HObj} {K u:AV->List HObj->Prop} (k:∀ r H,K r H->u r H) (h:qB P f x j K):qB P f x j u:=fun R n w g V a b c =>
 (h R n w g V a b c).mono fun e s ⟨v,r,p,q,z,y,o⟩=>⟨v,r,p,q,z,k _ _ y,o⟩
def US (P:Program) (E:HE) (w1:World) (g1:G) (o:AOp) (st:St) (K:St->Prop):Prop:=match o with
 | .call d f a=>NH P w1 g1 f (a.map (evF (get st.fr))) st.hp fun r h=>K { fr:=(d,r)::st.fr,hp:=h }
 | o=>aop P E o st K
theorem Ol {N n:Nat} {R:Option Nat} {o:Oper} {z:AOp} (c:Ql P N o=some z) {st:St} {K:St->Prop} (h:US P E w1 g1 z st K) {a:Act} {w:World} {g:G} (Y:YS P E w1 g1) (u:Trans w1 g1 w g) (s:Sim N st a w g)
 {next:Act->World->Prop} {Q:Exit->Act->World->Prop} (b:qfu N st a w g K next):o.wpIn (W R) n P a w next Q:=by
 cases z with
 | call d f J =>
   obtain ⟨A,p,m,O,l,T,X⟩:=Dq c;obtain ⟨L,C⟩:=ZJ X;refine ⟨fun _ _=>trivial,?_⟩;rw [qn2 _ _ _ (by rw [m];simp)];have j:(execOp a.eval o).run P w = .ok (.enter f (A.map a.eval)) w:=by simp [execOp,m,resolve,Act.eval,Deferred.ofValue,invoke,zS T]
   rw [j];refine ⟨fun h=>by simp [Fence.wide] at h,?_⟩;refine (h R (n - 1) w g (A.map a.eval) s.2.2 u (by simp [L]) (fun i q=>?_)).mono ?_
   . simp at q;have:=qr s.2.1 (C i (by omega) q);simpa [show i<A.size by simp at L;omega] using this
   rintro e D ⟨v,r,V,x,rfl,M,Z,y,t⟩;refine b _ _ D x M ?_ t (zq _ _ _);have:=s.step (d:=some d) (fun k e=>by cases e;exact l) t Z y;rw [O];exact this
 | _=>exact jH c h Y u s b
end
def YO (X:Nat->Bool) (i:Nat):Nat->Bool:=fun j=>if j=i then true else X j
section
variable {P:Program} {n:Nat} {ro:Option Nat} {ops:Array Oper} {pre:List (List Nat)}
theorem MA {Q:Exit->Act->World->Prop}
 (L:∀ k (b:k<ops.size),∀ e∈ops[k].after,Region.binds .any e=true->e.on<k)
 (E:∀ k (b:k<ops.size),∀ j∈pre.getD k [],∃ e∈ops[k].after,Region.binds .any e=true/\(e.on=j\/j∈pre.getD e.on []))
 {Inv:(Nat->Bool)->Act->World->Prop}
 (Y:∀ X i a w (next:Act->World->Prop),Clo pre ops X->i<ops.size->X i=false->(∀ j∈pre.getD i [],X j=true)->Inv X a w->(∀ A o,Inv (YO X i) A o->next A o)->wpOpIn (W ro) n P ops Q i next a w)
 (N:∀ X a w,(∀ i,i<ops.size->X i=true)->Inv X a w->Q .normal a w) :
 ∀ (JM:Nat) (l:Array Bool) (a:Act) (w:World),l.size=ops.size->Clo pre ops (lst l)->unl (lst l) ops.size<=JM->Inv (lst l) a w->wpAnyIn (W ro) n P .any ops Q JM l a w:=by
 intro JM
 induction JM with
 | zero =>intro l a w r y f q;have h:=Kc (X:=lst l) (n:=ops.size) (by omega);exact ⟨WQ h,N _ a w h q⟩
 | succ JM D =>
   intro l a w r y f v;refine ⟨fun h=>N _ a w (Nn r L h) v,fun i q=>?_⟩;obtain ⟨t,V,Z⟩:=WR q
   have g:∀ j,j<ops.size->(l.getD j false=true)->lst l j=true:=fun j u h=>by
    have:j<l.size:=by omega
    simpa [lst,this] using h
   have R:∀ j∈pre.getD i [],lst l j=true:=fun j u=>by
    obtain ⟨e,hm,O,h⟩:=E i t j u;have C:=L i t e hm O;have M:=g e.on (by omega) (Z e hm O);rcases h with h | h
    . rw [<-h];exact M
    exact y e.on (by omega) M j h
   have s:i<l.size:=by omega
   have c:lst (l.setIfInBounds i true) i=true:=by simp [lst,s]
   have u:∀ j,j≠i->lst (l.setIfInBounds i true) j=lst l j:=fun j d=>by simp only [lst,qmB];rw [qmK (qmG d)]
   have p:YO (lst l) i=lst (l.setIfInBounds i true):=by
    funext j;simp only [YO];by_cases e:j=i
    . subst e;rw [if_pos rfl,c]
    rw [if_neg e,u j e]
   refine Y (lst l) i a w _ y t V R v fun A o T=>?_;rw [p] at T;refine D _ A o (by simpa using r) (fun k b z j m=>?_) ?_ T
   . by_cases e:j=i
     . subst e;exact c
     rw [u j e];by_cases x:k=i
     . subst x;exact R j m
     rw [u k x] at z;exact y k b z j m
   have:=EP V c u ops.size t;omega
end
end Go.AM
