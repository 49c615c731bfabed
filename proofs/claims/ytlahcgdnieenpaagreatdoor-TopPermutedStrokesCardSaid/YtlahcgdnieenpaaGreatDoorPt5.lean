/-
  Pt5: texts joined: Zs1 Zs2 Zn1 Zf1 Zf2 Zf3 Za1 Za2 Za3 Zr6 Zr8 Zm1 Zr7 Zl2 Tb0 Sl2 Zk1 Zk4 Rr1 Rr2 Zk6. Own work.
-/
import Derived.Test.YtlahcgdnieenpaaGreatDoorPt4
set_option linter.all false
set_option linter.unusedSimpArgs false
set_option linter.unusedVariables false
set_option linter.unusedSectionVars false

set_option maxHeartbeats 0
namespace Go.AM
def qnp:=@List.length_set
def qnz:=@List.pairwise_map
def qnU:=@List.getElem_set
def qn8:=@List.replicate_succ'
def qoc:=@List.mem_reverse
def qoN:=@Bool.not_false
def qoO:=@List.take_take
def qoU:=@List.getElem_replicate
def qoX:=@List.not_mem_nil
def qoY:=@List.perm_middle
def qpz:=@Bool.not_eq_true
end Go.AM
namespace Go.AM
open Go.RowKit
variable {R:CT} {e:Exit} {Q:Exit->St->Prop} {f r:FrL} {c:K1} {K:KE} {C M:List (List Nat×Nat)} {x:List AV} {E:List Ent} {j y u h p v z:List HObj} {k ks l L:List Nat} {g:List XG} {i q n m t:Nat} {P:Program} {Z:ZZ}
def LR (t:Nat) (p:FrL) (k:AV->FrL->Prop):Prop :=
 List.rec (motive:=fun _=>Prop) (k .any [])
  (fun a r i=>Prod.rec (motive:=fun _=>Prop) (fun j x=>Bool.rec (motive:=fun _=>Prop) (Bool.rec (motive:=fun _=>Prop) (NM r t fun y=>k y (a::r)) i (Nat.blt j t)) (k x r) (Nat.beq j t)) a) p
theorem ST (t:Nat):∀ (p:FrL),∃ P,(∀ T,t<T->get P T=get p T)/\∀ k,LR t p k=k (get p t) P
 | []=>⟨[],fun _ _=>rfl,fun k=>rfl⟩
 | (j,x)::r=>by
   have e:∀ k,LR t ((j,x)::r) k=Bool.rec (motive:=fun _=>Prop) (Bool.rec (motive:=fun _=>Prop) (NM r t fun y=>k y ((j,x)::r)) (LR t r k) (Nat.blt j t)) (k x r) (Nat.beq j t):=fun k=>rfl;by_cases h:j=t
   . subst h;refine ⟨r,fun T u=>?_,fun k=>?_⟩
     . simp only [get];rw [if_neg (qof u)]
     rw [e,qoe];simp only [get,qmA]
   cases hb:Nat.blt j t with
   | true =>
     obtain ⟨P,v,z⟩:=ST t r;have l:=zJ hb;refine ⟨P,fun T u=>?_,fun k=>?_⟩
     . rw [v T u];simp only [get];rw [if_neg (qof (Nat.lt_trans l u))]
     rw [e,ML h,hb];simp only [z,get];rw [if_neg h]
   | false =>refine ⟨(j,x)::r,fun _ _=>rfl,fun k=>?_⟩;rw [e,ML h,hb];simp only [zV,get];rw [if_neg h]
def asc:List Nat->Bool
 | []=>true
 | t::T=>T.all (fun u=>Nat.blt t u)&&asc T
def UM (d:List Nat):Type:=List.rec (motive:=fun _=>Type) (HL->Prop) (fun _ _ T=>AV->T) d
def DO:(D:List Nat)->(FrL->HL->Prop)->UM D
 | [],F=>F []
 | d::D,F=>fun x=>DO D fun kn=>F ((d,x)::kn)
def IE:(D:List Nat)->UM D->FrL->HL->Prop
 | [],J,_,h=>(show HL->Prop from J) h
 | d::D,J,f,h=>AF f d fun x=>IE D ((show AV->UM D from J) x) f h
def IF:(d:List Nat)->UM d->HL->Prop
 | [],J,h=>(show HL->Prop from J) h
 | _::d,J,h=>IF d ((show AV->UM d from J) (.v undef)) h
def Io:(T:List Nat)->UM T->FrL->HL->Prop
 | [],J,_,h=>(show HL->Prop from J) h
 | t::T,J,p,h=>LR t p fun x p=>Io T ((show AV->UM T from J) x) p h
theorem Oa:∀ (D:List Nat) (F:FrL->HL->Prop) (f:FrL) (h:HL),IE D (DO D F) f h=F (D.map fun d=>(d,get f d)) h
 | [],F,f,h=>rfl
 | d::D,F,f,h=>by show AF f d (fun x=>IE D (DO D fun kn=>F ((d,x)::kn)) f h)=_;rw [Vh,Oa D];rfl
theorem Gc:∀ (D:List Nat) (F:FrL->HL->Prop) (h:HL),IF D (DO D F) h=F (D.map fun d=>(d,.v undef)) h
 | [],F,h=>rfl
 | d::D,F,h=>by show IF D (DO D fun kn=>F ((d,.v undef)::kn)) h=_;rw [Gc D];rfl
theorem OI:∀ (T:List Nat) (F:FrL->HL->Prop) (f p:FrL) (h:HL),asc T=true->(∀ t∈T,get p t=get f t)->Io T (DO T F) p h=F (T.map fun t=>(t,get f t)) h
 | [],F,f,p,h,_,_=>rfl
 | t::T,F,f,p,h,a,g=>by
   simp only [asc,qd] at a;obtain ⟨P,j,z⟩:=ST t p;show LR t p (fun x p=>Io T (DO T fun kn=>F ((t,x)::kn)) p h)=_;rw [z,OI T _ f P h a.2 fun u v=>?_,g t (by simp)]
   . rfl
   rw [j u (zJ (LL.1 a.1 u v))];exact g u (by simp [v])
def AZ {α:Type} (J:α) (k:α->Prop):Prop:=k J
def box {α:Type} (x:α):α:=x
theorem il (T:List Nat) (f:FrL):∀ t,get ((T.map fun t=>(t,get f t))++f) t=get f t:=by
 induction T with
 | nil=>intro t;rfl
 | cons a T i =>
   intro t;simp only [wI,qmP,get];split
   . rename_i e;subst e;rfl
   exact i t
theorem FJ.kn {J:List Nat} (q:List Nat) (y:FrL):FJ J ((q.map fun t=>(t,get y t))++y) y:=fun t _=>(il q y t).symm
def XO.dsts (x:XO):List Nat:=x.ops.filterMap AOp.dst
def Only (d:List Nat) (r f:FrL):Prop:=∀ t,d.contains t=false->get f t=get r t
theorem Only.refl {y fr}:Only y fr fr:=fun _ _=>rfl
theorem Only.trans {O e fr fr' y} (h:Only O fr fr') (k:Only e fr' y):Only (O++e) fr y:=fun t X=>by
 have:O.contains t=false/\e.contains t=false:=by
  rw [<-qpz,qmX,xm] at X;constructor
  . rw [<-qpz,qmX];exact fun q=>X (.inl q)
  rw [<-qpz,qmX];exact fun q=>X (.inr q)
 rw [k t this.2,h t this.1]
theorem Qw {o:AOp} {r:AV}:Only ([o].filterMap AOp.dst) f (zb f o.dst r):=fun t h=>by
 cases e:o.dst with
 | none=>rfl
 | some d =>simp only [qnI,e,qok] at h;simp only [zb,get];rw [if_neg];intro q;subst q;simp at h
section
variable {P:Program} {S:YSp} {H:Hd} {J:List Nat}
def qf0:X1:=(fun _:Prop=>fun _ c=>c) hiT
def yM (X Y:X1):X1:=(fun _:Prop=>fun H c=>X H (Y H c)) hiT
def AO (X:K1->K1):X1:=(fun _:Prop=>fun _=>X) hiT
def qG:AOp->X1
 | .call d f a=>fun H c u h=>jW a u fun X=>H.C f X h fun r h=>c ((d,r)::u) h
 | .callv d x a=>fun H c u h=>opZ x u fun v=>jW a u fun X=>Hg v X H h fun r h=>c ((d,r)::u) h
 | .callx .. => YX
 | .rng .. => YX
 | .nxt .. => YX
 | .ent .. => YX
 | .isn d b k x=>fun H c u h=>opZ x u fun v=>cN b k v h fun r=>c ((d,r)::u) h
 | o=>AO (xOp o)
def cXF:XO->X1
 | .op o=>qG o
 | .ups d K z m k D v=>fun H c f h=>opZ m f fun x=>opZ k f fun y=>opZ v f fun a=>Is K x y a h fun h=>c f h
 | .bsm d n s zero p=>fun H c f h=>jW (p.map (·.2)) f fun X=>cB n s zero p X h fun r h=>c ((d,r)::f) h
def LX:List XO->X1
 | []=>qf0
 | x::X=>yM (cXF x) (LX X)
theorem Pf {K:KS} {m k v:Opd} {h:HL}:(opZ m f fun x=>opZ k f fun y=>opZ v f fun a=>Is K x y a h fun h=>c f h)=TC K (qK m) (qK k) (qK v) c f h:=by unfold TC;rw [qE,qE,qE,qi,qi,qi];rfl
theorem MT (T:HzOK P S H) {o:AOp} (s:o.opds.all (XD J)=true) {j:FrL} (h:qG o H c j y):∃ z p,Stp P S J [o] j y z p/\Only ([o].filterMap AOp.dst) j z/\c z p:=by
 have X:∀ {O:AOp},O.opds.all (XD J)=true->(∀ d f as,O≠.call d f as)->xOp O c j y->(∀ Y L K,(∃ r V,O.sem P (evF (get L.fr)) (hpf L.hp) L.hp.length r V/\K (L.step O.dst r V))->aop P ⟨Y,RG P⟩ O L K)->∃ z p,Stp P S J [O] j y z p/\Only ([O].filterMap AOp.dst) j z/\c z p:=fun {O} s hc h ha=>by obtain ⟨r,p,wi,t,k⟩:=nT (P:=P) O hc _ _ _ h;refine ⟨_,p,fun Y i Z g q l u=>?_,Qw,k⟩;obtain ⟨V,m,n,_⟩:=t Z g l;exact ha _ _ _ ⟨r,V,Uy u s m,u.put _ _,n⟩
 cases o with
 | call d f a =>have h:jW a j (fun D=>H.C f D y fun r y=>c ((d,r)::j) y):=h;rw [Zj] at h;obtain ⟨r,p,t,k⟩:=T.C _ _ _ _ h;refine ⟨_,p,fun Y i Z g q l u=>?_,Qw (o := .call d f a) (r:=r),k⟩;show YC P _ f (a.map (evF (get q))) g _;rw [u.evs (by simpa [AOp.opds] using s)];exact Yf (fun R N ⟨E,M⟩=>by rw [E];exact ⟨u.cons d r,M⟩) (t Y i Z g l)
 | callv d x a =>
   have h:opZ x j (fun v=>jW a j fun D=>Hg v D H y fun r y=>c ((d,r)::j) y):=h;rw [qE,Zj] at h;unfold Hg at h;rw [show (AOp.callv d x a).opds=x::a from rfl,qmC,qd] at s;split at h
   . rename_i f first A C
     obtain ⟨t,k⟩:=T.ok _ _ h;rw [zM] at k;obtain ⟨r,p,m,n⟩:=T.C0 _ _ _ _ k;refine ⟨_,p,fun Y i Z g q l u=>?_,Qw (o := .callv d x a) (r:=r),n⟩;simp only [zz,aop,u.ev s.1,C,u.evs s.2];exact ⟨t,jK (fun R N ⟨E,M⟩=>by rw [E];exact ⟨u.cons d r,M⟩) (m Z g l)⟩
   . rename_i id C;obtain ⟨r,p,m,n⟩:=T.Y _ _ _ _ h;refine ⟨_,p,fun Y i Z g q l u=>?_,Qw (o := .callv d x a) (r:=r),n⟩;simp only [zz,aop,u.ev s.1,C,u.evs s.2];exact ⟨_,i Z _ _ _ _ _ m g l,fun R N ⟨E,M⟩=>by rw [E];exact ⟨u.cons d r,M⟩⟩
   exact h.elim
 | callx d f a=>exact (show False from h).elim
 | rng d x=>exact (show False from h).elim
 | nxt d x=>exact (show False from h).elim
 | ent d x=>exact (show False from h).elim
 | isn d b Q x =>
   have h:opZ x j (fun v=>cN b Q v y fun r=>c ((d,r)::j) y):=h;rw [qE] at h;unfold cN at h;split at h
   . rename_i r hm;have hm:vy (.isn d b Q x) (evF (get j)) y=some [(r,[])]:=hm;rw [QR] at h;refine ⟨_,y,fun Y i Z g q l u=>?_,Qw (o := .isn d b Q x) (r:=r),h⟩;have t:=Bs hm;have k:(AOp.isn d b Q x).many (evF (get q)) (hpf g) g.length fun R w=>(R,w)∈[(r,([]:List (Nat×HObj)))]:=by simp only [AOp.many] at t ⊢;rw [u.ev (x:=x) (by simpa [AOp.opds] using s)];exact t
     have n:(AOp.isn d b Q x).many (evF (get q)) (hpf g) g.length fun R w=>FJ J (zb j (some d) r) (St.step ⟨q,g⟩ (some d) R w).fr/\HR Z y (St.step ⟨q,g⟩ (some d) R w).hp:=jS (fun R w m=>by simp only [qnv,qmm] at m;rw [m.1,m.2];exact ⟨u.put _ _,l⟩) k;exact n
   exact h.elim
 | _=>exact X s (fun _ _ _ e=>by cases e) h (fun Y L K h=>h)
theorem yV {K:KS} {m k v:Opd} (h:TC K (qK m) (qK k) (qK v) c f u):TC K (qK m) (qK k) (qK v) (fun r p=>r=f/\c r p) f u:=by have e:(fun p=>f=f/\c f p)=fun p=>c f p:=funext fun p=>propext ⟨fun q=>q.2,fun q=>⟨rfl,q⟩⟩;unfold TC at h ⊢;rw [qi,qi,qi] at h ⊢;exact e ▸ h
theorem aa (T:HzOK P S H) {x:XO} (L:x.off J=true) {u:FrL} (h:cXF x H c u j):∃ f q,Stp P S J x.ops u j f q/\Only x.dsts u f/\c f q:=by
 cases x with
 | bsm d n l zero t =>
   have h:jW (t.map (·.2)) u (fun E=>cB n l zero t E j fun r j=>c ((d,r)::u) j):=h;rw [Zj] at h;unfold cB at h;rcases QM h with ⟨A,ids,w,e⟩ | e
   . obtain ⟨N,O⟩:=Of e;have i:=Bq O;rw [qmU] at w;refine ⟨_,_,fun Y hY Z hq V s R=>?_,Qw (o := .bsl d n l zero t) (r := .mc j.length 0 n n l),i⟩;have C:(AOp.bsl d n l zero t).opds.all (XD J)=true:=L;refine ⟨.mc j.length 0 n n l,_,Uy R C ⟨A,ids,s.purA w,N,.inr ⟨by rw [s.len],by rw [s.len]⟩⟩,R.put (some d) _,?_⟩;refine s.write fun p q=>?_;rcases xm.1 q with k | k
     . exact s.gones w p k
     simp at k;subst k;exact ⟨s.new _ (Qs _),Qs _,rfl⟩
   exact e.elim
 | op o=>exact MT T L h
 | ups d M z m K D v =>obtain ⟨id,kv,b,q,hm,X,w,e,N,O⟩:=VA (Pf ▸ (show (opZ m u fun x=>opZ K u fun y=>opZ v u fun a=>Is M x y a j fun j=>c u j) from h));obtain ⟨f,g,i,Q⟩:=eZ T L (show cX (.ups d M z m K D v) H (fun f g=>f=u/\c f g) u j from yV (Pf ▸ (show (opZ m u fun x=>opZ K u fun y=>opZ v u fun a=>Is M x y a j fun j=>c u j) from h)));exact ⟨f,g,i,by rw [Q.1];exact .refl,Q.2⟩
theorem Oh (O:HzOK P S H):∀ {X:List XO} {c:K1} {f:FrL} {p:List HObj},(X.all (XO.off J))=true->LX X H c f p->∃ r u,Stp P S J (X.flatMap XO.ops) f p r u/\Only (X.flatMap XO.dsts) f r/\c r u
 | [],c,f,p,_,h=>⟨f,p,fun Y j Z b q o z=>⟨z,o⟩,.refl,h⟩
 | x::X,c,f,p,g,h=>by rw [qmC,qd] at g;obtain ⟨m,a,l,e,t⟩:=aa O g.1 (show cXF x H (LX X H c) f p from h);obtain ⟨v,y,d,k,w⟩:=Oh O g.2 t;refine ⟨v,y,fun Y j Z b q o z=>?_,e.trans k,w⟩;rw [qmH];exact XH (QG (fun s ⟨Q,n⟩=>d Y j Z s.hp s.fr n Q) (l Y j Z b q o z))
theorem FJ.made {q:List Nat} {X y O:FrL} (K:Only q X y) (h:FJ J y O):FJ J ((q.map fun d=>(d,get y d))++X) O:=fun t A=>by
 rw [h t A,Vi];have e:(q.map fun d=>(d,get y d)).map (·.1)=q:=by rw [qmU];exact qoH q
 rw [e];cases hc:q.contains t with
 | false=>rw [K t hc];simp
 | true =>simp only [qmA];rw [jQ (qmX.1 hc)]
end
def gdK (v:AV) (b:Bool) (y n:Prop):Prop:=match v with
 | .v (.bool t)=>Bool.rec (motive:=fun _=>Prop) n y (Bool.rec (motive:=fun _=>Bool) (!b) b t)
 | .v (.tuple _)=>n
 | _=>False
def cC (j:Nat) (b:Bool) (d:List Nat) (X Y:X1):X1:=fun H c f h=>AZ (box (DO d fun kn h=>Y H c (kn++f) h)) fun J=>AF f j fun v=>gdK v b (X H (fun r p=>IE d J r p) f h) (IF d J h)
theorem bI {P:Program} {os:List AOp} {gs:List Grp} {E:HE} {v:AV} {b:Bool} {y n:Prop} (h:gdK v b y n):(v = .v (.bool b)/\y)\/((∃ t,v = .v (.bool t)/\t≠b)/\n)\/((∃ V,v = .v (.tuple V))/\n):=by
 unfold gdK at h;split at h
 . rename_i t;cases t <;> cases b <;> first | exact .inl ⟨rfl,h⟩ | exact .inr (.inl ⟨⟨_,rfl,by decide⟩,h⟩)
 . exact .inr (.inr ⟨⟨_,rfl⟩,h⟩)
 exact h.elim
def VE (gs:List XG):List (List Nat):=gs.map fun g=>g.ops.flatMap XO.dsts
def cXJ:List XG->List (List Nat)->X1
 | [],_=>qf0
 | ⟨none,os⟩::gs,_::d=>yM (LX os) (cXJ gs d)
 | ⟨some (j,b),os⟩::gs,D::d=>cC j b D (LX os) (cXJ gs d)
 | _::_,[]=>YX
theorem Gv:∀ (os:List XO),os.flatMap XO.dsts=(os.flatMap XO.ops).filterMap AOp.dst
 | []=>rfl
 | o::os=>by rw [qmH,qmH,List.filterMap_append,Gv os];rfl
theorem AH {u:FrL} {x:AV} (h:∀ p∈u,p.2=x):∀ {t:Nat},(u.map (·.1)).contains t=true->get u t=x:=by
 induction u with
 | nil=>intro t v;simp at v
 | cons p u i =>
   intro t v;obtain ⟨j,y⟩:=p;simp only [get];split
   . exact h (j,y) (by simp)
   rename_i n;refine i (fun p z=>h p (by simp [z])) ?_;rw [wI,qoJ,qm2] at v;rcases v with q | q
   . exact absurd (qoa q).symm n
   exact q
theorem AI (O:List AOp) (f:FrL) (t:Nat):get (((O.filterMap AOp.dst).map fun d=>(d,AV.v undef))++f) t=get (Ya O++f) t:=by
 rw [Vi,Vi];have e:((O.filterMap AOp.dst).map fun d=>(d,AV.v undef)).map (·.1)=O.filterMap AOp.dst:=by rw [qmU];exact qoH _
 have u:(O.filterMap fun o=>o.dst.map fun d=>(d,AV.v undef))=(O.filterMap AOp.dst).map fun d=>(d,AV.v undef):=by rw [List.map_filterMap]
 have E:(Ya O).map (·.1)=(O.filterMap AOp.dst).reverse:=by unfold Ya;rw [u,List.map_reverse,e]
 rw [e,E];have c:(O.filterMap AOp.dst).reverse.contains t=(O.filterMap AOp.dst).contains t:=by rw [qnB,qmX,qmX,qoc]
 rw [c];cases hc:(O.filterMap AOp.dst).contains t with
 | false=>simp
 | true =>simp only [qmA];rw [AH (x := .v undef) (fun p h=>by simp at h;obtain ⟨_,_,rfl⟩:=h;rfl) (by rw [e];exact hc),AH (x := .v undef) (fun p h=>by unfold Ya at h;rw [u] at h;simp at h;obtain ⟨_,_,rfl⟩:=h;rfl) (by rw [E,c];exact hc)]
section
variable {P:Program} {S:YSp} {H:Hd} {J:List Nat}
theorem FJ.und {os:List AOp} {y q:FrL} (h:FJ J y q):FJ J (((os.filterMap AOp.dst).map fun d=>(d,AV.v undef))++y) (Ya os++q):=fun t e=>by rw [AI];exact h.app _ t e
theorem RA (O:HzOK P S H):∀ {gs:List XG} {c:K1} {v:FrL} {m:List HObj},(gs.all (XG.off J))=true->cXJ gs (VE gs) H c v m->∃ y o,qkB P S J (gs.map XG.grp) v m y o/\c y o
 | [],c,v,m,_,h=>⟨v,m,fun Y z Z q f g u=>⟨u,g⟩,h⟩
 | ⟨none,os⟩::gs,c,v,m,a,h=>by rw [qmC,qd] at a;obtain ⟨L,R,M,_,N⟩:=Oh O (by simpa [XG.off] using a.1) (show LX os H (cXJ gs (VE gs) H c) v m from h);obtain ⟨r,p,l,w⟩:=RA O a.2 N;exact ⟨r,p,fun Y z Z q f g u=>QG (fun s ⟨T,V⟩=>l Y z Z s.hp s.fr V T) (M Y z Z q f g u),w⟩
 | ⟨some (j,b),os⟩::gs,c,v,m,a,h=>by
   rw [qmC,qd] at a;obtain ⟨x,i⟩:=a;simp only [XG.off,qd] at x;have h:cC j b (os.flatMap XO.dsts) (LX os) (cXJ gs (VE gs)) H c v m:=h;simp only [cC,AZ,box,Vh,Oa,Gc] at h;have Q:∀ {f},FJ J v f->get f j=get v j:=fun u=>u j (by simpa using x.1);have X:cXJ gs (VE gs) H c (((os.flatMap XO.dsts).map fun d=>(d,AV.v undef))++v) m->∃ y o,(∀ Y,Xd Y S->∀ Z q f,HR Z m q->FJ J v f->zx P ⟨Y,RG P⟩ (gs.map XG.grp) (zd (os.flatMap XO.ops) ⟨f,q⟩) (fun s=>FJ J y s.fr/\HR Z o s.hp))/\c y o:=fun h=>by obtain ⟨r,p,l,w⟩:=RA O i h;exact ⟨r,p,fun Y z Z q f g u=>l Y z Z q _ g (by rw [Gv];exact u.und),w⟩
   rcases bI (P:=P) (os:=[]) (gs:=[]) (E:=⟨noY,RG P⟩) h with ⟨k,h⟩ | ⟨⟨t,k,n⟩,h⟩ | ⟨⟨D,k⟩,h⟩
   . obtain ⟨L,R,M,C,N⟩:=Oh O x.2 h;obtain ⟨r,p,l,w⟩:=RA O i N;refine ⟨r,p,fun Y z Z q f g u=>?_,w⟩;simp only [wI,XG.grp,zx,Q u,k];exact ⟨fun _=>QG (fun s ⟨T,V⟩=>l Y z Z s.hp s.fr V (FJ.made C T)) (M Y z Z q f g u),fun n=>absurd rfl n⟩
   . obtain ⟨r,p,l,w⟩:=X h;refine ⟨r,p,fun Y z Z q f g u=>?_,w⟩;simp only [wI,XG.grp,zx,Q u,k];exact ⟨fun e=>absurd e n,fun _=>l Y z Z q f g u⟩
   obtain ⟨r,p,l,w⟩:=X h;refine ⟨r,p,fun Y z Z q f g u=>?_,w⟩;simp only [wI,XG.grp,zx,Q u,k];exact l Y z Z q f g u
def UB (s:Bool):AOp->Bool
 | .ld .. => true
 | .lku .. => true
 | .bsl .. => s
 | .call .. => s
 | .callv .. => s
 | _=>false
def SU (s:Bool):AOp->Bool
 | .bsl .. => s
 | .call .. => s
 | .callv .. => s
 | _=>false
theorem CB {t:Bool} {o:AOp} (h:UB t o=true) (n:SU t o=false) {E p N r w} (s:o.sem P E p N r w):w=[]:=by
 cases o with
 | bsl=>cases t with | true=>cases n | false=>cases h
 | call=>cases t with | true=>cases n | false=>cases h
 | callv=>cases t with | true=>cases n | false=>cases h
 | ld d agg u x =>
   simp only [AOp.sem,ZM] at s
   (repeat' split at s) <;> first | exact s.1 | exact s.elim
 | lku d K z b m k =>
   simp only [AOp.sem] at s;split at s
   . split at s
     . obtain ⟨_,_,_,e,_⟩:=s;exact e
     . obtain ⟨_,_,_,_,e,_⟩:=s;exact e
     exact s.elim
   exact s.elim
 | _=>cases h
def Al (s:Bool) (os:List AOp) (e:Tr):Prop:=e.length=os.length/\∀ (i:Nat) (o:AOp),os[i]?=some o->UB s o=true->∃ f:List Nat,e[i]?=some (f,[])
theorem Al.nil {st}:Al st [] []:=⟨rfl,fun i o h=>by simp at h⟩
theorem Al.app {O} {a b:List AOp} {x y:Tr} (h:Al O a x) (k:Al O b y):Al O (a++b) (x++y):=by
 refine ⟨by simp [h.1,k.1],fun i o q K=>?_⟩;by_cases X:i<a.length
 . rw [qmw X] at q;obtain ⟨f,e⟩:=h.2 i o q K;exact ⟨f,by rw [qmw (by rw [h.1];exact X)];exact e⟩
 rw [qmy (by omega)] at q;obtain ⟨f,e⟩:=k.2 _ o q K;exact ⟨f,by rw [qmy (by rw [h.1];omega),h.1];exact e⟩
theorem Al.off {q} (os:List AOp):Al q os (os.map fun _=>([],[])):=⟨by simp,fun i o y _=>⟨[],by simp [y]⟩⟩
theorem Al.one {st} {o:AOp} {f w:List Nat} (h:UB st o=true->w=[]):Al st [o] [(f,w)]:=⟨rfl,fun i O y q=>by
 cases i with
 | zero=>simp at y;subst y;exact ⟨f,by rw [h q];rfl⟩
 | succ i=>simp at y⟩
def qiG (s:Bool) (o:List AOp) (un:List (Nat×Nat)):Bool:=un.all fun p=>(match o[p.1]?,o[p.2]? with
 | some a,some b=>UB s a&&UB s b
 | _,_=>false)
theorem De {s} {o:List AOp} {e:Tr} (h:Al s o e):∀ {un:List (Nat×Nat)},qiG s o un=true->Qm e un=true
 | [],_=>rfl
 | (i,j)::un,v=>by
   rw [qiG,qmC,qd] at v;obtain ⟨u,z⟩:=v;simp only at u;split at u
   . rename_i a b y q;rw [qd] at u;obtain ⟨f,m⟩:=h.2 i a y u.1;obtain ⟨g,r⟩:=h.2 j b q u.2;simp only [Qm,m,r];rw [De h (un:=un) z];rfl
   cases u
def dT (P:Program) (v:Bool) (J:List Nat) (o:List AOp) (u:FrL) (p:List HObj) (r:FrL) (hp':List HObj):Prop :=
 ∀ Z h f,HR Z p h->FJ J u f->∀ tr,QL P o ⟨f,h⟩ tr (fun s t=>FJ J r s.fr/\HR Z hp' s.hp/\∃ e,Al v o e/\t=tr++e)
def oA (s:Bool):AOp->X1
 | .call d f a=>Bool.rec (motive:=fun _=>X1) ((fun H c u h=>jW a u fun X=>e0V H f X h fun r h=>c ((d,r)::u) h)) (fun H c u h=>jW a u fun X=>e1V H f X h fun r=>c ((d,r)::u) h) s
 | .bsl d n z zero p=>Bool.rec (motive:=fun _=>X1) (AO (xOp (.bsl d n z zero p))) (fun H c u h=>jW (p.map (·.2)) u fun X=>Tz n z zero p X h fun r=>c ((d,r)::u) h) s
 | .callv d x a=>Bool.rec (motive:=fun _=>X1) ((fun H c u h=>opZ x u fun v=>jW a u fun X=>e0W v X H h fun r h=>c ((d,r)::u) h)) (fun H c u h=>opZ x u fun v=>jW a u fun X=>e1W v X H h fun r=>c ((d,r)::u) h) s
 | .callx .. => YX
 | .rng .. => YX
 | .nxt .. => YX
 | .ent .. => YX
 | .isn .. => YX
 | o=>AO (xOp o)
theorem oB (o:HzOK P S H) {f:FuncId} {p:HL} {k:AV->HL->Prop} (h:e0V H f x p k):∃ y ids r hp',qj (hpf p) x=some (y,ids)/\k r hp' /\
 ((qx P f y r/\hp'=qf p (bif r.scalar then [] else gones ids))\/(∃ m s c,YK P f y m s c/\r = .ms p.length 0 m s/\hp'=qf p (Wg c ids++[(p.length,.cells c)]))):=by
 unfold e0V at h;rcases QM h with ⟨y,ids,v,h⟩ | h
 . obtain ⟨q,j,u⟩:=o.D _ _ _ h;cases q with
   | val r =>
     have u:Bool.rec (motive:=fun _=>Prop) (bL ids p fun p=>k r p) (k r p) r.scalar:=u;refine ⟨y,ids,r,_,v,?_,.inl ⟨j,rfl⟩⟩;cases e:r.scalar with
     | true=>rw [e] at u;exact u
     | false=>rw [e] at u;simp only [GO] at u;exact u
   | made m s c=>exact ⟨y,ids,_,_,v,Bp (show iY ids c p (fun n p=>k (.ms n 0 m s) p) from u),.inr ⟨m,s,c,j,rfl,rfl⟩⟩
   | mapp E=>exact (show False from u).elim
 exact h.elim
theorem oD (o:HzOK P S H) {f:FuncId} {v:HL} {k:AV->Prop} (h:e1V H f x v k):∃ y ids r,qj (hpf v) x=some (y,ids)/\k r/\qx P f y r/\(bif r.scalar then [] else gones ids)=[]:=by
 unfold e1V at h;rcases QM h with ⟨y,ids,p,h⟩ | h
 . obtain ⟨q,j,u⟩:=o.D _ _ _ h;cases q with
   | val r =>
     have u:Bool.rec (motive:=fun _=>Prop) (vF ids (k r)) (k r) r.scalar:=u;refine ⟨y,ids,r,p,?_,j,?_⟩
     . cases e:r.scalar with
       | true=>rw [e] at u;exact u
       | false=>rw [e] at u;exact (Ed (show vF ids _ from u)).2
     cases e:r.scalar with
     | true=>rfl
     | false=>rw [e] at u;rw [(Ed (show vF ids _ from u)).1];rfl
   | _=>exact (show False from u).elim
 exact h.elim
theorem kJ (D:HzOK P S H) {N:Bool} {o:AOp} (w:o.opds.all (XD J)=true) {y:FrL} (h:oA N o H c y j):∃ l hp',dT P N J [o] y j l hp'/\Only ([o].filterMap AOp.dst) y l/\c l hp':=by
 have T:∀ {O:AOp},O.opds.all (XD J)=true->∀ {r:AV} {hp':List HObj},(∀ Z i,HR Z j i->∃ V,O.sem P (evF (get y)) (hpf i) i.length r V/\HR Z hp' (qf i V)/\(SU N O=true->V=[]))->dT P N J [O] y j (zb y O.dst r) hp':=fun {O} w {r hp'} s Z i x0 z hf tr=>by
  obtain ⟨V,L,M,Q⟩:=s Z i z;refine ⟨r,V,Uy hf w L,hf.put _ _,M,_,Al.one (fun hs=>?_),rfl⟩;cases e:SU N O with
  | true=>rw [Q e];rfl
  | false=>rw [CB hs e L];rfl
 have K:∀ {O:AOp},O.opds.all (XD J)=true->(∀ d f as,O≠.call d f as)->SU N O=false->xOp O c y j->∃ l hp',dT P N J [O] y j l hp'/\Only ([O].filterMap AOp.dst) y l/\c l hp':=fun {O} w hc hn h=>by obtain ⟨r,hp',wi,s,u⟩:=nT (P:=P) O hc _ _ _ h;exact ⟨_,hp',T w (fun Z i z=>by obtain ⟨V,L,M,_⟩:=s Z i z;exact ⟨V,L,M,fun q=>by rw [hn] at q;cases q⟩),Qw,u⟩
 cases o with
 | call d f A =>
   cases N with
   | false =>
     have h:jW A y (fun X=>e0V H f X j fun r j=>c ((d,r)::y) j):=h;rw [Zj] at h;unfold e0V at h;rcases QM h with ⟨Y,ids,g,h⟩ | h
     . obtain ⟨q,s,u⟩:=D.D _ _ _ h;cases q with
       | val r =>
         have u:Bool.rec (motive:=fun _=>Prop) (bL ids j fun j=>c ((d,r)::y) j) (c ((d,r)::y) j) r.scalar:=u
         have u:c ((d,r)::y) (qf j (bif r.scalar then [] else gones ids)):=by
          cases e:r.scalar with
          | true=>rw [e] at u;exact u
          | false=>rw [e] at u;simp only [GO] at u;exact u
         refine ⟨_,_,T w (r:=r) (fun Z i z=>⟨_,⟨Y,ids,z.purA g,.inl ⟨s,rfl⟩⟩,?_,fun q=>by cases q⟩),Qw (o := .call d f A) (r:=r),u⟩;cases r.scalar with
         | true=>exact z
         | false=>exact z.write (z.gones g)
       | made m R C =>
         have u:=Bp (show iY ids C j (fun n j=>c ((d,.ms n 0 m R)::y) j) from u);refine ⟨_,_,T w (r := .ms j.length 0 m R) (fun Z i z=>⟨Wg C ids++[(j.length,.cells C)],⟨Y,ids,z.purA g,.inr (.inl ⟨_,_,_,s,by rw [z.len],by rw [z.len]⟩)⟩,z.write fun p hp'=>?_,fun q=>by cases q⟩),Qw (o := .call d f A) (r := .ms j.length 0 m R),u⟩;rcases xm.1 hp' with k | k
         . exact z.gones g p (Yo k)
         simp at k;subst k;exact ⟨z.new _ (Qs _),Qs _,rfl⟩
       | mapp es=>exact (show False from u).elim
     exact h.elim
   | true =>
     have h:jW A y (fun X=>e1V H f X j fun r=>c ((d,r)::y) j):=h;rw [Zj] at h;unfold e1V at h;rcases QM h with ⟨Y,ids,g,h⟩ | h
     . obtain ⟨q,s,u⟩:=D.D _ _ _ h;cases q with
       | val r =>
         have u:Bool.rec (motive:=fun _=>Prop) (vF ids (c ((d,r)::y) j)) (c ((d,r)::y) j) r.scalar:=u
         have u:(bif r.scalar then [] else gones ids)=[]/\c ((d,r)::y) j:=by
          cases e:r.scalar with
          | true=>rw [e] at u;exact ⟨rfl,u⟩
          | false =>rw [e] at u;obtain ⟨L,M⟩:=Ed (show vF ids _ from u);subst L;exact ⟨rfl,M⟩
         exact ⟨_,_,T w (r:=r) (fun Z i z=>⟨_,⟨Y,ids,z.purA g,.inl ⟨s,rfl⟩⟩,by rw [u.1];exact z,fun _=>u.1⟩),Qw (o := .call d f A) (r:=r),u.2⟩
       | _=>exact (show False from u).elim
     exact h.elim
 | bsl d n R zero t =>
   cases N with
   | false=>exact K w (fun _ _ _ e=>by cases e) rfl h
   | true =>
     have h:jW (t.map (·.2)) y (fun X=>Tz n R zero t X j fun r=>c ((d,r)::y) j):=h;rw [Zj] at h;unfold Tz at h;rcases QM h with ⟨Y,ids,s,u⟩ | u
     . obtain ⟨h0,u⟩:=Ed u;subst h0;obtain ⟨L,M⟩:=Of u;rw [qmU] at s;have Q:c (zb y (AOp.bsl d n R zero t).dst (.sl true n (QO (zh n zero) R ((t.map (fun p=>p.1)).zip Y)))) j:=M;exact ⟨_,_,T w (fun Z i z=>⟨[],⟨Y,[],z.purA s,L,.inl ⟨rfl,rfl⟩⟩,z,fun _=>rfl⟩),Qw (o := .bsl d n R zero t),Q⟩
     exact u.elim
 | callv d x as =>
   have x1:XD J x=true/\as.all (XD J)=true:=by rw [show (AOp.callv d x as).opds=x::as from rfl,qmC,qd] at w;exact w
   cases N with
   | false =>
     have h:opZ x y (fun v=>jW as y fun X=>e0W v X H j fun r j=>c ((d,r)::y) j):=h;rw [qE,Zj] at h;unfold e0W at h;split at h
     . rename_i f first E hx
       obtain ⟨s,u⟩:=D.ok _ _ h;obtain ⟨L,M⟩:=qt u;rw [zM] at M;obtain ⟨Y,ids,r,hp',g,hk,hc⟩:=oB D M;refine ⟨_,_,T w (r:=r) (hp':=hp') (fun Z i z=>?_),Qw (o := .callv d x as) (r:=r),hk⟩;rcases hc with ⟨Q,rfl⟩ | ⟨m,R,C,Q,rfl,rfl⟩
       . refine ⟨(bif r.scalar then [] else gones ids),?_,?_,fun q=>by cases q⟩
         . simp only [AOp.sem,hx];exact ⟨⟨s,L⟩,Y,ids,z.purA g,.inl ⟨Q,rfl⟩⟩
         cases r.scalar with
         | true=>exact z
         | false=>exact z.write (z.gones g)
       refine ⟨Wg C ids++[(j.length,.cells C)],?_,z.write fun p hp'=>?_,fun q=>by cases q⟩
       . simp only [AOp.sem,hx];exact ⟨⟨s,L⟩,Y,ids,z.purA g,.inr ⟨_,_,_,Q,by rw [z.len],by rw [z.len]⟩⟩
       rcases xm.1 hp' with k | k
       . exact z.gones g p (Yo k)
       simp at k;subst k;exact ⟨z.new _ (Qs _),Qs _,rfl⟩
     exact h.elim
   | true =>
     have h:opZ x y (fun v=>jW as y fun X=>e1W v X H j fun r=>c ((d,r)::y) j):=h;rw [qE,Zj] at h;unfold e1W at h;split at h
     . rename_i f first E hx
       obtain ⟨s,u⟩:=D.ok _ _ h;obtain ⟨L,M⟩:=qt u;rw [zM] at M;obtain ⟨Y,ids,r,g,hk,Q,h6⟩:=oD D M;refine ⟨_,_,T w (r:=r) (hp':=j) (fun Z i z=>⟨[],?_,z,fun _=>rfl⟩),Qw (o := .callv d x as) (r:=r),hk⟩;simp only [AOp.sem,hx];exact ⟨⟨s,L⟩,Y,ids,z.purA g,.inl ⟨Q,h6.symm⟩⟩
     exact h.elim
 | callx d x as=>exact (show False from h).elim
 | rng d x=>exact (show False from h).elim
 | nxt d x=>exact (show False from h).elim
 | ent d x=>exact (show False from h).elim
 | isn d a b x=>exact (show False from h).elim
 | _=>exact K w (fun _ _ _ e=>by cases e) rfl h
def e0X (s:Bool):XO->X1
 | .op o=>oA s o
 | .ups d K z m k D v=>cXF (.ups d K z m k D v)
 | .bsm .. => fun _ _ _ _=>False
theorem oC (ok:HzOK P S H) {M:Bool} {x:XO} (t:x.off J=true) (h:e0X M x H c f j):∃ r p,dT P M J x.ops f j r p/\Only x.dsts f r/\c r p:=by
 cases x with
 | bsm=>exact (show False from h).elim
 | op o=>exact kJ ok t h
 | ups d ks z m k d2 v =>
   obtain ⟨id,kv,b,p,hm,D,O,Q,R,T⟩:=VA (Pf ▸ (show (opZ m f fun x=>opZ k f fun y=>opZ v f fun a=>Is ks x y a j fun j=>c f j) from h));refine ⟨f,p,fun Z L N A g tr=>?_,.refl,R⟩;have q:=t;simp only [XO.off,qd,qpe,ne_eq] at q;obtain ⟨⟨⟨⟨⟨j1,j2⟩,j3⟩,j4⟩,j5⟩,j6⟩:=q;obtain ⟨E,c',K,V,Y,C,e,X⟩:=T Z L A;rw [<-g.ev j6] at e;obtain ⟨x,n,w,s,k1,k2,k3,_,_,_,_⟩:=EQ (P:=P) t ((g.ev j4).trans hm) (by rw [g.ev j5];exact O) Q V Y C e;refine ⟨_,w,k1,_,[],?_,_,s,k2,?_,?_,?_⟩
   . simp only [AOp.sem,evF,St.step,zb,AOp.dst,get,qmA];exact ⟨I n,by simp,by trivial,by trivial⟩
   . exact (g.junk j1 _).junk j2 _
   . show HR Z p (qf (qf (qf L w) []) s);simp only [qf];rw [k3];exact X
   refine ⟨[_,_,_],⟨rfl,fun i o u l=>?_⟩,by rw [qmo,qmo];rfl⟩
   match i,u with
   | 0,u=>cases u;cases l
   | 1,u=>cases u;cases l
   | 2,u=>cases u;cases l
   | i+3,u=>simp [XO.ops] at u
def Mb (s:Bool):List XO->X1
 | []=>qf0
 | x::X=>yM (e0X s x) (Mb s X)
theorem OJ (O:HzOK P S H) {v:Bool}:∀ {X:List XO} {c:K1} {f:FrL} {p:List HObj},(X.all (XO.off J))=true->Mb v X H c f p->∃ r u,dT P v J (X.flatMap XO.ops) f p r u/\Only (X.flatMap XO.dsts) f r/\c r u
 | [],c,f,p,_,h=>⟨f,p,fun Z b q o z tr=>⟨z,o,[],.nil,by simp⟩,.refl,h⟩
 | x::X,c,f,p,g,h=>by rw [qmC,qd] at g;obtain ⟨m,e,l,L,d⟩:=oC O g.1 (show e0X v x H (Mb v X H c) f p from h);obtain ⟨j,y,w,M,a⟩:=OJ O g.2 d;refine ⟨j,y,fun Z b q o z tr=>?_,L.trans M,a⟩;rw [qmH];refine Gt (tr:=tr) (QH (fun s t ⟨Q,N,E,R,T⟩=>?_) (l Z b q o z tr));exact QH (fun s t ⟨k,K,V,n,i⟩=>⟨k,K,_,R.app n,by rw [i,T,qmo]⟩) (w Z s.hp s.fr N Q t)
def TV (s:Bool):List XG->List (List Nat)->X1
 | [],_=>qf0
 | ⟨none,os⟩::gs,_::d=>yM (Mb s os) (TV s gs d)
 | ⟨some (j,b),os⟩::gs,D::d=>cC j b D (Mb s os) (TV s gs d)
 | _::_,[]=>YX
def vN (gs:List Grp):List AOp:=gs.flatMap (·.ops)
def qgM (P:Program) (v:Bool) (J:List Nat) (gs:List Grp) (u:FrL) (p:List HObj) (r:FrL) (h:List HObj):Prop :=
 ∀ Z q f,HR Z p q->FJ J u f->∀ T,zu P gs ⟨f,q⟩ T (fun s t=>FJ J r s.fr/\HR Z h s.hp/\∃ e,Al v (vN gs) e/\t=T++e)
theorem Gw (O:HzOK P S H) {w:Bool}:∀ {gs:List XG} {c:K1} {v:FrL} {g:List HObj},(gs.all (XG.off J))=true->TV w gs (VE gs) H c v g->∃ z y,qgM P w J (gs.map XG.grp) v g z y/\c z y
 | [],c,v,g,_,h=>⟨v,g,fun Z q f o u T=>⟨u,o,[],.nil,by simp⟩,h⟩
 | ⟨none,os⟩::gs,c,v,g,a,h=>by rw [qmC,qd] at a;obtain ⟨R,C,V,_,X⟩:=OJ O (by simpa [XG.off] using a.1) (show Mb w os H (TV w gs (VE gs) H c) v g from h);obtain ⟨r,p,m,l⟩:=Gw O a.2 X;refine ⟨r,p,fun Z q f o u T=>?_,l⟩;refine QH (fun s t ⟨D,A,Q,q3,q4⟩=>?_) (V Z q f o u T);exact zL (fun s t ⟨K,L,ey,M,N⟩=>⟨K,L,_,q3.app M,by rw [N,q4,qmo]⟩) (m Z s.hp s.fr A D t)
 | ⟨some (j,b),os⟩::gs,c,v,g,a,h=>by
   rw [qmC,qd] at a;obtain ⟨x,i⟩:=a;simp only [XG.off,qd] at x;have h:cC j b (os.flatMap XO.dsts) (Mb w os) (TV w gs (VE gs)) H c v g:=h;simp only [cC,AZ,box,Vh,Oa,Gc] at h;have Y:∀ {f},FJ J v f->get f j=get v j:=fun u=>u j (by simpa using x.1);have hu:TV w gs (VE gs) H c (((os.flatMap XO.dsts).map fun d=>(d,AV.v undef))++v) g->∃ z y,(∀ Z q f,HR Z g q->FJ J v f->∀ T,zu P (gs.map XG.grp) (zd (os.flatMap XO.ops) ⟨f,q⟩) (T++(os.flatMap XO.ops).map fun _=>([],[])) (fun s t=>FJ J z s.fr/\HR Z y s.hp/\∃ Q,Al w (vN ((⟨some (j,b),os⟩::gs:List XG).map XG.grp)) Q/\t=T++Q))/\c z y:=fun h=>by obtain ⟨r,p,m,l⟩:=Gw O i h;refine ⟨r,p,fun Z q f o u T=>?_,l⟩;exact zL (fun s t ⟨K,L,ey,M,N⟩=>⟨K,L,_,(Al.off _).app M,by rw [N,qmo];rfl⟩) (m Z q _ o (by rw [Gv];exact u.und) _)
   rcases bI (P:=P) (os:=[]) (gs:=[]) (E:=⟨noY,RG P⟩) h with ⟨k,h⟩ | ⟨⟨t,k,n⟩,h⟩ | ⟨⟨vs,k⟩,h⟩
   . obtain ⟨R,C,V,o1,X⟩:=OJ O x.2 h;obtain ⟨r,p,m,l⟩:=Gw O i X;refine ⟨r,p,fun Z q f o u T=>?_,l⟩;simp only [wI,XG.grp,zu,Y u,k];refine ⟨fun _=>QH (fun s t ⟨D,A,Q,q3,q4⟩=>?_) (V Z q f o u T),fun n=>absurd rfl n⟩;exact zL (fun s t ⟨K,L,ey,M,N⟩=>⟨K,L,_,q3.app M,by rw [N,q4,qmo]⟩) (m Z s.hp s.fr A (FJ.made o1 D) t)
   . obtain ⟨r,p,m,l⟩:=hu h;refine ⟨r,p,fun Z q f o u T=>?_,l⟩;simp only [wI,XG.grp,zu,Y u,k];exact ⟨fun e=>absurd e n,fun _=>m Z q f o u T⟩
   obtain ⟨r,p,m,l⟩:=hu h;refine ⟨r,p,fun Z q f o u T=>?_,l⟩;simp only [wI,XG.grp,zu,Y u,k];exact m Z q f o u T
end
def IY (i:List Nat) (d:List (List Nat)) (g:List XG) (k:List Nat):CT:=fun H K f h=>Io i (box (DO i fun kn h=>cXJ g d H (jJ k (K .normal)) (kn++f) h)) f h
def IU (s:Bool) (i:List Nat) (d:List (List Nat)) (g:List XG) (k:List Nat):CT:=fun H K f h=>Io i (box (DO i fun kn h=>TV s g d H (jJ k (K .normal)) (kn++f) h)) f h
def okF (i:List Nat) (d:List (List Nat)) (g:List XG) (k:List Nat):Bool:=asc i&&decide (d=VE g)&&okR g k
def okD (s:Bool) (i:List Nat) (d:List (List Nat)) (g:List XG) (u:List (Nat×Nat)) (k:List Nat):Bool:=okF i d g k&&qiG s (vN (g.map XG.grp)) u
section
variable {P:Program} {N:Nat}
theorem BI {x:Operand} (h:opd x=some (.k (.sl true 0 []))):x = .const (.slice none 0 0):=by
 cases x with
 | tmp t=>cases h
 | func f=>cases h
 | global _=>cases h
 | const v =>
   simp only [opd,xl,Opd.k.injEq] at h;unfold AV.ofValue at h;split at h
   . cases h
   unfold AV.ofCell at h;split at h
   . rfl
   cases h
theorem kp {o:Oper} {d:Nat} (h:Ql P N o=some (.mv d (.k (.sl true 0 [])))):(o.op = .move (.const (.slice none 0 0))\/o.op = .assign (.const (.slice none 0 0)))/\o.dst=some d/\d<N:=by
 unfold Ql at h;split at h
 . exfalso;split at h <;> cases h
 . exfalso;simp only [ZE] at h;(repeat' split at h) <;> cases h
 . exfalso;simp only [ZE] at h;(repeat' split at h) <;> cases h
 . exfalso;split at h <;> cases h
 . exfalso;simp only [jL] at h;(repeat' split at h) <;> cases h
 . rename_i D j;split at h
   . rename_i l;generalize p:o.op=O at h;cases O with
     | move x =>simp only [zl,RL] at h;obtain ⟨y,v,u⟩:=h;cases u;rw [BI v];exact ⟨.inl rfl,j,l⟩
     | assign x =>simp only [zl,RL] at h;obtain ⟨y,v,u⟩:=h;cases u;rw [BI v];exact ⟨.inr rfl,j,l⟩
     | call c =>
       exfalso;simp only [zl,ZH] at h;split at h
       . simp only [JG] at h;split at h <;> (first | (cases h;done) | (simp at h))
       . simp only [JF] at h;(repeat' split at h) <;> cases h
       all_goals ((repeat' split at h) <;> cases h)
     | binOp O z x y T =>
       exfalso;simp only [zl,YZ,Vb,Va] at h
       (repeat' split at h) <;> first | (cases h;done) | skip
       all_goals
        rename_i i
        (repeat' split at i) <;> first | (cases i;cases h;done) | (cases i;done)
     | makeMap t r =>
       exfalso;cases r with
       | none=>simp only [zl] at h;cases h
       | some x=>cases h
     | next x b =>
       exfalso;cases b with
       | false=>simp only [zl,RL] at h;obtain ⟨y,v,u⟩:=h;cases u
       | true=>cases h
     | _ =>
       exfalso
       simp only [zl,Hj,Ws,Wt,RL] at h <;> first
        | (obtain ⟨_,_,u⟩:=h;cases u;done)
        | ((repeat' split at h) <;> first | (cases h;done) | (simp only [RL] at h;obtain ⟨_,_,u⟩:=h;cases u;done))
   cases h
 cases h
theorem IL {w1:World} {O:G} {d:Nat} {K:List Nat} {s:St} (h:Q .normal (St.keep ⟨(d,.v (.slice none 0 0))::s.fr,s.hp⟩ K)):Il P w1 O (.rgn [⟨none,[.mv d (.k (.sl true 0 []))]⟩] K) s Q:=by
 intro N c a w g R J n x hr ht L Z;cases c <;> first | exact x.elim | skip
 rename_i id ops dd;obtain ⟨rfl,C,u,Y⟩:=x;have y:C=[(none,.mv d (.k (.sl true 0 [])))]:=by have:=VG C;rw [<-Y] at this;simpa [je] using this.symm
 subst y;refine wpIn_region ?_;rw [qpa];cases hl0:ops.toList with
 | nil=>rw [hl0] at u;simp [QC] at u
 | cons o l =>
   rw [hl0] at u;simp only [QC] at u;split at u
   . rename_i ao gd M T V z;simp only [xl,qoj,qmm] at u;obtain ⟨⟨rfl,rfl⟩,rfl⟩:=u
     have q:l=[]:=by
      cases l with
      | nil=>rfl
      | cons o2 l2=>simp only [QC] at z;split at z <;> cases z
     subst q;have m:ops.size=1:=by rw [<-Array.length_toList,hl0];rfl
     have D:ops[0]?=some o:=by rw [<-qo3,hl0];rfl
     obtain ⟨p,X,t⟩:=kp T;rw [m];simp only [qoz,wpOpsIn,D,List.range'_zero];rw [Qr V];simp only [Qv,qmA];have j:OpRun J n P o a w fun v A=>v = .slice none 0 0/\A=w:=by refine .of_value (by rcases p with h | h <;> simp [h]) ⟨.slice none 0 0,w,?_,rfl,rfl⟩;rcases p with h | h <;> (simp [execOp,h];rfl)
     refine j _ _ fun v w2 E=>?_;obtain ⟨f,i⟩:=E;subst f;subst i;have b:Sim N ⟨(d,.v (.slice none 0 0))::s.fr,s.hp⟩ (a.put o.dst (.slice none 0 0)) w2 g:=by have:=L.step (d:=some d) (r := .v (.slice none 0 0)) (v := .slice none 0 0) (fun k e=>by cases e;exact t) (.refl _ _ _) (.v _ _) L.2.2;rw [X];exact this
     exact Z .normal _ _ _ g h (b.keep K) (.refl _ _ _) (.nil (zq _ _ _))
   cases u
end
def fk (C:List COp):Bool:=C.all fun c=>match c.2 with
 | .mpe .. => false
 | _=>true
theorem Lo {c:List COp} (h:fk c=true) {i k:Nat}:Qc c i k=false:=by
 unfold Qc;split
 . rename_i v u;have:=LL.1 h _ (qn7 u);simp at this
 rfl
def cM:AOp->Bool
 | .ld .. => true
 | _=>false
def chn (o:AOp):Bool:=o.touch && !cM o
def DI (u:List (Nat×Nat)) (C:List COp) (i:Nat):Bool:=u.any fun q=>(q.1==i&&(match C[q.2]? with | some c=>chn c.2 | none=>false)) || (q.2==i&&(match C[q.1]? with | some c=>chn c.2 | none=>false))
def frA (Rs:List Rec) (f:List (Nat×AV)) (i:Nat):Nat->AV:=qy (Rs.map Rec.F) (fun k=>decide (k<i)) (get f)
structure Flo (P:Program) (E:HE) (un:List (Nat×Nat)) (cl:List COp) (fr0:List (Nat×AV)) (Rs:List Rec) (J:Nat->List HObj->Prop):Prop where
 len:Rs.length=cl.length
 gd:∀ i (h:i<cl.length),cl[i].1=none
 dst:∀ i (h:i<cl.length) (h':i<Rs.length),Rs[i].dst=cl[i].2.dst
 chain:∀ i (h:i<cl.length) (h':i<Rs.length),chn cl[i].2=true->∀ fr hq,(∀ x∈cl[i].2.opds,evF (get fr) x=evF (frA Rs fr0 i) x)->J i hq->aop P E cl[i].2 ⟨fr,hq⟩ fun s=>s.fr=zb fr Rs[i].dst Rs[i].r/\J (i+1) s.hp
 still:∀ i (h:i<cl.length),chn cl[i].2=false->∀ hq,J i hq↔J (i+1) hq
 look:∀ i (h:i<cl.length) (h':i<Rs.length),chn cl[i].2=false->∀ k,k<=cl.length->(cl[i].2.touch=true->DI un cl i=false->k=i)->∀ fr hq,(∀ x∈cl[i].2.opds,evF (get fr) x=evF (frA Rs fr0 i) x)->J k hq->aop P E cl[i].2 ⟨fr,hq⟩ fun s=>s=⟨zb fr Rs[i].dst Rs[i].r,hq⟩
section
variable {P:Program} {E:HE} {w1:World} {g1:G}
theorem Flo.const {un y q K J} (f:Flo P E un y q K J) {a b:Nat} (x0:a<=b) (hb:b<=y.length) (h:∀ t,a<=t->t<b->∀ (X:t<y.length),chn y[t].2=false) (O:List HObj):J a O↔J b O:=by
 induction b with
 | zero=>have:a=0:=by omega
         rw [this]
 | succ b ih =>
   by_cases e:a=b+1
   . rw [e]
   rw [ih (by omega) (by omega) (fun t A h2 X=>h t A (by omega) X)];exact f.still b (by omega) (h b (by omega) (by omega) (by omega)) O
theorem Tt (hY:YS P E w1 g1) {gs:List Grp} {un:List (Nat×Nat)} {st:St} {Rs:List Rec} {J:Nat->List HObj->Prop} (y9:fk (je gs)=true) (y6:(un.all fun q => !((match (je gs)[q.1]? with | some c=>chn c.2 | none=>false)&&(match (je gs)[q.2]? with | some c=>chn c.2 | none=>false)))=true) (f:Flo P E un (je gs) st.fr Rs J) (h0:J 0 st.hp)
 (hQ:∀ O L,get O=frA Rs st.fr (je gs).length->J (je gs).length L->Q .normal (St.keep ⟨O,L⟩ ks)):Il P w1 g1 (.drw gs un ks) st Q:=by
 intro N c a w g R ro n hf hr ht hs hl;cases c <;> first | exact hf.elim | skip
 rename_i id ops dd;obtain ⟨rfl,hm,C,pre,hc,K,hg⟩:=hf;have z5:je gs=C:=by rw [hg,VG]
 rw [z5] at y9 f hQ y6;have lsz:C.length=ops.size:=by simpa using (zr hc).1
 have lR:=f.len;have z4:∀ i k,Qc C i k=false:=fun i k=>Lo y9
 have x6:∀ i k (V:i<k) (o:k<C.length),i∉pre.getD k []->Jr (C[i]'(by omega)) C[k]=true/\((C[i]'(by omega)).2.touch=true->C[k].2.touch=true->(i,k)∈un):=fun i k V o p=>by
  rcases Yk K V (by omega) o with h | ⟨b,v⟩
  . exact absurd h p
  refine ⟨b,?_⟩;rcases v with v | v
  . rw [z4] at v;cases v
  exact v
 have apart:∀ i k (V:i<k) (o:k<C.length),i∉pre.getD k []->(∀ d,(C[i]'(by omega)).2.dst=some d->d∉zf C[k])/\(∀ d,C[k].2.dst=some d->d∉zf (C[i]'(by omega)))/\∀ d,(C[i]'(by omega)).2.dst=some d->C[k].2.dst≠some d:=fun i k V o p=>by
  have b:=(x6 i k V o p).1;simp only [Jr,qd] at b;obtain ⟨⟨a1,a2⟩,a3⟩:=b;refine ⟨fun d K=>?_,fun d K=>?_,fun d K x5=>?_⟩
  . rw [K] at a1;simpa [QX] using a1
  . rw [K] at a2;simpa [QX] using a2
  rw [K,x5] at a3;simp at a3
 have y4:=fun k (o:k<ops.size)=>ZO K o (by omega);have y3:=fun i (hi:i<ops.size)=>(zr hc).2 i (by simpa using hi) (by omega);simp only [qox] at y3;have x1:∀ i (h:i<C.length) {d},(Rs[i]'(by omega)).F.on d=true->C[i].2.dst=some d:=fun i h d r=>by rw [<-f.dst i h (by omega)];exact ZF r
 have x9:∀ (X:Nat->Bool) (i:Nat) (hi:i<C.length),Clo pre ops X->X i=false->(∀ j∈pre.getD i [],X j=true)->∀ O,get O=qy (Rs.map Rec.F) X (get st.fr)->∀ x∈C[i].2.opds,evF (get O) x=evF (frA Rs st.fr i) x:=fun X i hi hX hx hr O T x z8=>by
  refine Js fun d K=>?_;rw [T];have x5:d∈zf C[i]:=by simp only [zf,xm,qob];exact .inl ⟨x,z8,K⟩
  refine qk rfl fun k o r=>?_;simp only [qmq] at o;simp only [qmv] at r;rcases qnT k i with h | h | h
  . by_cases p:k∈pre.getD i []
    . rw [hr k p];simp [h]
    exact absurd x5 ((apart k i h hi p).1 d (x1 k (by omega) r))
  . subst h;rw [hx];simp
  cases e:X k with
  | false=>symm;simp;omega
  | true =>
    have p:i∉pre.getD k []:=fun p=>by have:=hX k (by omega) e i p;rw [hx] at this;cases this
    exact absurd x5 ((apart i k h (by omega) p).2.1 d (x1 k (by omega) r))
 have next:∀ (X:Nat->Bool) (i:Nat) (hi:i<C.length),Clo pre ops X->X i=false->qy (Rs.map Rec.F) (YO X i) (get st.fr)=(Rs[i]'(by omega)).F.app (qy (Rs.map Rec.F) X (get st.fr)):=fun X i hi hX hx=>by
  have:=zR (l:=Rs.map Rec.F) (F:=get st.fr) (X:=X) (Y:=YO X i) (i:=i) (by simpa using (by omega:i<Rs.length)) hx (by simp [YO]) (fun j A=>by simp [YO,A]) (fun k o z7 z9 u0 r=>by
   simp only [qmq] at o;simp only [qmv] at r ⊢;have p:i∉pre.getD k []:=fun p=>by have:=hX k (by omega) z9 i p;rw [hx] at this;cases this
   have a:=(apart i k z7 (by omega) p).2.2 u0 (x1 i hi r);rw [<-f.dst k (by omega) (by omega)] at a;simpa [Rec.F] using a)
  simpa using this
 refine qpH hm (MA (pre:=pre) (fun k o=>(y4 k o).1) (fun k o=>(y4 k o).2)
  (Inv:=fun X a' w'=>∃ O L g' k,k<=C.length/\(∀ j (A:j<C.length),chn C[j].2=true->(X j=true↔j<k))/\J k L/\get O=qy (Rs.map Rec.F) X (get st.fr)/\Sim N ⟨O,L⟩ a' w' g'/\Upd (hpf st.hp) g w (hpf L) g' w'/\a'.defers=a.defers) ?_ ?_ ops.size _ a w.drew (by simp) (fun k o y7=>?_) ?_ ?_)
 . -- one operation
   intro X i a1 w2 y2 hX hi hx hr ⟨O,L,g2,k,k1,k2,k3,k4,k5,k6,k7⟩ x2
   have z:i<C.length:=by omega
   obtain ⟨c1,c2⟩:=y3 i hi;rw [f.gd i z] at c2;unfold wpOpIn;simp only [qmW hi];rw [Qr c2];simp only [Qv,qmA];have y5:=x9 X i z hX hx hr O k4;have z0:=next X i z hX hx
   have Z:∀ j (A:j<C.length),chn C[j].2=true->j<i->k<=j->j∉pre.getD i []:=fun j A y u3 u4 p=>by have:=(k2 j A y).1 (hr j p);omega
   have D:∀ j (A:j<C.length),chn C[j].2=true->i<j->j<k->i∉pre.getD j []:=fun j A y u2 z6 p=>by have:=hX j (by omega) ((k2 j A y).2 z6) i p;rw [hx] at this;cases this
   have u1:∀ t u (b:t<C.length) (v:u<C.length),chn C[t].2=true->chn C[u].2=true->(t,u)∈un->False:=fun t u b v e1 e2 x3=>by have:=LL.1 y6 _ x3;simp [b,v,e1,e2] at this
   have x7:∀ t (h:t<C.length),chn C[t].2=true->C[t].2.touch=true:=fun t h e=>by simp only [chn,qd] at e;exact e.1
   have z2:=ht.trans k6.tr;by_cases s:chn C[i].2=true
   . -- it changes objects: all that do so ahead of it are done,none D it
     have y0:k<=i:=by
      rcases qmV i k with h | h
      . have:=(k2 i z s).2 h;rw [hx] at this;cases this
      exact h
     have none:∀ t,k<=t->t<i->∀ (ht:t<C.length),chn C[t].2=false:=fun t b v M=>by
      cases e:chn C[t].2 with
      | false=>rfl
      | true=>exact (u1 t i M z e s ((x6 t i v z (Z t M e v b)).2 (x7 t M e) (x7 i z s))).elim
     have hJ:=(f.const y0 (by omega) none L).1 k3;refine jH c1 (f.chain i z (by omega) s O L y5 hJ) hY z2 k5 fun x4 a' w' g' hK y1 hu K=>x2 _ _ ⟨x4.fr,x4.hp,g',i+1,by omega,fun j A y=>?_,hK.2,?_,y1,k6.trans hu,K.trans k7⟩
     . by_cases e:j=i
       . subst e;simp [YO]
       simp only [YO,if_neg e];rw [k2 j A y];constructor
       . intro h;omega
       intro h;rcases qmV j k with v | v
       . exact v
       have:=none j v (by omega) A;rw [y] at this;cases this
     rw [hK.1,z0,<-k4,QN]
   -- it looks,or not even that
   have s:chn C[i].2=false:=by simpa using s
   have go:∀ k',k'<=C.length->(C[i].2.touch=true->DI un C i=false->k'=i)->J k' L->Oper.wpIn (W ro) n P ops[i] a1 w2 y2 R:=fun k' b v M =>
    jH c1 (f.look i z (by omega) s k' b v O L y5 M) hY z2 k5 fun x4 a' w' g' hK y1 hu K=>x2 _ _ ⟨x4.fr,x4.hp,g',k,k1,fun j A y=>by
     have e:j≠i:=fun e=>by subst e;rw [s] at y;cases y
     simp only [YO,if_neg e];exact k2 j A y,by rw [hK];exact k3,by rw [hK,z0,<-k4,QN],y1,k6.trans hu,K.trans k7⟩
   by_cases T:C[i].2.touch=true/\DI un C i=false
   . -- its QO is that of the text
     have x0:∀ t (h:t<C.length),chn C[t].2=true->(i,t)∉un/\(t,i)∉un:=fun t h e=>by
      constructor
      . intro x3;have:DI un C i=true:=qnG.2 ⟨(i,t),x3,by simp [h,e]⟩;rw [T.2] at this;cases this
      intro x3;have:DI un C i=true:=qnG.2 ⟨(t,i),x3,by simp [h,e]⟩;rw [T.2] at this;cases this
     rcases Nat.le_total k i with y0 | V
     . refine go i (by omega) (fun _ _=>rfl) ((f.const y0 (by omega) (fun t b v M=>?_) L).1 k3);cases e:chn C[t].2 with
       | false=>rfl
       | true=>exact absurd ((x6 t i v z (Z t M e v b)).2 (x7 t M e) T.1) (x0 t M e).2
     refine go i (by omega) (fun _ _=>rfl) ((f.const V k1 (fun t b v M=>?_) L).2 k3);cases e:chn C[t].2 with
     | false=>rfl
     | true =>
       have y8:i<t:=by
        rcases Nat.lt_or_eq_of_le b with h | h
        . exact h
        subst h;rw [s] at e;cases e
       exact absurd ((x6 i t y8 M (D t M e y8 v)).2 T.1 (x7 t M e)) (x0 t M e).1
   exact go k k1 (fun b v=>absurd ⟨b,v⟩ T) k3
 . -- the end
   intro X a1 w2 x8 ⟨O,L,g2,k,k1,k2,k3,k4,k5,k6,k7⟩
   have hJ:J C.length L:=(f.const k1 (Qs _) (fun t b v M=>by
    cases e:chn C[t].2 with
    | false=>rfl
    | true =>have:=(k2 t M e).1 (x8 t (by omega));omega) L).1 k3
   refine hl .normal _ _ _ g2 (hQ O L ?_ hJ) (k5.keep ks) k6 (.nil k7);rw [k4];funext t;exact qk rfl fun k o _=>by simp only [qmq] at o;rw [x8 k (by omega)];simp;omega
 . rw [Qd _ k o] at y7;cases y7
 . have:∀ m,unl (lst (Array.replicate ops.size false)) m<=m:=fun m=>by
    induction m with
    | zero=>exact Qs _
    | succ m ih=>simp only [unl];split <;> omega
   exact this _
 obtain ⟨z1,z3⟩:=hs.2.2.drew;refine ⟨st.fr,st.hp,g,0,qmQ _,fun j A _=>?_,h0,?_,⟨hs.1,hs.2.1.mono z3.tr,z1⟩,z3,rfl⟩
 . rw [Qd _ j (by omega)];simp
 have:qy (Rs.map Rec.F) (lst (Array.replicate ops.size false)) (get st.fr)=qy (Rs.map Rec.F) (fun _=>false) (get st.fr):=by funext t;exact qk rfl fun k o _=>Qd _ k (by simp at o;omega)
 rw [this,qP (fun _=>rfl)]
end
theorem Ld {o:AOp} (h:o.touch=false) (F:Nat->AV) (H:Hp):o.foot F H=[]:=by cases o <;> first | rfl | (simp [AOp.touch,AOp.heapy] at h)
def qhR (a b:List AV):Bool:=eqL (eqA 6) a b
theorem FN {a b:List AV} (h:qhR a b=true):a=b:=Xj (fun _ _ h=>Kz 6 h) h
def cG (L:List (Nat×List AV)) (h:List HObj) (k:Prop):Prop:=List.rec (motive:=fun _=>Prop) k (fun p _ i=>VC h p.1 fun c=>okP (qhR c p.2) i) L
theorem Ow {u:List HObj} {k:Prop}:∀ {L:List (Nat×List AV)},cG L u k->(∀ p∈L,hpf u p.1=some (.cells p.2))/\k
 | [],h=>⟨fun p u=>(by cases u),h⟩
 | p::L,h=>by
   obtain ⟨c,v,j⟩:=zU (show VC u p.1 _ from h);obtain ⟨z,y⟩:=qt j;obtain ⟨o,g⟩:=Ow (show cG L u k from y);refine ⟨fun q s=>?_,g⟩;rcases sg.1 s with e | e
   . subst e;rw [<-FN z];exact v
   exact o q e
def ak (P:List (List HObj)) (id:Nat) (C:List AV) (k:Prop):Prop:=List.rec (motive:=fun _=>Prop) k (fun h _ i=>VC h id fun c=>okP (qhR c C) i) P
theorem Fl {id:Nat} {c:List AV} {k:Prop}:∀ {P:List (List HObj)},ak P id c k->(∀ u∈P,hpf u id=some (.cells c))/\k
 | [],h=>⟨fun p u=>(by cases u),h⟩
 | u::P,h=>by
   obtain ⟨C,v,j⟩:=zU (show VC u id _ from h);obtain ⟨z,y⟩:=qt j;obtain ⟨o,g⟩:=Fl (show ak P id c k from y);refine ⟨fun q s=>?_,g⟩;rcases sg.1 s with e | e
   . subst e;rw [<-FN z];exact v
   exact o q e
abbrev FLO:=AOp×Bool
def UO:List FLO->Hd->K1->FrL->List HObj->List (Nat×List AV)->List (List HObj)->Prop
 | [],_,c,r,h,_,_=>c r h
 | (.call d f a,_)::O,H,c,r,h,L,P=>ZQ a r fun X=>H.C f X h fun x hp1=>cG L hp1 (UO O H c ((d,x)::r) hp1 L (h::P))
 | (.ld d agg s x,b)::O,H,c,r,h,L,P=>qK x r fun v=>match v with
   | .ptr C off=>ldP agg s off C fun y=>UO O H c ((d,y)::r) h L P
   | .ref id off=>VC h id fun C=>ldP agg s off C fun y=>Bool.rec (motive:=fun _=>Prop) (UO O H c ((d,y)::r) h L P) (ak P id C (UO O H c ((d,y)::r) h ((id,C)::L) P)) b
   | _=>False
 | (o,_)::O,H,c,r,h,L,P=>Bool.rec (motive:=fun _=>Prop) (cOp o (fun r hp1=>UO O H c r h L P) r h) (cD o (fun u hp1=>cG L hp1 (UO O H c u hp1 L (h::P))) r h) o.touch
def pa (P:Program) (S:YSp) (o:AOp) (F:Nat->AV) (h:List HObj) (r:AV) (hp1:List HObj):Prop:=match o with
 | .call d f a=>∀ Y,Xd Y S->∀ Z q,HR Z h q->YC P ⟨Y,RG P⟩ f (a.map (evF F)) q (fun R u=>R=r/\HR Z hp1 u)
 | .ld d agg s x=>hp1=h/\ZM (hpf h) r [] agg s (evF F x)
 | o=>(o.touch=false/\hp1=h/\o.sem P (evF F) (hpf h) h.length r [])\/(o.touch=true/\∀ Z q,HR Z h q->∃ w,o.sem P (evF F) (hpf q) q.length r w/\HR Z hp1 (qf q w))
def LdF (o:AOp) (F:Nat->AV) (h:List HObj) (r:AV):Prop:=match o with
 | .ld d agg s x=>ZM (hpf h) r [] agg s (evF F x)
 | _=>True
inductive FRun (P:Program) (S:YSp):List FLO->FrL->List HObj->List Rec->List (List HObj)->FrL->List HObj->Prop
 | nil (fr hp):FRun P S [] fr hp [] [] fr hp
 | cons {o b os fr hp r hp1 Rs hs fr' hp'}:pa P S o (get fr) hp r hp1->FRun P S os (zb fr o.dst r) hp1 Rs hs fr' hp'->FRun P S ((o,b)::os) fr hp (⟨o.dst,r,[],[]⟩::Rs) (hp1::hs) fr' hp'
section
variable {P:Program} {S:YSp} {H:Hd}
theorem GI {R:Rec} {s:List Rec} :frA (R::s) f (i+1)=frA s (zb f R.dst R.r) i:=by simp only [frA,wI,qy,qo1,qpk,qmA,qod];rw [QN]
theorem GJ {R:List Rec} :frA R f 0=get f:=by unfold frA;rw [qP (fun i=>by simp)]
def Iy (o:List FLO) (f:FrL) (R:List Rec) (s:List (List HObj)):Prop:=∀ i (h:i<o.length) (u:i<R.length),o[i].2=true->∀ p∈s,LdF o[i].1 (frA R f i) p R[i].r
theorem Cu {id o:Nat} {c:List AV} {a:Bool} {s:Nat} {r:AV} (u:hpf h id=some (.cells c)) (v:match a with | true=>o+s<=c.length/\r = .agg (qJ c o s) | false=>∃ y,c[o]?=some y/\r=y):ZM (hpf h) r [] a s (.ref id o):=by simp only [ZM,u];exact ⟨trivial,v⟩
theorem FV (ok:HzOK P S H):∀ {O:List FLO} {c:K1} {z:FrL} {u:List HObj} {L:List (Nat×List AV)} {m:List (List HObj)},UO O H c z u L m ->
 ∃ Rs l t w,FRun P S O z u Rs l t w/\(∀ p∈L,hpf u p.1=some (.cells p.2)->∀ h∈l,hpf h p.1=some (.cells p.2))/\Iy O z Rs (m++u::l)/\c t w
 | [],c,z,u,L,m,h=>⟨[],[],z,u,.nil z u,fun p _ _ h hh=>(by cases hh),fun i h=>by simp at h,h⟩
 | (o,b)::O,c,z,u,L,m,h=>by
   have step:∀ {r:AV} {hp1:List HObj} {L1:List (Nat×List AV)} {PH1:List (List HObj)},pa P S o (get z) u r hp1->(∀ p∈L,p∈L1/\(hpf u p.1=some (.cells p.2)->hpf hp1 p.1=some (.cells p.2)))->(∀ x,x∈m++[u,hp1]->x∈PH1++[hp1]) ->
    (b=true->∀ l,(∀ p∈L1,hpf hp1 p.1=some (.cells p.2)->∀ h∈l,hpf h p.1=some (.cells p.2))->∀ x∈m++u::hp1::l,LdF o (get z) x r)->UO O H c (zb z o.dst r) hp1 L1 PH1 ->
    ∃ Rs l t w,FRun P S ((o,b)::O) z u Rs l t w/\(∀ p∈L,hpf u p.1=some (.cells p.2)->∀ h∈l,hpf h p.1=some (.cells p.2))/\Iy ((o,b)::O) z Rs (m++u::l)/\c t w:=fun {r hp1 L1 PH1} hg hL X hb h=>by
    obtain ⟨Rs,l,t,w,k1,K,k3,k4⟩:=FV ok h;refine ⟨⟨o.dst,r,[],[]⟩::Rs,hp1::l,t,w,.cons hg k1,fun p j hc x g=>?_,fun i hi x1 hf x g=>?_,k4⟩
    . obtain ⟨q1,E⟩:=hL p j;rcases sg.1 g with e | e
      . subst e;exact E hc
      exact K p q1 (E hc) x e
    cases i with
    | zero =>rw [GJ];exact hb hf l K x g
    | succ i =>
      rw [GI];refine k3 i (by simpa using hi) (by simpa using x1) hf x ?_;rcases xm.1 g with e | e
      . have:=X x (by simp [e]);rcases xm.1 this with e | e
        . exact xm.2 (.inl e)
        simp at e;subst e;simp
      rcases sg.1 e with e | e
      . have:=X x (by simp [e]);rcases xm.1 this with e | e
        . exact xm.2 (.inl e)
        simp at e;subst e;simp
      exact xm.2 (.inr e)
   have Q:(∀ d f as,o ≠ .call d f as)->(∀ d a s x,o ≠ .ld d a s x)->Bool.rec (motive:=fun _=>Prop) (cOp o (fun z hp1=>UO O H c z u L m) z u) (cD o (fun x0 hp1=>cG L hp1 (UO O H c x0 hp1 L (u::m))) z u) o.touch->∃ Rs l t w,FRun P S ((o,b)::O) z u Rs l t w/\(∀ p∈L,hpf u p.1=some (.cells p.2)->∀ h∈l,hpf h p.1=some (.cells p.2))/\Iy ((o,b)::O) z Rs (m++u::l)/\c t w:=fun n1 D h=>by
    cases ht:o.touch with
    | true =>
      rw [ht] at h;obtain ⟨r,hp1,wi,M,N⟩:=Gh (P:=P) o n1 _ _ _ h;obtain ⟨h5,h6⟩:=Ow N;refine step (r:=r) (hp1:=hp1) (L1:=L) (PH1:=u::m) ?_ (fun p j=>⟨j,fun _=>h5 p j⟩) (fun x g=>by simp at g ⊢;rcases g with e | e | e <;> simp [e]) (fun _ l _ x g=>?_) h6
      . have hg:o.touch=true/\∀ Z k,HR Z u k->∃ Y,o.sem P (evF (get z)) (hpf k) k.length r Y/\HR Z hp1 (qf k Y):=⟨ht,fun Z k hr=>by obtain ⟨Y,q1,E,_⟩:=M Z k hr;exact ⟨Y,q1,E⟩⟩;cases o <;> first | exact .inr hg | exact absurd rfl (n1 _ _ _) | exact absurd rfl (D _ _ _ _)
      cases o <;> first | trivial | exact absurd rfl (D _ _ _ _)
    | false =>
    rw [ht] at h;obtain ⟨r,Y,M,N⟩:=MU (P:=P) o _ _ _ h;have hw:=Ns ht M;subst hw;refine step (hp1:=u) (L1:=L) (PH1:=m) ?_ (fun p j=>⟨j,id⟩) (fun x g=>by simpa using g) (fun _ l _ x g=>?_) N
    . cases o <;> first | exact .inl ⟨ht,rfl,M⟩ | exact absurd rfl (n1 _ _ _) | exact absurd rfl (D _ _ _ _)
    cases o <;> first | trivial | exact absurd rfl (D _ _ _ _)
   cases o with
   | call d f A =>have h:ZQ A z (fun xs=>H.C f xs u fun x hp1=>cG L hp1 (UO O H c ((d,x)::z) hp1 L (u::m))):=h;rw [Qj] at h;obtain ⟨r,hp1,V,R⟩:=ok.C _ _ _ _ h;obtain ⟨M,N⟩:=Ow R;exact step (r:=r) (hp1:=hp1) (L1:=L) (PH1:=u::m) V (fun p j=>⟨j,fun _=>M p j⟩) (fun x g=>by simp at g ⊢;rcases g with e | e | e <;> simp [e]) (fun _ l _ x g=>trivial) N
   | ld d agg J x =>
     have h:qK x z (fun v=>match v with
      | .ptr C off=>ldP agg J off C fun y=>UO O H c ((d,y)::z) u L m
      | .ref id off=>VC u id fun C=>ldP agg J off C fun y=>Bool.rec (motive:=fun _=>Prop) (UO O H c ((d,y)::z) u L m) (ak m id C (UO O H c ((d,y)::z) u ((id,C)::L) m)) b
      | _=>False):=h
     rw [qi] at h;split at h
     . rename_i C off g;obtain ⟨r,V,R⟩:=VP h;have n:∀ k:List HObj,ZM (hpf k) r [] agg J (evF (get z) x):=fun k=>by rw [g];exact ⟨rfl,V⟩
       exact step (r:=r) (hp1:=u) (L1:=L) (PH1:=m) ⟨rfl,n u⟩ (fun p j=>⟨j,id⟩) (fun x g=>by simpa using g) (fun _ l _ y hy=>n y) R
     . rename_i id off g;obtain ⟨C,T,h⟩:=zU h;obtain ⟨r,V,R⟩:=VP h;have n:∀ k:List HObj,hpf k id=some (.cells C)->ZM (hpf k) r [] agg J (evF (get z) x):=fun k e=>by rw [g];exact Cu e V
       cases b with
       | false=>exact step (r:=r) (hp1:=u) (L1:=L) (PH1:=m) ⟨rfl,n u T⟩ (fun p j=>⟨j,fun e=>e⟩) (fun x g=>by simpa using g) (fun q=>by cases q) R
       | true =>
         obtain ⟨M,N⟩:=Fl (show ak m id C _ from R);refine step (r:=r) (hp1:=u) (L1:=(id,C)::L) (PH1:=m) ⟨rfl,n u T⟩ (fun p j=>⟨qoy _ j,fun e=>e⟩) (fun x g=>by simpa using g) (fun _ l K y hy=>?_) N;rcases xm.1 hy with e | e
         . exact n y (M y e)
         rcases sg.1 e with e | e
         . subst e;exact n _ T
         rcases sg.1 e with e | e
         . subst e;exact n _ T
         exact n y (K (id,C) (by simp) T y e)
     exact h.elim
   | _=>exact Q (fun _ _ _ e=>by cases e) (fun _ _ _ _ e=>by cases e) h
theorem yE {o r u R s f p} (h:FRun P S o r u R s f p):R.length=o.length/\s.length=o.length:=by
 induction h with
 | nil=>exact ⟨rfl,rfl⟩
 | cons _ _ i=>simp [i.1,i.2]
theorem GL {o r j R s f p} (h:FRun P S o r j R s f p):∀ i (u:i<o.length) (v:i<R.length),R[i].dst=o[i].1.dst:=by
 induction h with
 | nil=>intro i u;simp at u
 | cons _ _ z =>
   intro i u v;cases i with
   | zero=>rfl
   | succ i=>simpa using z i (by simpa using u) (by simpa using v)
theorem OZ {o r p R s f v} (h:FRun P S o r p R s f v):∀ i (u:i<o.length) (j:i<R.length),pa P S o[i].1 (frA R r i) ((p::s).getD i []) R[i].r ((p::s).getD (i+1) []):=by
 induction h with
 | nil=>intro i u;simp at u
 | cons g _ z =>
   intro i u j;cases i with
   | zero=>rw [GJ];exact g
   | succ i =>rw [GI];have:=z i (by simpa using u) (by simpa using j);simpa using this
theorem yD {o r u Rs s f p} (h:FRun P S o r u Rs s f p):get f=frA Rs r o.length/\p=(u::s).getD o.length []:=by
 induction h with
 | nil=>exact ⟨by rw [List.length_nil,GJ],rfl⟩
 | cons _ _ i=>exact ⟨by rw [qm5,GI];exact i.1,by simpa using i.2⟩
def qkN:AOp->Bool
 | .call .. => true
 | _=>false
def wm:AOp->Bool
 | .call .. | .callv .. | .callx .. | .rng .. | .nxt .. | .ent .. | .isn .. => false
 | _=>true
def VH (o:List FLO):List COp:=je [⟨none,o.map (·.1)⟩]
theorem GA (o:List FLO):VH o=o.map fun p=>(none,p.1):=by simp [VH,je,qps]
def vI (o:List FLO) (un:List (Nat×Nat)):Bool:=fk (VH o)&&(un.all fun q => !((match (VH o)[q.1]? with | some c=>chn c.2 | none=>false)&&(match (VH o)[q.2]? with | some c=>chn c.2 | none=>false))) &&
 ((List.range o.length).all fun i=>match o[i]? with
   | some p=>(p.2 || !DI un (VH o) i || !cM p.1)&&(!chn p.1 || qkN p.1 || wm p.1)
   | none=>true)
def qll (o:List FLO) (k:List Nat):CT:=fun H K f h=>UO o H (jJ k (K .normal)) f h [] []
theorem Er {o:AOp} (h:chn o=false) (u:cM o=false):o.touch=false:=by simp only [chn,u,qoN,qpr] at h;exact h
theorem oV {O:List FLO} {un:List (Nat×Nat)} (hk:vI O un=true) {l:FrL} {Rs s X K} (u:FRun P S O l p Rs s X K) (n:Iy O l Rs (p::s)) {Y:YF} (hY:Xd Y S) (Z:ZZ) :
 Flo P ⟨Y,RG P⟩ un (VH O) l Rs (fun i h=>HR Z ((p::s).getD i []) h):=by
 simp only [vI,qd] at hk;obtain ⟨⟨k1,k2⟩,k3⟩:=hk;obtain ⟨l1,l2⟩:=yE u;have lc:(VH O).length=O.length:=by rw [GA];simp
 have t:∀ i (h:i<(VH O).length),(VH O)[i]=(none,(O[i]'(by omega)).1):=fun i h=>by simp [GA]
 have fl:∀ i (h:i<O.length),(O[i].2=true\/DI un (VH O) i=false\/cM O[i].1=false)/\(chn O[i].1=false\/qkN O[i].1=true\/wm O[i].1=true):=fun i h=>by have:=LL.1 k3 i (qmO.2 h);simp only [Wd h,qd,qm2,qmZ] at this;exact ⟨or_assoc.1 this.1,or_assoc.1 this.2⟩
 refine ⟨by omega,fun i h=>by rw [t i h],fun i h m=>by rw [t i h];exact GL u i (by omega) m,fun i h m c j v a V=>?_,fun i h c v=>?_,fun i h m c k x0 L j v a V=>?_⟩
 . rw [t i h] at c a ⊢;have g:=OZ u i (by omega) m;have z:=GL u i (by omega) m;rcases (fl i (by omega)).2 with e | e | e
   . rw [e] at c;cases c
   rotate_left
   . generalize (O[i]'(by omega)).1=o at e g z a c ⊢;have M:o.touch=true:=by simp only [chn,qd] at c;exact c.1
     have hl:cM o=false:=by simp only [chn,qd,qmZ] at c;exact c.2
     have C:∀ {N:AOp},N=o->(∃ w,N.sem P (evF (frA Rs l i)) (hpf v) v.length Rs[i].r w/\HR Z ((p::s).getD (i+1) []) (qf v w))->∃ r w,N.sem P (evF (get j)) (hpf v) v.length r w/\((St.step ⟨j,v⟩ N.dst r w).fr=zb j Rs[i].dst Rs[i].r/\HR Z ((p::s).getD (i+1) []) (St.step ⟨j,v⟩ N.dst r w).hp):=fun {N} e ⟨w,q1,q2⟩=>by subst e;exact ⟨Rs[i].r,w,ZX q1 a (fun _ _=>rfl) (fun _=>rfl),by rw [z];rfl,q2⟩
     have T:∀ {A B:Prop},((o.touch=false/\A)\/(o.touch=true/\B))->B:=fun h=>by
      rcases h with h | h
      . rw [M] at h;cases h.1
      exact h.2
     cases o <;> first
      | (cases e;done)
      | (cases hl;done)
      | (cases M;done)
      | exact C rfl (T g Z v V)
   generalize (O[i]'(by omega)).1=o at e g z a ⊢;cases o with
   | call d f y =>have ea:y.map (evF (get j))=y.map (evF (frA Rs l i)):=qmL fun x hx=>a x hx;show YC P _ f (y.map (evF (get j))) v _;rw [ea];have z:Rs[i].dst=some d:=z;refine Yf (fun r1 h1 ⟨e1,e2⟩=>⟨?_,e2⟩) (g Y hY Z v V);rw [z,e1];rfl
   | _=>cases e
 . rw [t i h] at c;have g:=OZ u i (by omega) (by omega)
   have:(p::s).getD (i+1) []=(p::s).getD i []:=by
    generalize (O[i]'(by omega)).1=o at c g;cases o with
    | call=>cases c
    | ld=>exact g.1
    | _ =>
      rcases g with g | g
      . exact g.2.1
      rw [show _=false from Er c rfl] at g;cases g.1
   rw [this]
 rw [t i h] at c a L ⊢;have g:=OZ u i (by omega) m;have z:=GL u i (by omega) m;have R:(O[i]'(by omega)).2=true->∀ h∈p::s,LdF (O[i]'(by omega)).1 (frA Rs l i) h Rs[i].r:=fun hb=>n i (by omega) m hb;have Q:=(fl i (by omega)).1
 have J:(p::s).getD k []∈p::s:=by
  have:k<(p::s).length:=by simp;omega
  rw [qmp,Wd this];exact qmr _
 generalize he:(O[i]'(by omega))=ob at c g z a R Q L ⊢;obtain ⟨o,b⟩:=ob;cases o with
 | call=>cases c
 | ld d agg sz x =>
   have z:Rs[i].dst=some d:=z
   have s:ZM (hpf ((p::s).getD k [])) Rs[i].r [] agg sz (evF (frA Rs l i) x):=by
    rcases Q with e | e | e
    . exact R e _ J
    . rw [L rfl e];exact g.2
    cases e
   refine ⟨Rs[i].r,[],?_,by rw [z];rfl⟩;simp only [AOp.sem];rw [a x (by simp [AOp.opds])];simp only [ZM] at s ⊢;split at s
   . exact s
   . split at s
     . rename_i E;rw [(V.cel E).1];exact s
     exact s.elim
   exact s.elim
 | callx=>cases c
 | callv=>cases c
 | rng=>cases c
 | nxt=>cases c
 | ent=>cases c
 | isn =>have M:=Er c rfl;obtain ⟨_,_,D⟩:=g.resolve_right (fun h=>by rw [M] at h;cases h.1);exact D.elim
 | _ =>have M:=Er c rfl;obtain ⟨_,_,D⟩:=g.resolve_right (fun h=>by rw [M] at h;cases h.1);refine ⟨Rs[i].r,[],ZX D a (fun q v=>by rw [Ld M] at v;cases v) (fun v=>by simp at v),by rw [z];rfl⟩
end
def kM:AC := .loop (.seq (.rgn [⟨none,[.bin 10 .lss (.t 9) (.k (I 4096))]⟩] [0,1,5,9,10]) (.seq (.cond (.t 10) .skip (.exit 0)) (.seq (.block 1 (.seq (.rgn [⟨none,[.mv 11 (.t 9),.mv 6 (.t 11)]⟩] [0,1,5,6,9]) (.rgn [⟨none,[.mv 12 (.t 6),.iaa 13 4096 1 (.t 5) (.t 12),.st 1 (.t 13) (.k (I 1048576))]⟩] [0,1,5,9]))) (.rgn [⟨none,[.bin 14 .add (.t 9) (.k (I 1)),.mv 9 (.t 14)]⟩] [0,1,5,9]))))
def vt:List AV:=List.replicate 4096 (I 1048576)
def ET (cs:List AV) (i:Nat):List AV:=List.replicate i (I 1048576)++cs.drop i
theorem kN {c:List AV} (h:c.length=4096) (u:i<=4096):(ET c i).length=4096:=by simp [ET,h];omega
theorem kO {c:List AV} (h:c.length=4096) (v:i<4096):(ET c i).take i++I 1048576::(ET c i).drop (i+1)=ET c (i+1):=by
 unfold ET;have u:(List.replicate i (I 1048576)).length=i:=by simp
 rw [qn1 u,List.drop_append,qnJ (by simp),qn8,qmo];congr 1;rw [u,qmF,qnk,show i+(i+1 - i)=i+1 by omega];rfl
theorem oR {E:HE} {x X:AV} {id:Nat} {cs:List AV} (c:qu h id=some (.cells cs)) (j:cs.length=4096)  (o:Q (.exit 0) ⟨[(0,x),(1,X),(5,.ref id 0),(9,I 4096),(10,B false)],h.set id (.cells (ET cs 4096))⟩) :
 AWP P E kM ⟨[(0,x),(1,X),(5,.ref id 0),(9,I 0)],h⟩ Q:=by
 have l:=qw c;unfold kM
 refine qL (fun i:Nat=>⟨[(0,x),(1,X),(5,.ref id 0),(9,I (i:Int))],h.set id (.cells (ET cs i))⟩) (fun i=>i<=4096) (fun i=>4096 - i) 0 (qmQ _) (by
  have e:h.set id (.cells (ET cs 0))=h:=by
   have z:ET cs 0=cs:=by simp [ET]
   rw [z];rw [qn] at c;obtain ⟨m,y⟩:=qml.1 c;rw [<-y,qn0]
  rw [e];rfl) ?_
 intro i q;refine QJ fun b K=>?_;have C:qu (h.set id (.cells (ET cs i))) id=some (.cells (ET cs i)):=by rw [qD l]
 have L:=kN j q;generalize v:h.set id (.cells (ET cs i))=G at C ⊢;simp -implicitDefEqProofs (disch:=omega)[qb];refine qA (fun c=>?_) (fun c=>?_)
 . have u:i<4096:=by simp at c;omega
   have g:((i:Int)+1)=((i+1:Nat):Int):=by omega
   simp -implicitDefEqProofs (disch:=omega)[qb,C,L];have s:id<G.length:=qw C;refine ⟨by omega,by omega,?_⟩;rw [if_pos s,kO j u,<-v,List.set_set,K];exact qI (i+1) (by omega) (by omega) (by simp only [g])
 have u:i=4096:=by simp at c;omega
 subst u;subst K;rw [<-v];exact o
theorem Qq {l:List Nat} {a:Nat}:Nw ((l,a)::C) L=(if l=L then a else 0)+Nw C L:=by
 unfold Nw;by_cases h:l=L
 . subst h;simp
 simp [h]
theorem UC {l:List Nat} (h:l∉C.map (·.1)):Nw C l=0:=by
 unfold Nw;have:C.filter (fun p=>p.1==l)=[]:=by rw [qop];intro p u q;exact h (gm.2 ⟨p,u,qoa q⟩)
 rw [this];rfl
theorem gb (a b:Int):IntKind.i64.wrap (IntKind.i64.wrap a+b)=IntKind.i64.wrap (a+b):=by
 have e:∀ n:Int,IntKind.i64.wrap n=if n % 18446744073709551616≥9223372036854775808 then n % 18446744073709551616 - 18446744073709551616 else n % 18446744073709551616:=fun n=>by
  have:IntKind.i64.wrap n=if (true&&decide (n % 18446744073709551616≥9223372036854775808))=true then n % 18446744073709551616 - 18446744073709551616 else n % 18446744073709551616:=rfl
  rw [this];simp only [Bool.true_and,qmE]
 simp only [e]
 repeat' split
 all_goals omega
theorem Id:IntKind.i64.wrap 0=0:=by decide
theorem qhU {k:KS} (h:eqK k (Yq l) (Yq l)=some true) (u:L.length=l.length):∃ t,eqK k (Yq l) (Yq L)=some t:=by
 obtain ⟨b,s⟩:=k
 have g:∀ (s:List Leaf) (l L:List Nat),qo s (l.map UP) (l.map UP)=some true->L.length=l.length->∃ t,qo s (l.map UP) (L.map UP)=some t:=by
  intro s
  induction s with
  | nil =>
    intro l L h u;cases l with
    | nil=>cases L with
      | nil=>exact ⟨_,rfl⟩
      | cons=>simp at u
    | cons=>simp [qo] at h
  | cons x s i =>
    intro l L h u;cases l with
    | nil=>simp [qo] at h
    | cons a l =>
      cases L with
      | nil=>simp at u
      | cons A L =>
        have v:x = .int:=by
         cases x with
         | int=>rfl
         | bool=>simp [qo,Qb,UP] at h
         | str=>simp [qo,Qb,UP] at h
        subst v;simp only [wI,qo,Qb,UP,qmA] at h ⊢;simp only [qoE] at h;cases e:((a:Int)==(A:Int)) with
        | false=>exact ⟨false,rfl⟩
        | true=>exact i l L h (by simpa using u)
 cases b with
 | true =>simp only [Yq,eqK,List.toList_toArray] at h ⊢;exact g s l L h u
 | false =>
   exfalso
   match s with
   | []=>simp [eqK] at h
   | [x]=>cases x <;> simp [eqK,Qb,Yq] at h
   | _::_::_=>simp [eqK] at h
theorem Shw.find {y:List Ent} {x0:Nat} (h:Shw y x0 C) {A:KS} (hk:eqK A (Yq l) (Yq l)=some true) (hw:∀ p∈C,p.1.length=l.length) :
 (∃ i e,zO A (Yq l) y 0=some (some i)/\y[i]?=some e/\e.1=Yq l/\e.2.2 = .v (.int .i64 (IntKind.i64.wrap (Nw C l:Nat))))\/(zO A (Yq l) y 0=some none/\Nw C l=0/\∀ e∈y,e.1≠Yq l):=by
 have K:∀ e∈y,∃ t,eqK A (Yq l) e.1=some t:=fun e X=>by obtain ⟨l',h1,h2,_⟩:=h.ent e X;obtain ⟨p,hp,rfl⟩:=gm.1 h1;rw [h2];exact qhU hk (hw p hp)
 by_cases hc:∃ e∈y,e.1=Yq l
 . obtain ⟨e,X,O⟩:=hc;obtain ⟨i,h1,h2⟩:=GZ (n:=0) K h.keys X O;obtain ⟨l',_,h3,h4⟩:=h.ent e X;have:l'=l:=XN (h3.symm.trans O);subst this;exact .inl ⟨i,e,by simpa using h2,h1,O,h4⟩
 have hn:∀ e∈y,e.1≠Yq l:=fun e X q=>hc ⟨e,X,q⟩;refine .inr ⟨KY K hn,UC fun hl=>?_,hn⟩;obtain ⟨e,X,O⟩:=h.all l hl;exact hn e X O
theorem Shw.set {O:List Ent} {clk:Nat} {C:List (List Nat×Nat)} (h:Shw O clk C) {l:List Nat} {a i:Nat} {e:Ent} (hi:O[i]?=some e) (A:e.1=Yq l):Shw (O.set i (e.1,e.2.1,.v (.int .i64 (IntKind.i64.wrap ((Nw C l+a:Nat):Int))))) clk ((l,a)::C):=by
 have K:=(qml.1 hi).1;have X:=(qml.1 hi).2;have x0:e∈O:=qn7 hi
 have k1:(O.set i (e.1,e.2.1,AV.v (.int .i64 (IntKind.i64.wrap ((Nw C l+a:Nat):Int))))).map (·.1)=O.map (·.1):=by
  rw [List.map_set];have:(O.map (·.1))[i]'(by simpa using K)=e.1:=by simp [X]
  rw [<-this,qn0]
 have k2:(O.set i (e.1,e.2.1,AV.v (.int .i64 (IntKind.i64.wrap ((Nw C l+a:Nat):Int))))).map (·.2.1)=O.map (·.2.1):=by
  rw [List.map_set];have:(O.map (·.2.1))[i]'(by simpa using K)=e.2.1:=by simp [X]
  rw [<-this,qn0]
 have lC:l∈C.map (·.1):=by obtain ⟨l',h1,h2,_⟩:=h.ent e x0;rw [<-XN (h2.symm.trans A)];exact h1
 refine ⟨by rw [k1];exact h.keys,by rw [k2];exact h.born,fun x hx=>?_,fun x hx=>?_,fun l' x3=>?_⟩
 . have:x.2.1∈O.map (·.2.1):=by rw [<- k2];exact gm.2 ⟨x,hx,rfl⟩
   obtain ⟨y,hy,e1⟩:=gm.1 this;rw [<-e1];exact h.clk y hy
 . obtain ⟨j,hj,ej⟩:=qn6.1 hx;rw [qnU] at ej;by_cases x1:i=j
   . rw [if_pos x1] at ej;subst ej;refine ⟨l,by simp,A,?_⟩;rw [Qq,if_pos rfl,qpC a]
   rw [if_neg x1] at ej;have x5:x∈O:=by rw [<-ej];exact qmr _
   obtain ⟨l',h1,h2,h3⟩:=h.ent x x5;refine ⟨l',by simp only [wI,sg];exact .inr h1,h2,?_⟩
   have x4:l≠l':=fun q=>by
    subst q;have x2:j<O.length:=by simpa using hj
    have e3:O[j]'x2=O[i]'K:=by
     have a1:O[j]∈O:=qmr _;have a2:(O[j]'x2).1=(O[i]'K).1:=by rw [ej,h2,X,A]
     exact iN h.keys a1 (qmr _) a2
    have a3:(O.map fun x=>x.1)[j]'(by simpa using x2)=(O.map fun x=>x.1)[i]'(by simpa using K):=by simp [e3]
    exact x1 ((List.getElem_inj h.keys).1 a3).symm
   rw [Qq,if_neg x4,qnt,h3]
 have:∃ e∈O,e.1=Yq l':=by
  simp only [wI,sg] at x3;rcases x3 with q | q
  . subst q;exact ⟨e,x0,A⟩
  exact h.all l' q
 obtain ⟨y,hy,ey⟩:=this;have:y.1∈(O.set i (e.1,e.2.1,AV.v (.int .i64 (IntKind.i64.wrap ((Nw C l+a:Nat):Int))))).map (·.1):=by rw [k1];exact gm.2 ⟨y,hy,rfl⟩
 obtain ⟨z,hz,ez⟩:=gm.1 this;exact ⟨z,hz,ez.trans ey⟩
theorem Shw.new {es':List Ent} {clk:Nat} {C:List (List Nat×Nat)} (h:Shw es' clk C) {l:List Nat} {a:Nat} (hs:Nw C l=0) (hn:∀ e∈es',e.1≠Yq l):Shw (es'++[(Yq l,clk,.v (.int .i64 (IntKind.i64.wrap ((a:Nat):Int))))]) (clk+1) ((l,a)::C):=by
 refine ⟨?_,?_,fun x O=>?_,fun x O=>?_,fun l' K=>?_⟩
 . rw [qmD,qns];refine ⟨h.keys,by simp,fun x O y A=>?_⟩;simp at A;subst A;obtain ⟨e,X,rfl⟩:=gm.1 O;exact hn e X
 . rw [qmD,qns];refine ⟨h.born,by simp,fun x O y A=>?_⟩;simp at A;subst A;obtain ⟨e,X,rfl⟩:=gm.1 O;exact qof (h.clk e X)
 . rcases xm.1 O with q | q
   . have:=h.clk x q;omega
   simp at q;subst q;exact qoB _
 . rcases xm.1 O with q | q
   . obtain ⟨l',h1,h2,h3⟩:=h.ent x q;refine ⟨l',by simp only [wI,sg];exact .inr h1,h2,?_⟩;have x0:l≠l':=fun e=>by subst e;exact hn x q h2
     rw [Qq,if_neg x0,qnt,h3]
   simp at q;subst q;refine ⟨l,by simp,rfl,?_⟩;rw [Qq,if_pos rfl,hs];rfl
 simp only [wI,sg] at K;rcases K with q | q
 . subst q;exact ⟨_,xm.2 (.inr (qnv.2 rfl)),rfl⟩
 obtain ⟨e,X,hk⟩:=h.all l' q;exact ⟨e,xm.2 (.inl X),hk⟩
structure AccP where
 t1:Nat
 tm:Nat
 t2:Nat
 w:Nat
 tp:Nat
 t3:Nat
 ks:KS
 t4:Nat
 tv:Nat
 t5:Nat
 t6:Nat
 t7:Nat
def AccP.ops (a:AccP):List AOp:=[.mv a.t1 (.t a.tm),.ld a.t2 true a.w (.t a.tp),.lku a.t3 a.ks (I 0) false (.t a.t1) (.t a.t2),.mv a.t4 (.t a.tv),.bin a.t5 .add (.t a.t3) (.t a.t4),.mpe a.t6 a.ks (I 0) (.t a.t1) (.t a.t2),.ext a.t7 (.t a.t6) 1,.est (.t a.t1) (.t a.t7) (.t a.t5)]
def AccP.ac (a:AccP) (K:List Nat):AC := .drw [⟨none,a.ops⟩] [] K
def AccP.ok (a:AccP) (K:List Nat):Bool:=decide ([a.tm,a.tp,a.tv,a.t1,a.t2,a.t3,a.t4,a.t5,a.t6,a.t7].Nodup)&&K.all fun t => ![a.t1,a.t2,a.t3,a.t4,a.t5,a.t6,a.t7].contains t
def vC (v:Value) (k:Nat->Prop):Prop:=match v with
 | .int .i64 (.ofNat n)=>k n
 | _=>False
theorem vD {v:Value} {k:Nat->Prop} (h:vC v k):∃ n,v=UP n/\k n:=by
 unfold vC at h;split at h
 . exact ⟨_,rfl,h⟩
 exact h.elim
def fe (V:List Value) (k:List Nat->Prop):Prop:=List.rec (motive:=fun _=>(List Nat->Prop)->Prop) (fun k=>k []) (fun v _ i k=>vC v fun n=>fnP n fun n=>i fun t=>k (n::t)) V k
theorem So:∀ {V:List Value} {k:List Nat->Prop},fe V k->∃ l,V=l.map UP/\k l
 | [],k,h=>⟨[],rfl,h⟩
 | v::V,k,h=>by obtain ⟨n,u,h⟩:=vD (show vC v (fun n=>fnP n fun n=>fe V fun t=>k (n::t)) from h);rw [qC] at h;obtain ⟨l,j,z⟩:=So h;exact ⟨n::l,by rw [u,j];rfl,z⟩
def uN (K:Value) (k:List Nat->Prop):Prop:=match K with
 | .agg as=>fe as.toList k
 | _=>False
theorem vc {K:Value} {k:List Nat->Prop} (h:uN K k):∃ l,K=Yq l/\k l:=by
 unfold uN at h;split at h
 . rename_i as;obtain ⟨l,u,v⟩:=So h;refine ⟨l,?_,v⟩;unfold Yq;rw [<-u]
 exact h.elim
def itP (h:List HObj) (q:Nat) (k:Nat->Nat->List Nat->Nat->Prop):Prop:=XS h q fun o=>match o with
 | .it w c seen s=>k w c seen s
 | _=>False
theorem bN {k:Nat->Nat->List Nat->Nat->Prop} (h:itP p q k):∃ w c seen s,hpf p q=some (.it w c seen s)/\k w c seen s:=by
 obtain ⟨o,v,u⟩:=zW h;split at u
 . exact ⟨_,_,_,_,v,u⟩
 exact u.elim
def qg4 (a:AccP) (k:List Nat):CT:=fun H K fr h=>NM fr a.tm fun u=>match u with
 | .mp q=>NM fr a.tp fun v=>(match v with
   | .ref id off=>VC h id fun C=>ldP true a.w off C fun x=>Iv a.ks x fun j=>uN j fun l=>NM fr a.tv fun y=>(match y with
     | .v (.int .i64 (.ofNat n))=>itP h q fun w c seen s=>Md l fun L=>okP (Nat.beq w L) (fnP n fun n=>foP (.it w (Nat.succ c) (n::(l++seen)) s) fun o=>jf h q o fun h=>YE k fr fun fr=>K .normal fr h)
     | _=>False)
   | _=>False)
 | _=>False
theorem HR.it {Z:ZZ} {X K:List HObj} (h:HR Z X K) {q w c s:Nat} {seen:List Nat} (hi:hpf X q=some (.it w c seen s)):∃ B es' y,Z q=some (.add B)/\hpf K q=some (.mp es' y)/\Shw es' y (Wf w c seen++B)/\∀ p∈Wf w c seen++B,p.1.length=w:=by
 obtain ⟨o',A,e⟩:=h.at hi;cases hz:Z q with
 | none=>rw [hz] at e;exact e.elim
 | some z =>
   rw [hz] at e;cases z with
   | ex z=>cases e.1
   | pin E c V E0=>obtain ⟨_,_,_,O,_⟩:=e;cases O
   | add B =>obtain ⟨es',y,rfl,O⟩:=e;exact ⟨B,es',y,rfl,A,O⟩
section
variable {κ:Option Nat} {P:Program} {S:YSp} {H:Hd}
theorem dV {a:AccP} {N:List Nat} (ha:a.ok N=true) {fr:FrL} (h:qg4 a N H K fr v):∃ D,Go2 κ P S (a.ac N) fr v .normal (N.map fun t=>(t,get fr t)) D/\K .normal (N.map fun t=>(t,get fr t)) D:=by
 unfold qg4 at h;rw [zV] at h;split at h
 . rename_i q x7;rw [zV] at h;split at h
   . rename_i id off x6;obtain ⟨cs,hc,h⟩:=zU h;obtain ⟨x,hx,h⟩:=VP h;obtain ⟨kv,M,o,h⟩:=WF h;obtain ⟨l,ek,h3⟩:=vc h;clear h;subst ek;have h:=h3;clear h3;rw [zV] at h;split at h
     . rename_i n x8;obtain ⟨w,c,seen,s,hi,h⟩:=bN h;rw [Jd] at h;obtain ⟨Q,h⟩:=qt h;have Q:=qe Q;rw [qC,bD] at h;have h:=qT h;rw [zH] at h;refine ⟨_,fun Y hY Z j hr w1 g1 hS=>YW hS (Ez Y) rfl ?_,h⟩;obtain ⟨B,y,k,hZ,hm,z,m⟩:=hr.it hi;have x3:=(hr.cel hc).1;have y1:=qF hm;simp only [AccP.ok,qd,qmE] at ha;obtain ⟨X,x4⟩:=ha;simp only [qm7,sg,qoX,or_false,not_or,List.nodup_nil,qoM] at X;obtain ⟨⟨d1,d2,d3,d4,d5,d6,d7,d8,d9⟩,⟨e1,e2,e3,e4,e5,e6,e7,e8⟩,⟨f1,f2,f3,f4,f5,f6,f7⟩,⟨g1,g2,g3,g4,g5,g6⟩,⟨i1,i2,i3,i4,i5⟩,⟨j1,j2,j3,j4⟩,⟨k1,k2,k3⟩,⟨l1,l2⟩,m1,_⟩:=X
       have L:∀ (u:FrL),(∀ p∈u,p.1∈[a.t1,a.t2,a.t3,a.t4,a.t5,a.t6,a.t7])->(N.map fun t=>(t,get (u++fr) t))=N.map fun t=>(t,get fr t):=fun u hu=>qmL fun t ht=>by
        have h1:=LL.1 x4 t ht;rw [Vi]
        have:(u.map (·.1)).contains t=false:=by
         cases e:(u.map (·.1)).contains t with
         | false=>rfl
         | true =>rw [qmX] at e;obtain ⟨p,v,rfl⟩:=gm.1 e;have:=hu p v;rw [<-qmX] at this;rw [this] at h1;cases h1
        rw [this];rfl
       obtain ⟨x9,y0⟩:=hx;have d:Wf w (c+1) (n::(l++seen))=(l,n)::Wf w c seen:=by show ((l++seen).take w,n)::Wf w c ((l++seen).drop w)=_;rw [qn1 Q.symm,qpF Q.symm]
       have put:∀ {E:List Ent} {C:Nat},Shw E C ((l,n)::(Wf w c seen++B))->HR Z (qf v [(q,.it w (Nat.succ c) (n::(l++seen)) s)]) (qz j q (.mp E C)):=fun {E C} h2=>by
        refine hr.set (qmu (qF hi)) ?_;rw [hZ];refine ⟨E,C,rfl,?_,?_⟩
        . show Shw E C (Wf w (c+1) _++B);rw [d];exact h2
        show ∀ p∈Wf w (c+1) _++B,_;rw [d];intro p v;rcases sg.1 v with rfl | v
        . exact Q.symm
        exact m p v
       have w0:IntKind.i64.wrap ((0:Nat):Int)=0:=Id
       have x2:∃ V g b,(∃ r,(AOp.lku a.t3 a.ks (I 0) false (.t a.t1) (.t a.t2)).sem P (evF (get ((a.t2,x)::(a.t1,.mp q)::fr))) (hpf j) j.length r []/\r = .v (.int .i64 V)) /\
        cn a.ks (Yq l) (.v (.int .i64 (IntKind.i64.wrap (V+(n:Int))))) q j y k b g/\HR Z (qf v [(q,.it w (Nat.succ c) (n::(l++seen)) s)]) g:=by
        have R:evF (get ((a.t2,x)::(a.t1,.mp q)::fr)) (.t a.t1) = .mp q:=by simp [evF,get,qmG g1]
        have T:evF (get ((a.t2,x)::(a.t1,.mp q)::fr)) (.t a.t2)=x:=by simp [evF,get]
        rcases z.find o (fun p v=>(m p v).trans Q) with ⟨i,e,A,q2,q3,q4⟩ | ⟨A,q2,q3⟩
        . refine ⟨IntKind.i64.wrap ((Nw (Wf w c seen++B) l:Nat):Int),qz j q (.mp (y.set i (e.1,e.2.1,.v (.int .i64 (IntKind.i64.wrap (IntKind.i64.wrap ((Nw (Wf w c seen++B) l:Nat):Int)+(n:Int)))))) k),true,⟨.v (.int .i64 (IntKind.i64.wrap ((Nw (Wf w c seen++B) l:Nat):Int))),?_,rfl⟩,.inl ⟨rfl,i,e,A,q2,rfl⟩,?_⟩
          . simp only [AOp.sem,R,T,hm];exact ⟨Yq l,M,o,trivial,.inl ⟨i,e,A,q2,q4.symm⟩⟩
          rw [gb,<-Int.natCast_add];exact put (z.set q2 q3)
        refine ⟨0,qz j q (.mp (y++[(Yq l,k,.v (.int .i64 (IntKind.i64.wrap (0+(n:Int)))))]) (k+1)),false,⟨I 0,?_,rfl⟩,.inr ⟨rfl,A,rfl⟩,?_⟩
        . simp only [AOp.sem,R,T,hm];exact ⟨Yq l,M,o,trivial,.inr ⟨A,rfl⟩⟩
        rw [Int.zero_add];exact put (z.new q2 q3)
       obtain ⟨V,g,b,⟨r0,x5,rfl⟩,J,f⟩:=x2;let vb:AV := .v (.int .i64 (IntKind.i64.wrap (V+(n:Int))));let f5:FrL:=(a.t5,vb)::(a.t4,.v (.int .i64 (.ofNat n)))::(a.t3,.v (.int .i64 V))::(a.t2,x)::(a.t1,.mp q)::fr;have hJ:(XO.ups a.t6 a.ks (I 0) (.t a.t1) (.t a.t2) a.t7 (.t a.t5)).off [a.t6,a.t7]=true:=by simp [XO.off,XD,Opd.tmp,m1,i4,i5,g5,g6,l1,l2]
       obtain ⟨xx,O,x0,x1,s1,s2,s3,_,_,_,_⟩:=EQ (P:=P) (fr:=f5) hJ (by simp [f5,evF,get,qmG g1,qmG g2,qmG g3,qmG g4]) (by simp [f5,evF,get,qmG i1,qmG i2,qmG i3];exact M) o hm z.born z.clk (show cn a.ks (Yq l) (evF (get f5) (.t a.t5)) q j y k b g from by simp only [f5,evF,get,qmA];exact J);refine ⟨.mp q,[],⟨?_,rfl⟩,x,[],?_,.v (.int .i64 V),[],x5,.v (.int .i64 (.ofNat n)),[],⟨?_,rfl⟩,vb,[],?_,.tup [xx,I O],x0,s1,I O,[],?_,.any,x1,s2,?_⟩
       . exact x7.symm
       . have:evF (get ((a.t1,AV.mp q)::fr)) (.t a.tp) = .ref id off:=by simp [evF,get,qmG e2];exact x6
         show (AOp.ld a.t2 true a.w (.t a.tp)).sem P (evF (get ((a.t1,AV.mp q)::fr))) (hpf j) j.length x [];simp only [AOp.sem,ZM,this,x3];exact ⟨trivial,x9,y0⟩
       . show _=get ((a.t3,AV.v (.int .i64 V))::(a.t2,x)::(a.t1,AV.mp q)::fr) a.tv;simp [get,qmG f1,qmG f2,qmG f3,x8]
       . show (AOp.bin a.t5 .add (.t a.t3) (.t a.t4)).sem P (evF (get ((a.t4,AV.v (.int .i64 (.ofNat n)))::(a.t3,AV.v (.int .i64 V))::(a.t2,x)::(a.t1,AV.mp q)::fr))) (hpf j) j.length vb [];simp only [AOp.sem,evF,get,qmA,if_neg (qmG j1)];exact ⟨_,rfl,rfl,trivial⟩
       . show (AOp.ext a.t7 (.t a.t6) 1).sem P (evF (get ((a.t6,AV.tup [xx,I O])::f5))) _ _ (I O) [];simp only [AOp.sem,evF,get,qmA];exact ⟨I O,rfl,rfl,trivial⟩
       refine ⟨rfl,rfl,?_,?_⟩
       . exact L [(a.t7,I O),(a.t6,.tup [xx,I O]),(a.t5,vb),(a.t4,.v (.int .i64 (.ofNat n))),(a.t3,.v (.int .i64 V)),(a.t2,x),(a.t1,.mp q)] (fun p v=>by simp only [sg,qoX,or_false] at v ⊢;rcases v with rfl | rfl | rfl | rfl | rfl | rfl | rfl <;> simp)
       show HR Z _ (qf (qf j x0) x1);rw [s3];exact f
     exact h.elim
   exact h.elim
 exact h.elim
end
def eqN (a b:List Nat):Bool:=eqL Nat.beq a b
theorem ON:∀ {a b:List Nat},eqN a b=true↔a=b
 | [],[]=>by simp [eqN,eqL]
 | x::a,y::b=>by
   have:=ON (a:=a) (b:=b);unfold eqN at this ⊢;simp only [eqL,qd,this,qoj];constructor
   . rintro ⟨u,h⟩;exact ⟨qe u,h⟩
   rintro ⟨rfl,h⟩;exact ⟨qoe x,h⟩
 | [],_::_=>by simp [eqN,eqL]
 | _::_,[]=>by simp [eqN,eqL]
def cQ (l:List Nat) (a:Nat):List (List Nat×Nat)->List (List Nat×Nat)
 | []=>[(l,a)]
 | p::t=>bif eqN l p.1 then (p.1,p.2+a)::t else p::cQ l a t
def mrg:List (List Nat×Nat)->List (List Nat×Nat)
 | []=>[]
 | p::t=>cQ p.1 p.2 (mrg t)
theorem Hx {l:List Nat} {a:Nat}:∀ M:List (List Nat×Nat),(∃ u A v,M=u++(l,A)::v/\cQ l a M=u++(l,A+a)::v)\/(l∉M.map (·.1)/\cQ l a M=M++[(l,a)])
 | [] => .inr ⟨by simp,rfl⟩
 | (L,A)::M=>by
   unfold cQ;cases e:eqN l L with
   | true =>have:=ON.1 e;subst this;exact .inl ⟨[],A,M,rfl,by simp [e]⟩
   | false =>
     have n:l≠L:=fun h=>by rw [ON.2 h] at e;cases e
     rcases Hx (l:=l) (a:=a) M with ⟨u,b,v,rfl,j⟩ | ⟨z,j⟩
     . exact .inl ⟨(L,A)::u,b,v,rfl,by simp [e,j]⟩
     refine .inr ⟨by simp [n];simpa using z,by simp [e,j]⟩
theorem CL {v:List (List Nat×Nat)} (h:C.Perm v) (l:List Nat):Nw C l=Nw v l:=by
 induction h with
 | nil=>rfl
 | cons p h j=>obtain ⟨a,b⟩:=p;rw [Qq,Qq,j]
 | swap p P C=>obtain ⟨a,b⟩:=p;obtain ⟨A,z⟩:=P;simp only [Qq];omega
 | trans y o i u=>exact i.trans u
structure Mg (M C:List (List Nat×Nat)):Prop where
 nd:(M.map (·.1)).Nodup
 val:∀ p∈M,p.2=Nw C p.1
 mem:∀ l,l∈M.map (·.1)↔l∈C.map (·.1)
theorem Mg.ins (h:Mg M C) (l:List Nat) (a:Nat):Mg (cQ l a M) ((l,a)::C):=by
 rcases Hx (l:=l) (a:=a) M with ⟨M1,b,M2,rfl,h2⟩ | ⟨h1,h2⟩
 . rw [h2];have hk:((M1++(l,b+a)::M2).map (·.1))=(M1++(l,b)::M2).map (·.1):=by simp
   have A:=h.nd;rw [qmD,wI] at A;have X:=(qoY).nodup_iff.1 A;rw [qm7] at X;have hb:=h.val (l,b) (by simp);refine ⟨by rw [hk];exact h.nd,fun p hp=>?_,fun x=>?_⟩
   . have O:p∈M1++M2->p.2=Nw ((l,a)::C) p.1:=fun hp=>by have K:l≠p.1:=fun e=>X.1 (by rw [e,<-qmD];exact gm.2 ⟨p,hp,rfl⟩);rw [Qq,if_neg K,qnt];exact h.val p (by rcases xm.1 hp with q | q <;> simp [q])
     rcases xm.1 hp with q | q
     . exact O (xm.2 (.inl q))
     rcases sg.1 q with rfl | q
     . rw [Qq,if_pos rfl];have:b=Nw C l:=hb;show b+a=a+Nw C l;omega
     exact O (xm.2 (.inr q))
   rw [hk,h.mem x];have hl:l∈C.map (·.1):=(h.mem l).1 (by simp);simp only [wI,sg];constructor
   . exact .inr
   rintro (rfl | q)
   . exact hl
   exact q
 rw [h2];have hl:l∉C.map (·.1):=fun q=>h1 ((h.mem l).2 q);refine ⟨?_,fun p hp=>?_,fun x=>?_⟩
 . rw [qmD,qns];exact ⟨h.nd,by simp,fun x hx y hy=>by simp at hy;subst hy;exact fun e=>h1 (by rw [<-e];exact hx)⟩
 . rcases xm.1 hp with q | q
   . have K:l≠p.1:=fun e=>h1 (by rw [e];exact gm.2 ⟨p,q,rfl⟩);rw [Qq,if_neg K,qnt];exact h.val p q
   simp at q;subst q;rw [Qq,if_pos rfl,UC hl];rfl
 simp only [qmD,xm,wI,qov,qnv,sg];have:=h.mem x;simp only [this,qoX,or_false];exact Or.comm
theorem bY:∀ C:List (List Nat×Nat),Mg (mrg C) C
 | []=>⟨by simp [mrg],fun p h=>by simp [mrg] at h,fun l=>by simp [mrg]⟩
 | (l,a)::C=>(bY C).ins l a
theorem LU (h:n<4611686018427387904):IntKind.i64.wrap (n:Int)=n:=by
 have e:IntKind.i64.wrap (n:Int)=if (true&&decide ((n:Int) % 18446744073709551616≥9223372036854775808))=true then (n:Int) % 18446744073709551616 - 18446744073709551616 else (n:Int) % 18446744073709551616:=rfl
 rw [e];simp only [Bool.true_and,qmE];split <;> omega
theorem SB {α:Type}:∀ {l L:List α},l.Nodup->L.Nodup->(∀ a,a∈l↔a∈L)->l.Perm L
 | [],L,_,_,h=>by
   have:L=[]:=List.eq_nil_iff_forall_not_mem.2 fun a j=>by have:=(h a).2 j;cases this
   rw [this]
 | x::l,L,z,y,h=>by
   obtain ⟨A,B,rfl⟩:=qnX ((h x).1 (by simp));rw [qm7] at z;have v:(x::(A++B)).Nodup:=(qoY).nodup_iff.1 y;rw [qm7] at v
   have:l.Perm (A++B):=SB z.2 v.2 fun a=>by
    have:=h a;simp only [sg,xm] at this ⊢;constructor
    . intro j;rcases this.1 (.inr j) with u | u | u
      . exact .inl u
      . subst u;exact absurd j z.1
      exact .inr u
    intro j;rcases this.2 (by rcases j with u | u <;> simp [u]) with u | u
    . subst u;exact absurd (by rcases j with u | u <;> simp [u]) v.1
    exact u
   exact (this.cons x).trans List.perm_middle.symm
def cK (p:List Nat×Nat):Ent:=(Yq p.1,0,.v (.int .i64 (.ofNat p.2)))
theorem Shw.sh {K:List Ent} {X:Nat} {C CT:List (List Nat×Nat)} (h:Shw K X C) (hp:C.Perm CT) (hm:Mg M CT) (hb:∀ p∈M,p.2<4611686018427387904):Sh (M.map cK) K X:=by
 have x0:((M.map cK).map (·.1)).Nodup:=by have h1:=hm.nd;rw [List.Nodup,qnz] at h1;rw [List.Nodup,qnz,qnz];exact h1.imp fun h e=>h (XN e)
 have kv:∀ {l:List Ent},(l.map (·.1)).Nodup->(l.map kvE).Nodup:=fun {l} h=>by rw [List.Nodup,qnz] at h ⊢;exact h.imp fun {a b} h (e:kvE a=kvE b)=>h (qnH (fun p:Value×AV=>p.1) e)
 refine ⟨SB (kv x0) (kv h.keys) fun x=>?_,h.keys,h.born,h.clk⟩;have val:∀ p∈M,AV.v (.int .i64 (IntKind.i64.wrap (Nw C p.1:Nat))) = .v (.int .i64 (.ofNat p.2)):=fun p A=>by rw [CL hp,<-hm.val p A,LU (hb p A)];rfl
 constructor
 . intro hx;obtain ⟨e,he,rfl⟩:=gm.1 hx;obtain ⟨p,y,rfl⟩:=gm.1 he;have hl:p.1∈C.map (·.1):=by have:=(hm.mem p.1).1 (gm.2 ⟨p,y,rfl⟩);exact ((hp.map (·.1)).mem_iff).2 this
   obtain ⟨O,q,hk⟩:=h.all _ hl;obtain ⟨l',_,h2,h3⟩:=h.ent O q;have:l'=p.1:=XN (h2.symm.trans hk);subst this;refine gm.2 ⟨O,q,?_⟩;show (O.1,O.2.2)=(Yq p.1,_);rw [hk,h3,val p y];rfl
 intro hx;obtain ⟨O,q,rfl⟩:=gm.1 hx;obtain ⟨l,h1,h2,h3⟩:=h.ent O q;have hl:l∈M.map (·.1):=(hm.mem l).2 (((hp.map (·.1)).mem_iff).1 h1);obtain ⟨p,y,rfl⟩:=gm.1 hl;refine gm.2 ⟨cK p,gm.2 ⟨p,y,rfl⟩,?_⟩;show (Yq p.1,_)=(O.1,O.2.2);rw [h2,h3,val p y];rfl
def Zc (Z:ZZ) (q:Nat) (C:List (List Nat×Nat)):ZZ:=fun i=>if i=q then some (.add C) else Z i
theorem qks {C E c V u s} (h:q≠m) (v:q≠n):Zp (Zc Z q C) m n E c V u s q=some (.add C):=by simp [Zp,Zc,h,v]
theorem qlc {C v E c V u s} (h:i≠q):Zp (Zc Z q C) m n E c V u s i=Zp (Zc Z q v) m n E c V u s i:=by simp [Zp,Zc,h]
theorem Ms {m n:Nat} {C E c0 V z seen} {r:List HObj} (h:HR (Zp (Zc Z q C) m n E c0 V z seen) p r) (b:q≠m) (f:q≠n) {w c s:Nat} (g:hpf p q=some (.it w c l s)):HR (Zp (Zc Z q (Wf w c l++C)) m n E c0 V z seen) (qz p q (.it w 0 [] 0)) r:=by
 have t:=qF g;simp only [qz,if_pos t];refine ⟨by simp [h.len],fun i u=>?_,fun i o O v y=>?_⟩
 . have j:i≠q:=by simp at u;omega
   rw [qlc j];exact h.new i (by simpa using u)
 by_cases e:i=q
 . subst e;rw [qm9 t] at v;cases v;have:=h.obj i _ _ g y;rw [qks b f] at this;obtain ⟨es',k,rfl,d,a⟩:=this;rw [qks b f];exact ⟨es',k,rfl,d,a⟩
 rw [qmY (qmG e)] at v;rw [qlc e];exact h.obj i o O v y
section
variable {κ:Option Nat} {P:Program} {S:YSp} {Y:YF} {w1:World} {g1:G} {r:RMd}
def cH (w:Nat) (D:Ent->Nat×List Nat) (e:Ent):List (List Nat×Nat):=Wf w (D e).1 (D e).2
def qgK (κ:Option Nat) (P:Program) (S:YSp) (r:RMd) (m n q w:Nat) (f:FrL) (H:List HObj) (e:Ent) (d:Nat×List Nat):Prop :=
 ∃ h,(∃ u,hpf H m=some (.mp u 1)/\r.Bd κ P S e f (qz H m (.mp u e.2.1)) .normal f h)/\∃ E k s,hpf h m=some (.mp E k)/\hpf (qz h m (.mp E 1)) q=some (.it w d.1 d.2 s)/\HT (n+1) f (qz (qz h m (.mp E 1)) q (.it w 0 [] 0)) H
theorem vm (hS:YS P ⟨Y,RG P⟩ w1 g1) (hY:Xd Y S) (hr:r.ok=true) {m n w c0:Nat} {j:List Ent} (X:m≠n) (w0:m<n) (v5:q≠m) (v6:q≠n) (w2:q<n) (hZ:∀ i,n+1<=i->Z i=none)
 (Eb:(E.map (·.2.1)).Nodup) (Ek:(E.map (·.1)).Nodup) (Ec:∀ e∈E,e.2.1<c0) (u0:(j.map (·.2.1)).Nodup) (E2:∀ e∈j,2<=e.2.1)
 {fr:FrL} {H:List HObj} {D:Ent->Nat×List Nat} (z2:get fr r.it = .ref n 0) (x2:∀ e∈j,qgK κ P S r m n q w fr H e (D e))
 (hQ:∀ g C V seen,C.Perm (j.flatMap (cH w D))->HR (Zp (Zc Z q C) m n E c0 V j seen) H g->Q (.exit r.eb) ⟨r.enFr fr,g⟩)
 {g:List HObj} (f:g.length=n+1) (hE:(j.map kvE).Perm (E.map kvE)) (T:HR (Zp (Zc Z q []) m n E c0 [] j []) H g):ZC κ P w1 g1 (.loop r.rd) ⟨fr,g⟩ Q:=by
 have x8:=T
 refine NX (α:=St×Nat) (·.1) (fun b=>b.1.fr=fr/\∃ R A U W C,R.length=b.2/\E.Perm (U++W)/\(R.map kvE).Perm (U.map kvE)/\j.Perm (R++A)/\C.Perm (A.flatMap (cH w D))/\HR (Zp (Zc Z q C) m n E c0 (W.map (·.1)) j (W.map (·.2.1))) H b.1.hp) (·.2) (⟨fr,g⟩,j.length)
  ⟨rfl,j,[],E,[],[],rfl,by simp,hE,by simp,.nil,T⟩ rfl fun z8 b hb=>?_
 have zX:∀ i z,Z i=some (.ex z)->i≠m->i≠n->i≠q->ltO (n+1) z=true:=fun i z K h1 h2 h4=>by
  have hi:i<n+1:=qo0 fun h=>by rw [hZ i h] at K;cases K
  have u9:i<H.length:=by rw [<-x8.len,f];exact hi
  have z1:i<g.length:=by rw [f];exact hi
  have:=x8.obj i _ _ (Wd u9) (Wd z1);simp only [Zp,Zc,if_neg h1,if_neg h2,if_neg h4,K] at this;obtain ⟨_,q2,q3⟩:=this;cases z with
  | it m1 c s t =>have:=z8 i m1 c s t (by show g[i]?=_;rw [Wd z1,q2]);rw [f] at this;exact qnE this
  | _=>cases q3
 rw [f];clear f T x8 z8;obtain ⟨⟨M,g⟩,N⟩:=b;obtain ⟨y5,R,A,U,W,C,hN,hU,J,x7,hC,T⟩:=hb;simp only at y5 hN T;subst y5;obtain ⟨v1,z5⟩:=Ys T;obtain ⟨om,x9⟩:∃ o,H[m]?=some o:=⟨_,Wd v1⟩;obtain ⟨w6,x5,hx⟩:=T.at x9;simp only [Zp,qmA] at hx;obtain ⟨es,k,es',rfl,w5,rfl,z7,x6⟩:=hx;have kU:∀ u∈U,u.1∉W.map (·.1)/\u.2.1∉W.map (·.2.1):=fun u hu=>by have n1:=(hU.map (·.1)).nodup_iff.1 Ek;have n2:=(hU.map (·.2.1)).nodup_iff.1 Eb;rw [qmD,qns] at n1 n2;exact ⟨fun q=>n1.2.2 _ (gm.2 ⟨u,hu,rfl⟩) _ q rfl,fun q=>n2.2.2 _ (gm.2 ⟨u,hu,rfl⟩) _ q rfl⟩
 have z9:R.length=U.length:=by simpa using J.length_eq
 refine sI hS hr (m:=m) (n:=n) (c0:=c0) (seen:=W.map (·.2.1)) (es':=es') z2 x5 (itZ T X z5) z7.clk (fun y6=>?_) (fun v y7 hs=>?_)
 . have u4:U=[]:=by
    cases U with
    | nil=>rfl
    | cons u U =>have v7:u∈E:=hU.mem_iff.2 (by simp);have:=y6 u (x6.stay u v7 (kU u (by simp)).1);exact absurd this (kU u (by simp)).2
   have y0:R=[]:=qmk (by rw [z9,u4];rfl);subst y0;exact hQ _ C _ _ (hC.trans (List.Perm.flatMap_right _ x7.symm)) T
 have y8:v∈E:=x6.sub.subset y7
 have x3:v∈U:=by
  rcases xm.1 (hU.mem_iff.1 y8) with q | q
  . exact q
  exact absurd (gm.2 ⟨v,q,rfl⟩) hs
 obtain ⟨e,y9,x0⟩:=gm.1 (J.mem_iff.2 (gm.2 ⟨v,x3,rfl⟩));obtain ⟨r1,r2,l⟩:=qnX y9;have O:e∈j:=x7.mem_iff.2 (xm.2 (.inl y9));obtain ⟨v4,⟨w3,x4,hB⟩,u3,k1,s,k2,kq,k3⟩:=x2 e O;rw [show hpf H m=some (.mp es k) from x9] at x4;cases x4;have w4:=E2 e O;have z0:HR (Zp (Zc Z q C) m n E c0 ((W++[v]).map (·.1)) j ((W++[v]).map (·.2.1))) (qz H m (.mp es e.2.1)) (qz g n (.it m c0 ((W++[v]).map (·.2.1)) c0)):=by refine XV T X x9 (by omega) fun es' _ L=>⟨L.sub,fun q g hv=>L.stay q g (fun v8=>hv (by rw [qmD];exact xm.2 (.inl v8))),L.old,fun _ q g hb=>?_⟩;have:=Oe u0 (L.old q g) O hb;subst this;have ek:q.1=v.1:=qnH (fun p:Value×AV=>p.1) x0;rw [ek];simp
 have u5:r.bdFr e M=r.bdFr v M:=by simp only [RMd.bdFr,CR x0]
 simp only [RMd.ok,qd,qmX,qmZ] at hr;obtain ⟨⟨⟨_,hi⟩,ha⟩,hb⟩:=hr;have nb:∀ {x y:Nat},Nat.beq x y=false->x≠y:=fun h e=>by rw [e,qoe] at h;cases h
 have z3:get (r.bdFr e M) r.it = .ref n 0:=by rw [RMd.bdFr,jQ hi];simp [get,nb ha,nb hb,z2]
 have z6:n<g.length:=by rw [T.len];exact z5
 have hW:(W++[v]).map (·.2.1)=W.map (·.2.1)++[v.2.1]:=by simp
 have v2:hpf (qz g n (.it m c0 (W.map (·.2.1)++[v.2.1]) c0)) n=some (.it m c0 (W.map (·.2.1)++[v.2.1]) c0):=VN z6;have v0:hpf (qz g n (.it m c0 (W.map (·.2.1)++[v.2.1]) c0)) m=some (.mp es' c0):=by simp only [hpf,qz,if_pos z6];rw [qmY (qmG X)];exact x5
 rw [hW] at z0;rw [<-u5];refine zI (fun e1 s1 ⟨q1,q2,q3⟩=>?_) (ep hS hY hB z0 x0.symm z3 v2 v0 y7 z7.born);subst q1;obtain ⟨u1,u2,hu⟩:=qnX x3;have y1:((r1++r2).map kvE).Perm ((u1++u2).map kvE):=by refine XU (a:=e) (a':=v) ?_ x0;rw [<-l,<-hu];exact J
 have y2:E.Perm ((u1++u2)++(W++[v])):=by
  refine hU.trans ?_;rw [hu];have p1:(u1++v::u2++W).Perm (v::(u1++u2)++W):=List.perm_middle.append_right W;refine p1.trans ?_;have p2:(v::(u1++u2)++W).Perm ((u1++u2++W)++[v]):=by rw [qmP];exact (qo6 (l₁:=[v]) (l₂:=u1++u2++W))
  rwa [qmo (u1++u2) W [v]] at p2
 have y3:j.Perm ((r1++r2)++(e::A)):=by refine x7.trans ?_;rw [l];have p1:(r1++e::r2++A).Perm (e::(r1++r2)++A):=List.perm_middle.append_right A;refine p1.trans ?_;exact (qoY (l₁:=r1++r2) (a:=e) (l₂:=A)).symm
 have u6:HR (Zp (Zc Z q C) m n E c0 ((W++[v]).map (·.1)) j ((W++[v]).map (·.2.1))) (qz v4 m (.mp u3 1)) s1.hp:=by rw [hW];have v3:=itZ q3 X (Ys q3).2;have:=XV (seen':=W.map (·.2.1)++[v.2.1]) (V':=(W++[v]).map (·.1)) q3 X k2 (k':=1) (by decide) fun es' _ L=>⟨L.sub,L.stay,L.old,fun h=>absurd rfl h⟩;rwa [HO v3] at this
 have u7:=Ms u6 v5 v6 kq;have e0:s1=⟨M,s1.hp⟩:=by rw [<-q2]
 have y4:∀ i,n+1<=i->Zp (Zc Z q (Wf w (D e).1 (D e).2++C)) m n E c0 ((W++[v]).map (·.1)) j ((W++[v]).map (·.2.1)) i=none:=fun i hi=>by
  have h1:i≠m:=by omega
  have h2:i≠n:=by omega
  have h4:i≠q:=by omega
  simp only [Zp,Zc,if_neg h1,if_neg h2,if_neg h4];exact hZ i hi
 have v9:∀ i z,Zp (Zc Z q (Wf w (D e).1 (D e).2++C)) m n E c0 ((W++[v]).map (·.1)) j ((W++[v]).map (·.2.1)) i=some (.ex z)->ltO (n+1) z=true:=fun i z K=>by
  by_cases h1:i=m
  . simp [Zp,h1] at K
  by_cases h2:i=n
  . simp only [Zp,if_neg h1,if_pos h2,xl,PK.ex.injEq] at K;subst K;exact qnE (by omega:m+1<=n+1)
  by_cases h4:i=q
  . simp only [Zp,Zc,if_neg h1,if_neg h2,if_pos h4] at K;cases K
  simp only [Zp,Zc,if_neg h1,if_neg h2,if_neg h4] at K;exact zX i z K h1 h2 h4
 have step:∃ x1,LeT (n+1) ⟨M,s1.hp⟩ ⟨M,x1⟩/\HR (Zp (Zc Z q (Wf w (D e).1 (D e).2++C)) m n E c0 ((W++[v]).map (·.1)) j ((W++[v]).map (·.2.1))) H x1:=by
  obtain ⟨b,d,t1,t2,t3⟩:=k3;have hb:=t1 _ _ u7;rcases t2 with rfl | ⟨nn,t4,t5,rfl,t6,t7⟩
  . exact ⟨s1.hp,.of (St.le.rfl' _),t3 _ _ hb⟩
  obtain ⟨a1,a2⟩:=hb.trunc t4 t5 y4 v9 t7 t6;exact ⟨_,a2,t3 _ _ a1⟩
 obtain ⟨x1,z4,u8⟩:=step;rw [e0];refine ⟨(⟨M,x1⟩,(r1++r2).length),⟨rfl,r1++r2,e::A,u1++u2,W++[v],Wf w (D e).1 (D e).2++C,rfl,y2,y1,y3,?_,u8⟩,?_,z4⟩
 . rw [qmH];exact hC.append_left _
 simp only;rw [<-hN,l];simp
theorem Mt {w:Nat} {E C V d s} {f:List HObj} (h:HR (Zp Z m n E C V d s) z f) (k:q≠m) (x:q≠n) (a:hpf z q=some (.mp [] 0)):Z q=none/\HR (Zp (Zc Z q []) m n E C V d s) (qz z q (.it w 0 [] 0)) f:=by
 have t:=qF a;obtain ⟨u,c,N,Q,v⟩:=h.mp a
 have T:Z q=none:=by
  rcases v with ⟨v,_⟩ | ⟨_,_,_,_,v,_⟩
  . simpa [Zp,k,x] using v
  exact absurd rfl v
 refine ⟨T,?_⟩;simp only [qz,if_pos t];refine ⟨by simp [h.len],fun i j=>?_,fun i o O g1 g=>?_⟩
 . have b:i≠q:=by simp at j;omega
   have:=h.new i (by simpa using j);simp only [Zp,Zc,if_neg b] at this ⊢;exact this
 by_cases e:i=q
 . subst e;rw [qm9 t] at g1;cases g1;have L:O = .mp u c:=by rw [show f[i]?=some (.mp u c) from N] at g;cases g;rfl
   subst L;rw [qks k x];have M:u=[]:=qmk Q.len;subst M;exact ⟨[],c,rfl,⟨by simp,by simp,fun e y=>(by cases y),fun e y=>(by cases y),fun l R=>by simp [Wf] at R⟩,fun p z=>by simp [Wf] at z⟩
 rw [qmY (qmG e)] at g1;have:=h.obj i o O g1 g;simp only [Zp,Zc,if_neg e] at this ⊢;exact this
theorem pf {w:Nat} {C T:List (List Nat×Nat)} (h:HR (Zc Z q C) v z) (f:Z q=none) (j:hpf v q=some (.it w 0 [] 0)) (s:C.Perm T) (m:Mg M T) (b:∀ p∈M,p.2<4611686018427387904):HR Z (qz v q (.mp (M.map cK) 0)) z:=by
 have l:=qF j;simp only [qz,if_pos l];refine ⟨by simp [h.len],fun i u=>?_,fun i o O g1 g=>?_⟩
 . have n:i≠q:=by simp at u;omega
   have:=h.new i (by simpa using u);simpa [Zc,n] using this
 by_cases e:i=q
 . subst e;rw [qm9 l] at g1;cases g1;have:=h.obj i _ _ j g;simp only [Zc,qmA] at this;obtain ⟨E,c,rfl,y,_⟩:=this;rw [f];exact ⟨rfl,E,c,rfl,Shw.sh (C:=C) (by simpa [Wf] using y) s m b⟩
 rw [qmY (qmG e)] at g1;have:=h.obj i o O g1 g;simpa only [Zc,if_neg e] using this
theorem Cw {l:List HObj} {j:Nat} {o:HObj} (u:j<l.length) (h:j≠i):hpf (qz l j o) i=hpf l i:=by simp only [hpf,qz,if_pos u];exact qmY h
theorem sN (hY:Xd Y S) (hr:r.ok=true) {os:List AOp} {x:Opd} {A z:FrL} {hp:List HObj} (h1:Stp P S [] os A hp z h) (hx:evF (get z) x = .mp m) (hm:hpf h m=some (.mp E 0)) {w:Nat} (c:f=ks.map fun t=>(t,get ((r.it,.ref h.length 0)::z) t)) (J:j=qz (h++[.gone]) m (.mp (Yt 2 E) 1))
 (u:q≠m) (n:q≠h.length) (v:hpf j q=some (.mp [] 0)) (O:get f r.it = .ref h.length 0) {D:Ent->Nat×List Nat} (o:∀ e∈Yt 2 E,qgK κ P S r m h.length q w f (qz j q (.it w 0 [] 0)) e (D e)) {M:List (List Nat×Nat)} (hM:Mg M ((Yt 2 E).flatMap (cH w D))) (hb:∀ p∈M,p.2<4611686018427387904)
 {Q:List HObj} (hh:HR Z hp Q):AGk κ P Y (r.rm os x ks) ⟨A,Q⟩ fun e s=>e = .normal/\s.fr=r.enFr f/\HR Z (qz (qz (qz j q (.it w 0 [] 0)) m (.mp (Yt 2 E) 0)) q (.mp (M.map cK) 0)) s.hp:=fun w1 g1 hS=>by
 refine wu hS hY h1 hx hm hh fun x0 c0 x2 k3 T hZ g k l y=>?_;rw [<-c];rw [<-J] at y;have b:m≠h.length:=qof g;have x1:j.length=h.length+1:=by rw [<-y.len,l]
 have d:q<h.length:=by have:=qF v;omega
 obtain ⟨X,a⟩:=Mt (w:=w) y u n v;refine vm hS hY hr b g u n d hZ k.born k.keys k.clk (Yu _ _) (fun e he=>Ee e he) O o (fun Q C V seen hC i=>?_) l (by rw [Ef];exact k.perm) a;have K:hpf (qz j q (.it w 0 [] 0)) m=some (.mp (Yt 2 E) 1):=by rw [Cw (qF v) u,J];exact VN (by simp;omega)
 have L:=qc6 i (by simp only [Zc,if_neg (qmG u)];exact k3) (by simp only [Zc,if_neg (qmG n)];exact T) b K;have R:hpf (qz (qz j q (.it w 0 [] 0)) m (.mp (Yt 2 E) 0)) q=some (.it w 0 [] 0):=by rw [Cw (qF K) (qmG u)];exact VN (qF v)
 have N:=pf L X R hC hM hb;simp only [Exit.blk,qmA];exact ⟨trivial,trivial,N⟩
end
def qiX (b:BC) (m n q w:Nat) (f:FrL) (H:List HObj) (l:List Ent) (k:List (List Nat×Nat)->Prop):Prop:=List.rec (motive:=fun _=>(List (List Nat×Nat)->Prop)->Prop) (fun k=>k [])
 (fun e _ i k=>SC H m fun s c=>okP (Nat.beq c 1) (jf H m (.mp s e.2.1) fun u=>b e (fun x r h=>match x with
  | .normal=>okP (qfW r f) (SC h m fun E _=>jf h m (.mp E 1) fun p=>itP p q fun y c seen _=>okP (Nat.beq y w) (jf p q (.it w 0 [] 0) fun v=>gcP n (KM f) v fun j=>qcS (Nat.succ n) f j fun z=>okP (Jz z H) (i fun CT=>k (Wf w c seen++CT))))
  | _=>False) f u)) l k
section
variable {κ:Option Nat} {P:Program} {S:YSp} {r:RMd} {bc:BC} {m n q w:Nat} {fr:FrL} {H:List HObj}
theorem BZ (f:Im κ P S r bc):∀ {l:List Ent} {k:List (List Nat×Nat)->Prop},qiX bc m n q w fr H l k->∃ D:List (Nat×List Nat),D.length=l.length/\(∀ (i:Nat) (e:Ent) (d:Nat×List Nat),l[i]?=some e->D[i]?=some d->qgK κ P S r m n q w fr H e d)/\k (D.flatMap fun d=>Wf w d.1 d.2)
 | [],k,h=>⟨[],rfl,fun i e d h=>by simp at h,h⟩
 | e::l,k,h=>by
   obtain ⟨a,c,Q,h⟩:=Jg (show SC H m _ from h);obtain ⟨v,h⟩:=qt h;have v:=qe v;subst v;obtain ⟨x,L,p,g,h⟩:=f _ _ _ _ (qT h);cases x with
   | normal =>
     obtain ⟨R,h⟩:=qt h;rw [Gy R] at g;obtain ⟨E,K,T,h⟩:=Jg h;obtain ⟨Z,c,seen,s,b,h⟩:=bN (qT h);obtain ⟨V,h⟩:=qt h;rw [qe V] at b;obtain ⟨y,h,X⟩:=Xm (qT h);obtain ⟨o,h,Y⟩:=PY h;obtain ⟨u,h⟩:=qt h;obtain ⟨D,M,N,O⟩:=BZ f (show qiX bc m n q w fr H l _ from h);refine ⟨(c,seen)::D,by simp [M],fun i t d z j=>?_,O⟩;cases i with
     | zero =>simp at z j;subst z j;exact ⟨p,⟨a,Q,g⟩,E,K,s,T,b,⟨y,o,X,Y,XY u⟩⟩
     | succ i=>exact N i t d (by simpa using z) (by simpa using j)
   | _=>exact (show False from h).elim
end
def mgP (M:List (List Nat×Nat)) (k:List (List Nat×Nat)->Prop):Prop:=fmP (fun p k=>fmP fnP p.1 fun l=>fnP p.2 fun n=>k (l,n)) M k
theorem sb (M:List (List Nat×Nat)) (k:List (List Nat×Nat)->Prop):mgP M k=k M:=by unfold mgP;rw [QI (fun p k=>by rw [QI qC,qC])]
def ofL (E:List Ent) (d:List (Nat×List Nat)) (e:Ent):Nat×List Nat:=(d[(e.2.1 - 2)]?).getD (0,[])
theorem Su {w:Nat}:∀ (E:List Ent) (n:Nat) (s D:List (Nat×List Nat)),s.length=E.length->D.length+2=n->(Yt n E).flatMap (cH w (ofL [] (D++s)))=s.flatMap fun d=>Wf w d.1 d.2
 | [],n,[],D,_,_=>rfl
 | e::E,n,d::s,D,h,j=>by
   simp only [Yt,qmH]
   have u:cH w (ofL [] (D++d::s)) (e.1,n,e.2.2)=Wf w d.1 d.2:=by
    unfold cH ofL;have:(D++d::s)[n - 2]?=some d:=by rw [qmy (by omega),show n - 2 - D.length=0 by omega];rfl
    simp only [this,qoD]
   have v:=Su (w:=w) E (n+1) s (D++[d]) (by simpa using h) (by simp;omega);rw [qmo] at v;rw [u];congr 1
theorem BB:∀ (E:List Ent) (n:Nat) (e:Ent),e∈Yt n E->∃ i,(Yt n E)[i]?=some e/\e.2.1=n+i
 | [],n,e,h=>by cases h
 | x::E,n,e,h=>by
   rcases sg.1 h with u | u
   . subst u;exact ⟨0,rfl,rfl⟩
   obtain ⟨i,v,j⟩:=BB E (n+1) e u;exact ⟨i+1,by simpa [Yt] using v,by omega⟩
theorem Sr:∀ (e:List Ent) (n:Nat),(Yt n e).length=e.length
 | [],n=>rfl
 | x::e,n=>by simp [Yt,Sr e]
structure RMz where
 it:Nat
 a:Nat
 b:Nat
 c:Nat
 eb:Nat
 bb:Nat
 ks1:List Nat
 ks2:List Nat
 os2:List XO
 gs2:List XG
def RMz.md (z:RMz) (e:AC):RMd:=⟨z.it,z.a,z.b,z.c,z.eb,z.bb,z.ks1,z.ks2,z.os2.flatMap XO.ops,z.gs2.map XG.grp,e⟩
inductive CZ where
 | skip
 | rgn (gs:List XG) (ks:List Nat)
 | rgnF (ins:List Nat) (dss:List (List Nat)) (gs:List XG) (ks:List Nat)
 | drwF (st:Bool) (ins:List Nat) (dss:List (List Nat)) (gs:List XG) (un:List (Nat×Nat)) (ks:List Nat)
 | drw (gs:List XG) (un:List (Nat×Nat)) (ks:List Nat)
 | piv (gs:List XG) (un:List (Nat×Nat)) (ks:List Nat) (p:Nat)
 | seq (x y:CZ)
 | cond (c:Opd) (x y:CZ)
 | block (id:Nat) (x:CZ)
 | loop (x:CZ)
 | exit (id:Nat)
 | ret
 | label (l:Nat)
 | scope (x:CZ)
 | rf (g:Opd) (ps:List Nat) (x y:CZ) (ks:List Nat)
 | rm (os:List XO) (x:Opd) (ks:List Nat) (z:RMz) (rest:CZ)
 | rmt (os:List XO) (x:Opd) (ks:List Nat) (z:RMz) (rest tl:CZ)
 | frz (t:Nat) (x:CZ)
 | nlr (d:Nat)
 | fil
 | flt (os:List FLO) (un:List (Nat×Nat)) (ks:List Nat)
 | acc (a:AccP) (ks:List Nat)
 | rma (os:List XO) (x:Opd) (ks:List Nat) (z:RMz) (rest:CZ) (tq w:Nat)
 | dead
def CZ.ac:CZ->AC
 | .skip => .skip
 | .rgn q K => .rgn (q.map XG.grp) K
 | .rgnF _ _ q K => .rgn (q.map XG.grp) K
 | .drwF _ _ _ q un K => .drw (q.map XG.grp) un K
 | .drw q un K => .drw (q.map XG.grp) un K
 | .piv q un K _ => .drw (q.map XG.grp) un K
 | .seq x y => .seq x.ac y.ac
 | .cond c x y => .cond c x.ac y.ac
 | .block id x => .block id x.ac
 | .loop x => .loop x.ac
 | .exit id => .exit id
 | .ret => .ret
 | .label l => .label l
 | .scope x => .scope x.ac
 | .rf g X x y K => .rf g X x.ac y.ac K
 | .rm O x K z e=>(z.md e.ac).rm (O.flatMap XO.ops) x K
 | .rmt O x K z e A => .seq ((z.md e.ac).rm (O.flatMap XO.ops) x K) A.ac
 | .frz _ x=>x.ac
 | .nlr d => .rgn [⟨none,[.mv d (.k (.sl true 0 []))]⟩] [d]
 | .fil=>kM
 | .flt O un K => .drw [⟨none,O.map (·.1)⟩] un K
 | .acc a K=>a.ac K
 | .rma O x K z e _ _=>(z.md e.ac).rm (O.flatMap XO.ops) x K
 | .dead => .dead
def pvA (g:List XG) (p:Nat):List XG:=(grp ((je (g.map XG.grp)).take p)).map En
def pvB (g:List XG) (p:Nat):List XG:=(grp ((je (g.map XG.grp)).drop (p+1))).map En
def Fc:AOp->Bool
 | .call .. => true
 | .callv .. => true
 | _=>false
def vJ (g:List XG) (u:List (Nat×Nat)) (k:List Nat) (p:Nat):Bool:=okR g k&&Lv (je (g.map XG.grp)) u p&&(pvA g p).all (XG.off (jOf g))&&(pvB g p).all (XG.off (jOf g))&&(match (je (g.map XG.grp))[p]? with
 | some (d,o)=>Fc o&&o.opds.all (XD (jOf g))&&(match d with
   | some (j,_) => !(jOf g).contains j
   | none=>true)
 | none=>false)
def RMz.ok (z:RMz) (os:List XO):Bool:=os.all (XO.off [])&&okR (⟨none,z.os2⟩::z.gs2) z.ks2&&(z.md .skip).ok
def CZ.ok:CZ->Bool
 | .rgn gs K=>okR gs K
 | .rgnF ins q gs K=>okF ins q gs K
 | .drwF st ins q gs un K=>okD st ins q gs un K
 | .drw gs _ K=>okR gs K
 | .piv gs un K p=>vJ gs un K p
 | .seq x y=>x.ok&&y.ok
 | .cond _ x y=>x.ok&&y.ok
 | .block _ x=>x.ok
 | .loop x=>x.ok
 | .scope x=>x.ok
 | .rf _ _ x y _=>x.ok&&y.ok
 | .rm os _ _ z e=>z.ok os&&e.ok
 | .rmt os _ _ z e O=>z.ok os&&e.ok&&O.ok
 | .frz _ x=>x.ok
 | .flt os un _=>vI os un
 | .acc a K=>a.ok K
 | .rma os _ _ z e _ _=>z.ok os&&e.ok
 | _=>true
def qif (κ:Option Nat) (h:List HObj) (k:Prop):Prop:=match κ with
 | none=>k
 | some m=>XS h m fun o=>match o with
   | .lp .. => k
   | _=>False
theorem uL {κ:Option Nat} {k:Prop} (h:qif κ p k):k/\∀ m,κ=some m->∃ s M,hpf p m=some (.lp s M):=by
 unfold qif at h;split at h
 . exact ⟨h,fun m e=>by cases e⟩
 obtain ⟨o,v,u⟩:=zW h;split at u
 . exact ⟨u,fun m e=>by cases e;exact ⟨_,_,v⟩⟩
 exact u.elim
def qkD (g:Op1) (p:List Nat) (X Y:CT) (k:List Nat):CT:=fun H K f h=>qif H.kap h (g f fun v=>fnP h.length fun m=>H.R v h (qkX p X Y { H with kap:=some m } f m) fun h=>qkU m f k K h)
def cPv (g:List XG) (u:List (Nat×Nat)) (k:List Nat) (p:Nat):CT:=match (je (g.map XG.grp))[p]? with
 | some (d,o)=>qln (dXG (pvA g p)) (dXG (pvB g p)) (dXG g) d (pZ o) (u.filter fun q=>decide (q.2<p)) u (List.replicate (p+1) ([],[])) k
 | none=>Gg
def cI (K:List Nat) (e:Exit) (f:FrL) (k:FrL->Prop):Prop:=match e with
 | .normal=>YE K f k
 | _=>k f
def MO (k:List Nat) (z:RMz) (G:X1) (R:CT) (H:Hd):BC:=fun e K f h=>faP 6 (qcT e) fun t3=>faP 6 (cV e) fun t2=>YE z.ks1 ((z.b,B true)::(z.a,t3)::f) fun r=>G H (jJ z.ks2 (R H (pz z.bb fun e f h=>cI k e f fun f=>K e f h))) ((z.c,t2)::r) h
def qiF (E:List Ent) (k:List Ent->Prop):Prop:=List.rec (motive:=fun _=>Nat->(List Ent->Prop)->Prop) (fun _ k=>k []) (fun e _ i n k=>Prod.rec (motive:=fun _=>Prop) (fun K b=>Prod.rec (motive:=fun _=>Prop) (fun _ x=>fnP n fun n=>i (Nat.succ n) fun t=>k ((K,n,x)::t)) b) e) E 2 k
theorem Ss:∀ (E:List Ent) (n:Nat) (k:List Ent->Prop),(List.rec (motive:=fun _=>Nat->(List Ent->Prop)->Prop) (fun _ k=>k []) (fun e _ i n k=>Prod.rec (motive:=fun _=>Prop) (fun K u=>Prod.rec (motive:=fun _=>Prop) (fun _ x=>fnP n fun n=>i (Nat.succ n) fun t=>k ((K,n,x)::t)) u) e) E n k:Prop)=k (Yt n E)
 | [],n,k=>rfl
 | (K,b,x)::E,n,k=>by show fnP n (fun n=>(List.rec (motive:=fun _=>Nat->(List Ent->Prop)->Prop) (fun _ k=>k []) (fun e _ i n k=>Prod.rec (motive:=fun _=>Prop) (fun K u=>Prod.rec (motive:=fun _=>Prop) (fun _ x=>fnP n fun n=>i (Nat.succ n) fun t=>k ((K,n,x)::t)) u) e) E (Nat.succ n) fun t=>k ((K,n,x)::t):Prop))=_;rw [qC,Ss E];rfl
theorem BD (e:List Ent) (k:List Ent->Prop):qiF e k=k (Yt 2 e):=Ss e 2 k
def rmP (O:List XO) (x:Opd) (K:List Nat) (z:RMz) (G:X1) (R:CT) (H:Hd) (y:FrL) (o:List HObj) (k:List Ou->Nat->Prop):Prop :=
 cXs O H (fun r h=>qK x r fun v=>mpP v h fun m e c=>frP c (JA h .gone fun n j=>YE K ((z.it,.ref n 0)::r) fun u=>qiF e fun E=>Md E fun N=>jf j m (.mp E 1) fun p =>
  eI (z.md .skip) (MO K z G R H) m n n (Bool.rec (motive:=fun _=>Nat) 20 3 (Nat.ble N 4)) E N u p (fun f=>k f n) (qiB (z.md .skip) (MO K z G R H) m n n N [⟨E,u,p⟩] [] fun f=>k f n))) y o
def cRm (o:List XO) (x:Opd) (k:List Nat) (z:RMz) (G:X1) (R:CT):CT:=fun H K u p=>rmP o x k z G R H u p fun f _=>match f with
 | [(e,r,h)]=>pz z.eb K e r h
 | _=>False
def tlP (K:List Nat) (E:Nat) (T:CT) (H:Hd) (b:Nat) (o:Ou) (k:Ou->Prop):Prop:=Prod.rec (motive:=fun _=>Prop) (fun e q=>Prod.rec (motive:=fun _=>Prop) (fun f h =>
 pz E (thE (T H fun e f h=>cI K e f fun f=>gcP b (KM f) h fun h=>k (e,f,h)) fun e f h=>k (e,f,h)) e f h) q) o
def qjk (K:List Nat) (e:Nat) (T:CT) (H:Hd) (b:Nat) (O:Ou) (l:List Ou) (k:Prop):Prop:=List.rec (motive:=fun _=>Prop) k (fun o _ i=>tlP K e T H b o fun u=>okP (ZL u O) i) l
def qlp (u:List XO) (x:Opd) (s:List Nat) (z:RMz) (G:X1) (R T:CT):CT:=fun H K r h=>rmP u x s z G R H r h fun f b=>match f with
 | o::l=>fmP fnP (r.map (·.1)) fun k=>tlP k z.eb T H b o fun O=>qjk k z.eb T H b O l (Prod.rec (motive:=fun _=>Prop) (fun e q=>Prod.rec (motive:=fun _=>Prop) (fun r h=>K e r h) q) O)
 | []=>False
def qhj (t:Nat) (X:CT):CT:=fun H K f h=>NM f t fun v=>match v with
 | .ref id _=>VC h id fun C=>(match zC (hpf h) C with
   | some (c,i)=>okP (!i.contains id) (fmP (faP 6) c fun c=>fmP fnP i fun i=>wsP (gones i++[(id,.cells c)]) h fun h=>X H K f h)
   | none=>X H K f h)
 | v=>wo h v (fun y ids=>bL ids h fun h=>X H K ((t,y)::f) h) (X H K f h)
def qlm (d:Nat):CT:=fun _ K _ h=>K .normal [(d,.v (.slice none 0 0))] h
def qhh:CT:=fun _ K f h=>match f with
 | [(a,x),(A,X),(u,.ref id 0),(v,.v (.int .i64 (.ofNat z)))]=>okP (Nat.beq a 0&&Nat.beq A 1&&Nat.beq u 5&&Nat.beq v 9&&Nat.beq z 0) (VC h id fun cs=>Md cs fun n=>okP (Nat.beq n 4096) (flP vt fun cs=>jf h id (.cells cs) fun h=>K (.exit 0) [(0,x),(1,X),(5,.ref id 0),(9,I 4096),(10,B false)] h))
 | _=>False
def vsP (l:List Nat) (k:List Value->Prop):Prop:=List.rec (motive:=fun _=>(List Value->Prop)->Prop) (fun k=>k []) (fun n _ i k=>i fun t=>k (.int .i64 (.ofNat n)::t)) l k
theorem nR:∀ (l:List Nat) (k:List Value->Prop),vsP l k=k (l.map UP)
 | [],k=>rfl
 | n::l,k=>by show vsP l (fun t=>k (.int .i64 (.ofNat n)::t))=_;rw [nR l];rfl
def enP (M:List (List Nat×Nat)) (k:List Ent->Prop):Prop:=List.rec (motive:=fun _=>(List Ent->Prop)->Prop) (fun k=>k []) (fun p _ i k=>Prod.rec (motive:=fun _=>Prop) (fun l n=>vsP l fun v=>i fun t=>k ((.agg ⟨v⟩,0,.v (.int .i64 (.ofNat n)))::t)) p) M k
theorem bw:∀ (M:List (List Nat×Nat)) (k:List Ent->Prop),enP M k=k (M.map cK)
 | [],k=>rfl
 | (l,n)::M,k=>by show vsP l (fun v=>enP M fun t=>k ((.agg ⟨v⟩,0,.v (.int .i64 (.ofNat n)))::t))=_;rw [nR,bw M];rfl
def qhu (O:List XO) (x:Opd) (k:List Nat) (z:RMz) (T w:Nat) (G:X1) (R:CT):CT:=fun H K t d =>
 cXs O H (fun r h=>qK x r fun v=>mpP v h fun m e c=>frP c (JA h .gone fun n s=>YE k ((z.it,.ref n 0)::r) fun f=>qiF e fun E=>jf s m (.mp E 1) fun j =>
  NM f T fun u=>match u with
  | .mp q=>okP (!Nat.beq q m && !Nat.beq q n) (XS j q fun o=>match o with
    | .mp [] 0=>jf j q (.it w 0 [] 0) fun y=>Mf f z.it n (qiX (MO k z G R H) m n q w f y E fun CT=>mgP (mrg CT) fun M=>okP (M.all fun p=>Nat.blt p.2 4611686018427387904) (jf y m (.mp E 0) fun b=>enP M fun e=>jf b q (.mp e 0) fun l=>YE z.ks1 ((z.b,B false)::(z.a,.tup [B false])::f) fun g=>K .normal g l))
    | _=>False)
  | _=>False)) t d
def cCZ:CZ->CT
 | .skip=>eT
 | .rgn s k=>qkE (cXG s) k
 | .rgnF ins D s k=>IY ins D s k
 | .drwF u ins D s un k=>IU u ins D s k
 | .drw s un k=>qhd (dXG s) un k
 | .piv s un k p=>cPv s un k p
 | .seq x y=>qlq (cCZ x) (cCZ y)
 | .cond c x y=>pK (qK c) (cCZ x) (cCZ y)
 | .block id x=>qlk id (cCZ x)
 | .loop x=>eG (cCZ x)
 | .exit id=>qhf id
 | .ret=>qlo
 | .label _=>eT
 | .scope x=>eO (cCZ x)
 | .rf g P x y k=>qkD (qK g) P (cCZ x) (cCZ y) k
 | .rm o x k z r=>cRm o x k z (cXG (⟨none,z.os2⟩::z.gs2)) (cCZ r)
 | .rmt o x k z r T=>qlp o x k z (cXG (⟨none,z.os2⟩::z.gs2)) (cCZ r) (cCZ T)
 | .frz t x=>qhj t (cCZ x)
 | .nlr d=>qlm d
 | .fil=>qhh
 | .flt o _ k=>qll o k
 | .acc a k=>qg4 a k
 | .rma o x k z r q w=>qhu o x k z q w (cXG (⟨none,z.os2⟩::z.gs2)) (cCZ r)
 | .dead=>Gg
section
variable {κ:Option Nat} {P:Program} {S:YSp} {H:Hd}
def At2 (κ:Option Nat) (P:Program) (S:YSp) (a:AC) (K:KE) (f:FrL) (p:List HObj):Prop:=∃ e fr' h,Go2 κ P S a f p e fr' h/\K e fr' h
theorem GN {a:AC} (n:a.noRf=true) (h:∀ Y,Xd Y S->∀ Z q,HR Z u q->AWP P ⟨Y,RG P⟩ a ⟨r,q⟩ (fun E s=>E=e/\s.fr=f/\HR Z p s.hp)):Go2 κ P S a r u e f p:=fun Y j Z q z w g v=>YW v (Ez Y) n (h Y j Z q z)
theorem sM (O:HzOK P S H) (v:okR g k=true) (h:qkE (cXG g) k H K f p):At2 κ P S (.rgn (g.map XG.grp) k) K f p:=by simp only [okR,qd] at v;obtain ⟨r,j,z,u⟩:=Dj O v.1 (show cXG g H (jJ k (K .normal)) f p from h);unfold jJ at u;rw [zH] at u;refine ⟨.normal,_,j,GN rfl fun Y y Z q o=>?_,u⟩;exact Qt (fun s ⟨Q,b⟩=>⟨rfl,Q.keep v.2,b⟩) (z Y y Z q f o .refl)
theorem fG (O:HzOK P S H) {i:List Nat} {d:List (List Nat)} {o:List Nat} (k:okF i d g o=true) (h:IY i d g o H K f p):At2 κ P S (.rgn (g.map XG.grp) o) K f p:=by simp only [okF,okR,qd,qmE] at k;obtain ⟨⟨v,z⟩,j⟩:=k;subst z;have k:=And.intro v j;unfold IY box at h;rw [OI _ _ f f p k.1 (fun _ _=>rfl)] at h;obtain ⟨r,y,q,u⟩:=RA O k.2.1 h;unfold jJ at u;rw [zH] at u;refine ⟨.normal,_,y,GN rfl fun Y b Z m l=>?_,u⟩;exact Qt (fun s ⟨Q,t⟩=>⟨rfl,Q.keep k.2.2,t⟩) (q Y b Z m f l (FJ.kn i f))
theorem mC (O:HzOK P S H) {b:Bool} {i:List Nat} {d:List (List Nat)} {un:List (Nat×Nat)} {q:List Nat} (k:okD b i d g un q=true) (h:IU b i d g q H K f p):At2 κ P S (.drw (g.map XG.grp) un q) K f p:=by simp only [okD,okF,okR,qd,qmE] at k;obtain ⟨⟨⟨v,z⟩,j⟩,y⟩:=k;subst z;have k:=And.intro (And.intro v j) y;unfold IU box at h;rw [OI _ _ f f p k.1.1 (fun _ _=>rfl)] at h;obtain ⟨r,o,m,u⟩:=Gw O k.1.2.1 h;unfold jJ at u;rw [zH] at u;refine ⟨.normal,_,o,GN rfl fun Y n Z l w=>?_,u⟩;exact zL (fun s t ⟨Q,c,E,a,e⟩=>⟨by rw [e,qmF];exact De a k.2,rfl,Q.keep k.1.2.2,c⟩) (m Z l f w (FJ.kn i f) [])
theorem FF (O:HzOK P S H) {un:List (Nat×Nat)} (v:okR g k=true) (h:qhd (dXG g) un k H K f p):At2 κ P S (.drw (g.map XG.grp) un k) K f p:=by simp only [okR,qd] at v;obtain ⟨r,j,d,z,y⟩:=Hk O v.1 (show dXG g H (fun f p T=>okP (Qm T un) (jJ k (K .normal) f p)) f p [] from h);obtain ⟨o,u⟩:=qt y;unfold jJ at u;rw [zH] at u;refine ⟨.normal,_,j,GN rfl fun Y w Z q b=>?_,u⟩;exact zL (fun s t ⟨Q,m,l⟩=>⟨by rw [l];exact o,rfl,Q.keep v.2,m⟩) (z Z q f b .refl)
theorem fB (g:List XG) (p:Nat):(pvA g p).map XG.grp=grp ((je (g.map XG.grp)).take p):=SE _
theorem fC (g:List XG) (p:Nat):(pvB g p).map XG.grp=grp ((je (g.map XG.grp)).drop (p+1)):=SE _
theorem fv (N:HzOK P S H) {un:List (Nat×Nat)} {p:Nat} (hk:vJ g un k p=true) {a:FrL} {X:List HObj} (h:cPv g un k p H K a X):At2 κ P S (.drw (g.map XG.grp) un k) K a X:=by
 simp only [vJ,qd] at hk;obtain ⟨⟨⟨⟨hR,C⟩,hA⟩,hB⟩,T⟩:=hk;unfold cPv at h;cases hp0:(je (g.map XG.grp))[p]? with
 | none=>rw [hp0] at h;exact (show False from h).elim
 | some c =>
   obtain ⟨gd,O⟩:=c;rw [hp0] at T h;simp only [qd] at T;obtain ⟨⟨M,ho⟩,hg⟩:=T;have R:=hR;simp only [okR,qd] at R;obtain ⟨x0,x4,x5,n,z⟩:=Hk N hA (show dXG (pvA g p) H _ a X [] from h);rcases ij z with ⟨V,z⟩ | z
   . obtain ⟨h3,h4⟩:=qt z;obtain ⟨v,m,i,h6⟩:=Rz N ho h4;obtain ⟨x1,l,x6,L,h8⟩:=Hk N hB (show dXG (pvB g p) H _ v m _ from h6);obtain ⟨h9,u⟩:=qt h8;unfold jJ at u;rw [zH] at u;refine ⟨.normal,_,l,fun Y hY Z D hr w1 g1 hS=>?_,u⟩;have x2:p<(je (g.map XG.grp)).length:=(qml.1 hp0).1
     have o:(∃ d f as,O = .call d f as)\/∃ d x as,O = .callv d x as:=by
      cases O with
      | call d f as=>exact .inl ⟨d,f,as,rfl⟩
      | callv d x as=>exact .inr ⟨d,x,as,rfl⟩
      | _=>simp [Fc] at M
     refine Vz rfl (Oc hS (grp ((je (g.map XG.grp)).take p)) (grp ((je (g.map XG.grp)).drop (p+1))) (un.filter fun q=>decide (q.2<p)) p (List.replicate (p+1) ([],[])) gd O (by simp;omega) ?_ C rfl rfl ?_ rfl o ?_)
     . have:=(qml.1 hp0).2;rw [<-this,List.getElem_cons_drop,qnD]
     . refine LL.2 fun q D=>?_;by_cases M:q.2<p
       . simp [D,M]
       simp [qoA M]
     have n:=n Z D a hr .refl;rw [fB] at n;refine zL (fun A tr ⟨Q,E,J⟩=>?_) n;rw [J];have y:Ir gd (get A.fr):=(Yp fun j b e=>by subst e;exact Q j (by simpa using hg)).1 V;refine ⟨h3,y,?_⟩;have fin:∀ s:St,FJ (jOf g) v s.fr/\HR Z m s.hp->zu P (grp ((je (g.map XG.grp)).drop (p+1))) s (List.replicate (p+1) ([],[])) fun w tr=>Qm tr un=true/\Exit.normal=Exit.normal/\(St.keep w k).fr=_/\HR Z l (St.keep w k).hp:=fun s ⟨k1,k2⟩=>by have L:=L Z s.hp s.fr k2 k1;rw [fC] at L;exact zL (fun s t ⟨Q,E,J⟩=>⟨by rw [J];exact h9,rfl,Q.keep R.2,E⟩) L
     have i:=i Y hY Z A.hp A.fr E Q;cases O with
     | call d f as=>exact Ha (fun r x3 e=>fin _ e) ((show YC P _ f _ _ _ from i) w1 g1 hS)
     | _=>exact jZ (fun s _ e=>fin s e) i
   exact FF N hR z
theorem im {x y:AC} {u:FrL} (o:Go2 κ P S x u z .normal f h) (q:Go2 κ P S y f h e r p):Go2 κ P S (.seq x y) u z e r p:=fun Y j Z b m w g v =>
 ji (zI (fun d s ⟨Q,l,t⟩=>by
  subst Q;have E:s=⟨f,s.hp⟩:=by rw [<-l]
  show ZC κ P w g y s _;rw [E];exact q Y j Z s.hp t w g v) (o Y j Z b m w g v))
theorem mT {x y:AC} (n:e≠.normal) (u:Go2 κ P S x r p e f h):Go2 κ P S (.seq x y) r p e f h:=fun Y j Z q z w g v =>
 ji (zI (fun E b ⟨Q,o,s⟩=>by subst Q;cases E <;> first | exact absurd rfl n | exact ⟨rfl,o,s⟩) (u Y j Z q z w g v))
theorem oQ (h:qhh H K f p):At2 κ P S kM K f p:=by
 unfold qhh at h;split at h
 . rename_i a x A X b id m z;obtain ⟨o,h⟩:=qt h;simp only [qd] at o;obtain ⟨⟨⟨⟨e,E⟩,u⟩,v⟩,j⟩:=o;have e:=qe e;have E:=qe E;have u:=qe u;have v:=qe v;have j:=qe j;subst e E u v j;obtain ⟨cs,y,h⟩:=zU h;rw [Jd] at h;obtain ⟨l,h⟩:=qt h;have l:=qe l;rw [zM] at h;refine ⟨.exit 0,_,_,GN rfl fun Y d Z q r=>?_,qT h⟩;have c:=(r.cel y).1;have t:=qF c;refine oR (id:=id) (cs:=cs) (by rw [qn];exact c) l ⟨rfl,rfl,?_⟩;have g:ET cs 4096=vt:=by unfold ET vt;rw [qnJ (by omega),qm3]
   have s:q.set id (.cells (ET cs 4096))=qz q id (.cells vt):=by unfold qz;rw [if_pos t,g]
   show HR Z _ (q.set id (.cells (ET cs 4096)));rw [s];exact r.set (qmu (qF y)) (by rw [(r.cel y).2];rfl)
 exact h.elim
def IB (κ:Option Nat) (P:Program) (S:YSp) (x:AC):Nat->FrL->List HObj->Exit->FrL->List HObj->Prop
 | 0,u,v,e,f,h=>e≠.normal/\Go2 κ P S x u v e f h
 | n+1,u,v,e,f,h=>∃ r p,Go2 κ P S x u v .normal r p/\IB κ P S x n r p e f h
theorem Cb {x:AC} {j:FrL} (h:IB κ P S x n j u e f p):Go2 κ P S (.loop x) j u e f p:=fun Y d Z L M c l t=>by
 refine MG (α:=St×Nat) (·.1) (fun b=>∃ u,HR Z u b.1.hp/\IB κ P S x b.2 b.1.fr u e f p) (·.2) (⟨j,L⟩,n) ⟨u,M,h⟩ (St.le.rfl' _) fun b v=>?_;obtain ⟨s,m⟩:=b;obtain ⟨i,r,v⟩:=v;cases m with
 | zero =>obtain ⟨y,z⟩:=v;refine zI (fun E w ⟨q,Q,g⟩=>?_) (z Y d Z s.hp r c l t);subst q;cases E <;> first | exact absurd rfl y | exact ⟨rfl,Q,g⟩
 | succ m =>obtain ⟨a,o,z,k⟩:=v;refine zI (fun E w ⟨q,Q,g⟩=>?_) (z Y d Z s.hp r c l t);subst q;exact ⟨(w,m),⟨o,g,by simp only;rw [Q];exact k⟩,qoB _,St.le.rfl' _⟩
theorem Gd {E:Nat} (h:pz E K e f p):K (bkE E e) f p:=by
 cases e with
 | exit id =>
   have h:(Bool.rec (motive:=fun _=>K1) (K (.exit id)) (K .normal) (Nat.beq id E):K1) f p:=h;simp only [bkE];cases q:Nat.beq id E with
   | true=>rw [q] at h;rw [if_pos (qe q)];exact h
   | false=>rw [q] at h;rw [if_neg (fun e=>by rw [e,qoe] at q;cases q)];exact h
 | _=>exact h
theorem AJ {A:AC} {u:FrL} (k:List Nat) (h:Go2 κ P S A u v e f p):Go2 κ P S A u v e (k.map fun t=>(t,get f t)) p:=fun Y q Z m i C z o N c a w g R T n b r L x l =>
 h Y q Z m i C z o N c a w g R T n b r L x fun E s j D y ⟨Q,M,O⟩ V X d=>l E (s.keep k) j D y ⟨Q,by rw [<-M];rfl,O⟩ (V.keep k) X d
theorem FK {K:List Nat} {k:FrL->Prop} (h:cI K e f k):k f\/k (K.map fun t=>(t,get f t)):=by
 unfold cI at h;split at h
 . rw [zH] at h;exact .inr h
 exact .inl h
theorem Ge (O:HzOK P S H) {z:RMz} {r:AC} (y:okR (⟨none,z.os2⟩::z.gs2) z.ks2=true) (a:∀ K f g,R H K f g->At2 κ P S r K f g):Im κ P S (z.md r) (MO k z (cXG (⟨none,z.os2⟩::z.gs2)) R H):=fun e K f g h=>by
 unfold MO at h;rw [QR,QR,zH] at h;simp only [okR,qd] at y;obtain ⟨w,j,t,o⟩:=Dj O y.1 h;unfold jJ at o;rw [zH] at o;obtain ⟨E,u,p,d,c⟩:=a _ _ _ o;have v:=Gd c;rcases FK (show cI k (bkE z.bb E) u (fun f=>K (bkE z.bb E) f p) from v) with v | v
 . exact ⟨bkE z.bb E,u,p,⟨_,j,E,fun Y q Z b m=>Qt (fun s ⟨Q,l⟩=>⟨Q.keep y.2,l⟩) (t Y q Z b _ m .refl),d,rfl⟩,v⟩
 exact ⟨bkE z.bb E,_,p,⟨_,j,E,fun Y q Z b m=>Qt (fun s ⟨Q,l⟩=>⟨Q.keep y.2,l⟩) (t Y q Z b _ m .refl),AJ k d,rfl⟩,v⟩
theorem wt (O:HzOK P S H) {Q:List XO} {x:Opd} {M:List Nat} {z:RMz} {u:AC} (y:z.ok Q=true) (T:∀ K v j,R H K v j->At2 κ P S u K v j) {v:FrL} {k:List Ou->Nat->Prop} (h:rmP Q x M z (cXG (⟨none,z.os2⟩::z.gs2)) R H v j k) :
 ∃ i n,k i n/\∀ Y,Xd Y S->∀ Z c,HR Z j c->AGk κ P Y ((z.md u).rm (Q.flatMap XO.ops) x M) ⟨v,c⟩ fun e s=>∃ o∈i,e=bkE z.eb o.1/\s.fr=o.2.1/\HR Z o.2.2 s.hp:=by
 simp only [RMz.ok,qd] at y;unfold rmP at h;obtain ⟨g,p,h1,h⟩:=Dk (J:=[]) O y.1.1 h;rw [qi] at h;obtain ⟨m,E,cl,hx,hm,h⟩:=VT h;obtain ⟨rfl,h⟩:=RZ h;have h:=zP h;rw [zH,BD,Jd] at h;have h:=qT h;have L:(z.md u).ok=true:=y.2;have hg:qf p [(p.length,.gone)]=p++[.gone]:=by show qz p p.length .gone=_;simp [qz]
 rw [hg] at h
 have N:∀ (E:List Ent) (n a:Nat) (e:Ent),(Yt n E)[a]?=some e->e.2.1=a+n:=by
  intro E
  induction E with
  | nil=>intro n a e h;simp [Yt] at h
  | cons x E ih =>
    intro n a e h;cases a with
    | zero=>simp [Yt] at h;subst h;simp
    | succ a =>have:=ih (n+1) a e (by simpa [Yt] using h);omega
 have b:∃ i,k i p.length/\(z.md u).Runs κ P S m p.length (FO m i) (Yt 2 E).length (Yt 2 E) (M.map fun t=>(t,get ((z.it,.ref p.length 0)::g) t)) (qz (p++[.gone]) m (.mp (Yt 2 E) 1)):=by
  rcases IV (r:=z.md u) (κ:=κ) (P:=P) (S:=S) (Ge O y.1.2 T) (N E 2) rfl h with q | q
  . obtain ⟨i,l,_,w⟩:=Bo (r:=z.md u) (κ:=κ) (P:=P) (S:=S) (Ge O y.1.2 T) (Yu E 2) (fun nd d=>by simp at d;subst d;exact ⟨rfl,fun e he=>he⟩) q;exact ⟨i,l,w _ (qnv.2 rfl)⟩
  exact q
 obtain ⟨i,l,w⟩:=b;refine ⟨i,p.length,l,fun Y hY Z c hr=>?_⟩;refine XE (fun e s ⟨ex,A,x0,_,hf,V,X,C⟩=>?_) (qiW hY L h1 hx hm w hr);obtain ⟨f,q1,q2,q3,D,k2,q4,q5⟩:=hf;exact ⟨f,q1,by rw [q2];exact V,by rw [q3];exact X,q5 _ _ (C _ _ q4)⟩
theorem sO (Q:HzOK P S H) {O:List XO} {x:Opd} {z:RMz} {s:AC} (b:z.ok O=true) (hR:∀ K j g,R H K j g->At2 κ P S s K j g) {tq w:Nat} {j:FrL} {g:List HObj} (h:qhu O x L z tq w (cXG (⟨none,z.os2⟩::z.gs2)) R H K j g) :
 At2 κ P S ((z.md s).rm (O.flatMap XO.ops) x L) K j g:=by
 simp only [RMz.ok,qd] at b;unfold qhu at h;obtain ⟨T,u,X,h⟩:=Dk (J:=[]) Q b.1.1 h;rw [qi] at h;obtain ⟨m,E,cl,hx,hm,h⟩:=VT h;obtain ⟨rfl,h⟩:=RZ h;have h:=zP h;rw [zH,BD] at h;have h:=qT h;have hg:qf u [(u.length,.gone)]=u++[.gone]:=by show qz u u.length .gone=_;simp [qz]
 rw [hg,zV] at h;split at h
 . rename_i q hq;obtain ⟨n,h⟩:=qt h;simp only [qd,qmZ] at n;have N:∀ {x y:Nat},Nat.beq x y=false->x≠y:=fun h e=>by rw [e,qoe] at h;cases h
   obtain ⟨o,ho,h⟩:=zW h;split at h
   . obtain ⟨t,h⟩:=WS (qT h);obtain ⟨v,a,V,h⟩:=BZ (κ:=κ) (P:=P) (S:=S) (r:=z.md s) (Ge Q b.1.2 hR) h;rw [sb] at h;obtain ⟨hb,h⟩:=qt h;have h:=qT h;rw [bw] at h;have h:=qT h;rw [zH] at h;have f:=Su (w:=w) E 2 v [] (by rw [a,Sr]) rfl;rw [qmF] at f;refine ⟨.normal,_,_,fun Y hY Z hq hr=>sN (r:=z.md s) hY b.2 X hx hm rfl rfl (N n.1) (N n.2) ho t (D:=ofL [] v) (M:=mrg (v.flatMap fun d=>Wf w d.1 d.2)) (fun e he=>?_) (by rw [f];exact bY _) (fun p c=>xr (LL.1 hb p c)) hr,h⟩;obtain ⟨i,k,h4⟩:=BB E 2 e he;have l:i<v.length:=by rw [a];exact (qml.1 k).1
     have C:=V i e v[i] k (Wd l);have A:ofL [] v e=v[i]:=by unfold ofL;rw [show e.2.1 - 2=i by omega,Wd l];rfl
     rw [A];exact C
   exact h.elim
 exact h.elim
theorem np {s:List Nat} {E:Nat} {T:CT} {t:AC} (m:∀ K f p,T H K f p->At2 κ P S t K f p) {b:Nat} {o:Ou} {k:Ou->Prop} (h:tlP s E T H b o k) :
 ∃ O:Ou,k O/\((bkE E o.1 = .normal/\∃ u,Go2 κ P S t o.2.1 o.2.2 O.1 O.2.1 u/\HM u O.2.2)\/(bkE E o.1≠.normal/\O=(bkE E o.1,o.2))):=by
 obtain ⟨e,f,p⟩:=o;have h:=Gd (show pz E (thE (T H fun e f p=>cI s e f fun f=>gcP b (KM f) p fun p=>k (e,f,p)) fun e f p=>k (e,f,p)) e f p from h);simp only;generalize bkE E e=j at h;by_cases n:j = .normal
 . subst n;obtain ⟨l,r,u,g,v⟩:=m _ _ _ (show T H _ f p from h);rcases FK v with v | v
   . obtain ⟨q,z,y⟩:=Xm v;exact ⟨_,z,.inl ⟨rfl,u,g,y⟩⟩
   obtain ⟨q,z,y⟩:=Xm v;exact ⟨_,z,.inl ⟨rfl,u,AJ s g,y⟩⟩
 refine ⟨(j,f,p),?_,.inr ⟨n,rfl⟩⟩;cases j <;> first | exact absurd rfl n | exact h
theorem CP {s:List Nat} {e:Nat} {T:CT} {t:AC} (v:∀ K f j,T H K f j->At2 κ P S t K f j) {b:Nat} {u:Ou}:∀ {l:List Ou} {k:Prop},qjk s e T H b u l k ->
 k/\∀ o∈l,∃ O:Ou,ZL O u=true/\((bkE e o.1 = .normal/\∃ p,Go2 κ P S t o.2.1 o.2.2 O.1 O.2.1 p/\HM p O.2.2)\/(bkE e o.1≠.normal/\O=(bkE e o.1,o.2)))
 | [],k,h=>⟨h,fun o w=>by cases w⟩
 | o::l,k,h=>by
   obtain ⟨O,z,y⟩:=np v (show tlP s e T H b o (fun O=>okP (ZL O u) (qjk s e T H b u l k)) from h);obtain ⟨g,m⟩:=qt z;obtain ⟨r,d⟩:=CP v m;refine ⟨r,fun x c=>?_⟩;rcases sg.1 c with q | q
   . subst q;exact ⟨O,g,y⟩
   exact d x q
end
def qkV:AC->Option (List XO×Opd×List Nat×RMz×AC)
 | .seq (.rgn [⟨none,o⟩] s) (.block e (.loop (.seq (.rgn [⟨none,[.nxt a (.t it),.ext b _ 0]⟩] k) (.seq (.cond _ .skip _) (.block u (.seq (.rgn (⟨none,.ent c _::os2⟩::gs2) K) r))))))=>match o.getLast? with
   | some (.rng _ x)=>some (preO o.dropLast,x,s,⟨it,a,b,c,e,u,k,K,preO os2,gs2.map En⟩,r)
   | _=>none
 | _=>none
def qiL (h:List Nat) (g:List XG) (u:List (Nat×Nat)) (k:List Nat):Option Nat :=
 (List.range (je (g.map XG.grp)).length).find? fun p=>(match (je (g.map XG.grp))[p]? with
  | some (_,o)=>qic h o
  | none=>false)&&vJ g u k p
def qkG (h:List Nat) (g:List XG) (u:List (Nat×Nat)) (k:List Nat):CZ:=match qiL h g u k with
 | some p => .piv g u k p
 | none => .drw g u k
def qkM (t:Nat):List Nat->List Nat
 | []=>[t]
 | a::l=>if t<a then t::a::l else if t=a then a::l else a::qkM t l
def uA (T d a:List Nat):List Nat:=T.foldl (fun a t=>if d.contains t then a else qkM t a) a
def qh9:List AOp->List Nat×List Nat->List Nat×List Nat
 | [],s=>s
 | o::O,(D,a)=>qh9 O ((match o.dst with
   | some d=>d::D
   | none=>D),uA (o.opds.flatMap Opd.tmp) D a)
def uv:List Grp->List Nat×List Nat->List Nat×List Nat
 | [],s=>s
 | ⟨none,o⟩::g,s=>uv g (qh9 o s)
 | ⟨some (j,_),o⟩::g,(d,a)=>uv g (qh9 o (d,uA [j] d a))
def AU (g:List Grp) (k:List Nat):List Nat:=match uv g ([],[]) with
 | (d,a)=>uA k d a
def Fd (h:List Nat):AOp->Bool
 | .callv .. => h.contains 0
 | .call _ f _=>h.contains f
 | _=>false
def qlx (h:List Nat) (g:List Grp) (u:List (Nat×Nat)) (k:List Nat):CZ :=
 if (vN g).any (Fd h) then qkG h (g.map En) u k
 else if (vN g).any (fun o=>match o with
  | .call _ f _=>h.contains (100000+f)
  | _=>false) then .drw (g.map En) u k
 else if okD false (AU g k) (VE (g.map En)) (g.map En) u k then .drwF false (AU g k) (VE (g.map En)) (g.map En) u k
 else if okD true (AU g k) (VE (g.map En)) (g.map En) u k then .drwF true (AU g k) (VE (g.map En)) (g.map En) u k
 else qkG h (g.map En) u k
def Lz (h:List Nat) (t:Bool):Nat->AC->CZ
 | 0,_ => .dead
 | n+1,ac=>match qkV ac with
   | some (o,x,k,z,r) => .rm o x k z (Lz h t n r)
   | none=>match ac with
     | .skip => .skip
     | .rgn s k => .rgnF (AU s k) (VE (s.map En)) (s.map En) k
     | .drw s u k=>qlx h s u k
     | .seq x y=>match (bif t then qkV x else none) with
       | some (o,a,k,z,r) => .rmt o a k z (Lz h t n r) (Lz h t n y)
       | none => .seq (Lz h t n x) (Lz h t n y)
     | .cond c x y => .cond c (Lz h t n x) (Lz h t n y)
     | .block id x => .block id (Lz h t n x)
     | .loop x => .loop (Lz h t n x)
     | .exit id => .exit id
     | .ret => .ret
     | .label l => .label l
     | .scope x => .scope (Lz h t n x)
     | .rf g p x y k => .rf g p (Lz h t n x) (Lz h t n y) k
     | .dead => .dead
def qkI (g:List XG) (u:List (Nat×Nat)) (k:List Nat):Option CZ:=match g with
 | [⟨none,x⟩]=>some (.flt ((List.range (x.flatMap XO.ops).length).filterMap fun i=>match (x.flatMap XO.ops)[i]? with
     | some o=>some (o,cM o&&DI u (je [⟨none,x.flatMap XO.ops⟩]) i)
     | none=>none) u k)
 | _=>none
def Ip (f:Nat):CZ->CZ
 | .drwF t ins d s u k=>if (vN (s.map XG.grp)).any (Fd [f]) then (match qkI s u k with
   | some z=>if z.ok then z else .drwF t ins d s u k
   | none => .drwF t ins d s u k) else .drwF t ins d s u k
 | .drw s u k=>if (vN (s.map XG.grp)).any (Fd [f]) then (match qkI s u k with
   | some z=>if z.ok then z else .drw s u k
   | none => .drw s u k) else .drw s u k
 | .seq x y => .seq (Ip f x) (Ip f y)
 | .cond c x y => .cond c (Ip f x) (Ip f y)
 | .block id x => .block id (Ip f x)
 | .loop x => .loop (Ip f x)
 | .scope x => .scope (Ip f x)
 | .rf g p x y k => .rf g p (Ip f x) (Ip f y) k
 | x=>x
def Iw:CZ->CZ
 | .rgnF ins D s k=>match s,k with
   | [⟨none,[.op (.mv d (.k (.sl true 0 [])))]⟩],[u]=>if d=u then .nlr d else .rgnF ins D s k
   | _,_ => .rgnF ins D s k
 | .seq x y => .seq (Iw x) (Iw y)
 | .cond c x y => .cond c (Iw x) (Iw y)
 | .block id x => .block id (Iw x)
 | .loop x => .loop (Iw x)
 | .scope x => .scope (Iw x)
 | .rf g p x y k => .rf g p (Iw x) (Iw y) k
 | x=>x
def mM:CZ->CZ
 | .loop x=>match x with
   | .seq (.rgnF _ _ [⟨none,[.op (.bin 10 .lss (.t 9) (.k (.v (.int .i64 4096))))]⟩] _) _ => .fil
   | _ => .loop (mM x)
 | .seq x y => .seq (mM x) (mM y)
 | .cond c x y => .cond c (mM x) (mM y)
 | .block id x => .block id (mM x)
 | x=>x
def Iq (f t:Nat):CZ->CZ
 | .seq x y => .seq (Iq f t x) (Iq f t y)
 | .cond c x y => .cond c (Iq f t x) (Iq f t y)
 | .block id x => .block id (Iq f t x)
 | .loop x => .loop (Iq f t x)
 | .scope x => .scope (Iq f t x)
 | .rf g p x y k => .rf g p (Iq f t x) (Iq f t y) k
 | x=>if (match x.ac with
   | .rgn s _=>vN s
   | .drw s _ _=>vN s
   | _=>[]).any (fun o=>match o with
   | .call _ g _=>g==f
   | .bsl .. => f==0
   | _=>false) then .frz t x else x
def qlj:XO->XO
 | .op (.bsl d n s z p) => .bsm d n s z p
 | x=>x
def In:CZ->CZ
 | .rgnF ins d s k => .rgnF ins d (s.map fun g=>⟨g.guard,g.ops.map qlj⟩) k
 | .seq x y => .seq (In x) (In y)
 | .cond c x y => .cond c (In x) (In y)
 | .block id x => .block id (In x)
 | .loop x => .loop (In x)
 | .scope x => .scope (In x)
 | .rf g p x y k => .rf g p (In x) (In y) k
 | x=>x
def pb (t:Nat):CZ->CZ
 | .drwF s ins d g u k=>match g with
   | [⟨none,[.op (.mv t1 (.t T)),.op (.ld t2 _ w (.t p)),.op (.lku t3 K _ _ _ _),.op (.mv v (.t z)),.op (.bin t5 _ _ _),.ups t6 _ _ _ _ j _]⟩]=>if T=t then .acc ⟨t1,T,t2,w,p,t3,K,v,z,t5,t6,j⟩ k else .drwF s ins d g u k
   | _ => .drwF s ins d g u k
 | .seq x y => .seq (pb t x) (pb t y)
 | .cond c x y => .cond c (pb t x) (pb t y)
 | .block id x => .block id (pb t x)
 | x=>x
def Hs:CZ->Bool
 | .acc .. => true
 | .seq x y=>Hs x || Hs y
 | .cond _ x y=>Hs x || Hs y
 | .block _ x=>Hs x
 | _=>false
def pd (t w:Nat):CZ->CZ
 | .rm o x k z r=>if Hs (pb t r) then .rma o x k z (pb t r) t w else .rm o x k z r
 | .seq x y => .seq (pd t w x) (pd t w y)
 | .cond c x y => .cond c (pd t w x) (pd t w y)
 | .block id x => .block id (pd t w x)
 | .loop x => .loop (pd t w x)
 | x=>x
theorem PW {e:List Ent} {c:Nat}:shP E e c↔Sh E e c:=⟨fun h=>⟨h.1,h.2.1,h.2.2.1,h.2.2.2⟩,fun h=>⟨h.perm,h.keys,h.born,h.clk⟩⟩
theorem TI {f:FuncId} {J K:List AV} {Φ:List (Value×Nat×AV)->Nat->Prop} {KC:AV->List HObj->Prop} (h1:qj (hpf p) J=some (K,[])) (h2:HX P f K Φ) (h3:∀ E C,Φ E C->KC (.mp p.length) (p++[.mp E C])):qB P f J p KC:=by
 have h:=Fb (KC:=fun x H=>x = .mp p.length/\H=p++[.mpp Φ]) h1 h2 ⟨rfl,by simp [gones,qf,qz]⟩;intro ro n w g vs R X j;refine (h ro n w g vs R X j).mono ?_;rintro e w' ⟨v,x,H,g',rfl,⟨rfl,rfl⟩,hx,k,z⟩;have A:∀ o:HObj,hpf (p++[o]) p.length=some o:=fun o=>by simp [hpf]
 obtain ⟨l,hl,T⟩:=k.rep p.length (.mpp Φ) (A _);cases l with
 | virg=>exact T.elim
 | base L=>exact T.elim
 | blk c d =>
   obtain ⟨E,C,hΦ,s⟩:=T
   have D:∀ o:HObj,∀ id,id≠p.length->hpf (p++[o]) id=hpf p id:=fun o id x0=>by
    simp only [hpf];rcases qmV id p.length with N | m
    . rw [qmw N]
    rw [qm1 (by simp;omega),qm1 m]
   have conv:∀ id o,hpf (p++[.mp E C]) id=some o->∃ Z,hpf (p++[.mpp Φ]) id=some Z/\Z.live=o.live:=fun id o u=>by
    by_cases e:id=p.length
    . subst e;rw [A] at u;cases u;exact ⟨_,A _,rfl⟩
    rw [D _ _ e] at u;exact ⟨o,(D _ _ e).trans u,rfl⟩
   refine ⟨v,_,_,g',rfl,h3 E C hΦ,hx,⟨fun id i=>?_,fun id o u=>?_,fun id Y o Z c c2 d' u Q t M r V=>?_,k.ex,k.tab⟩,z.tr,?_,z.S,z.keep⟩
   . refine k.dom id ?_;by_cases e:id=p.length
     . subst e;rw [A] at i;cases i
     rw [D _ _ e] at i ⊢;exact i
   . by_cases e:id=p.length
     . subst e;rw [A] at u;cases u;exact ⟨_,hl,s⟩
     rw [D _ _ e] at u;exact k.rep id o ((D _ _ e).trans u)
   . obtain ⟨a,q,y⟩:=conv _ _ u
     obtain ⟨b,hb,eb⟩:=conv _ _ Q
     exact k.inj id Y a b c c2 d' q hb (y.trans t) (eb.trans M) r V
   rintro c ⟨id,o,d,u,O,r⟩;obtain ⟨a,q,y⟩:=conv _ _ u
   exact z.live c ⟨id,a,d,q,y.trans O,r⟩
theorem Sh.pc {q y:List Ent} {c:Nat} (h:Sh q y c) (O:(q.all fun e=>AV.isPC e.2.2)=true):(y.all fun e=>AV.isPC e.2.2)=true:=by rw [LL] at O ⊢;intro e he;obtain ⟨X,K,h2,A⟩:=h.back he;rw [<-A];exact O X K
theorem Sh.zero {y es':List Ent} {c:Nat} (h:Sh y es' c):Sh (y.map fun e=>(e.1,0,e.2.2)) es' c:=by refine ⟨?_,h.keys,h.born,h.clk⟩;rw [qmU];exact h.perm
theorem HR.app1 {q:List HObj} (h:HR Z y q) {o o':HObj} (X:HR1 none o o'):HR Z (y++[o]) (q++[o']):=by
 have:=h.set (id:=y.length) (o:=o) (o':=o') (Qs _) (by rw [h.new _ (Qs _)];exact X);have e:qz y y.length o=y++[o]:=by simp [qz]
 have O:qz q y.length o'=q++[o']:=by rw [<-h.len];simp [qz]
 rwa [e,O] at this
theorem Hc {f:FuncId} {xs y:List AV} {hp q:List HObj} (z:HR Z hp q) (u:qj (hpf hp) xs=some (y,[])) (v:HX P f y (shP E)):qB P f xs q fun r u=>r = .mp hp.length/\HR Z (hp++[.mp E 0]) u :=
 TI (z.purA u) v fun e c h=>⟨by rw [z.len],z.app1 ⟨rfl,e,c,rfl,PW.1 h⟩⟩
section
variable {P:Program} {S:YSp} {H:Hd}
def RdG (P:Program) (Y:YF) (x y:AC) (p:List Nat) (m:Nat) (fr:FrL):List AV->List HObj->(AV->List HObj->Prop)->Prop:=fun X h K =>
 hpf h m=some (.lp .ready (m+1))/\X.length=p.length/\AGk (some m) P Y x { fr:=putPs p X fr,hp:=h } (Exit.th (fun s=>hpf s.hp m=some (.lp .ready (m+1)) /\
  AGk (some m) P Y y { fr:=s.fr,hp:=qz s.hp m (.lp .busy (m+1)) } (Jq m K)) (fun _ _=>False))
theorem Nt {q:List HObj} (h:HR Z p q) {s M o} (u:hpf p m=some (.lp s M)) (v:o.self=true):HR Z (qz p m o) (qz q m o):=by have:=(h.lp u).2;exact h.set (qmu (qF u)) (by rw [this];exact KP v)
theorem sL (O:HzOK P S H) {X Yc:CT} {x y:AC} (x4:∀ H,HzOK P S H->∀ K fr hp,X H K fr hp->At2 H.kap P S x K fr hp) (x5:∀ H,HzOK P S H->∀ K fr hp,Yc H K fr hp->At2 H.kap P S y K fr hp) {g:Opd} {fr:FrL} {hp:List HObj}
 (h:qkD (qK g) L X Yc ks H K fr hp):At2 H.kap P S (.rf g L x y ks) K fr hp:=by
 obtain ⟨h,V⟩:=uL h;rw [qi,qC] at h;have D:HzOK P S { H with kap:=some hp.length }:=⟨O.C,O.C0,O.D,O.Y,O.R,O.ok⟩
 obtain ⟨p,T,h2⟩:=O.R _ _ _ _ h (fun n t r j=>∀ Y,Xd Y S->∀ Z u,HR Z t u->RdG P Y x y L hp.length fr n u (fun r1 T=>r1=r/\HR Z j T)) (fun n t kk d=>by
  unfold qkX at d;obtain ⟨N,d⟩:=BV d;obtain ⟨g2,d⟩:=qt d;rw [zM] at d;obtain ⟨R,x0,w,g3,A⟩:=x4 _ D _ _ _ d;cases R with
  | normal =>
    have A:qgh w hp.length (jf w hp.length (.lp .busy (hp.length+1)) fun j=>Yc { H with kap:=some hp.length } (qkW hp.length kk) x0 j):=A;obtain ⟨g5,g6⟩:=BV A;have g7:=qT g6;obtain ⟨e2,x6,j,g8,g9⟩:=x5 _ D _ _ _ g7
    have fin:∀ {r:AV} {o:HObj},o.self=true->(∀ {Q:AV->List HObj->Prop} {s:St},hpf s.hp hp.length=some (.lp .busy (hp.length+1))->Q r (qz s.hp hp.length o)->Jq hp.length Q e2 s) ->
     eq j hp.length (jf j hp.length o fun hp=>kk r hp)->∃ r C,(∀ Y,Xd Y S->∀ Z u,HR Z t u->RdG P Y x y L hp.length fr n u (fun r1 T=>r1=r/\HR Z C T))/\kk r C:=fun {r o} ho m q=>by
     obtain ⟨q1,q2⟩:=pB q;refine ⟨r,qz j hp.length o,fun Y hY Z u z=>⟨(z.lp N).1,qe g2,XE (fun e s ⟨k,i,k3⟩=>?_) (g3 Y hY Z u z)⟩,qT q2⟩;subst k;refine ⟨(k3.lp g5).1,?_⟩;rw [i];exact XE (fun e s ⟨k4,k5,k6⟩=>by subst k4;exact m (k6.lp q1).1 ⟨rfl,Nt k6 q1 ho⟩) (g8 Y hY Z _ (Nt k3 g5 rfl))
    cases e2 with
    | normal=>exact fin (r:=B true) rfl (fun a b=>⟨a,b⟩) g9
    | ret=>exact fin (r:=B false) rfl (fun a b=>⟨a,b⟩) g9
    | exit l=>exact fin (r:=B false) rfl (fun a b=>⟨a,b⟩) g9
    | _=>exact (show False from g9).elim
  | _=>exact (show False from A).elim)
 have fin:∃ e f v,(∀ Z h,HR Z p h->Vu hp.length fr ks (fun R J=>R=e/\J.fr=f/\HR Z v J.hp) h)/\K e f v:=by
  unfold qkU at h2;obtain ⟨o,k,i⟩:=zW h2;have k:hpf p hp.length=some o:=k;split at i
  . have:=qT i;rw [zH] at this;refine ⟨_,_,_,fun Z h z=>?_,this⟩;simp only [Vu,(z.lp k).1];exact ⟨by trivial,by trivial,Nt z k rfl⟩
  . refine ⟨_,_,_,fun Z h z=>?_,qT i⟩;simp only [Vu,(z.lp k).1];exact ⟨by trivial,by trivial,Nt z k rfl⟩
  . refine ⟨_,_,_,fun Z h z=>?_,qT i⟩;simp only [Vu,(z.lp k).1];exact ⟨by trivial,by trivial,Nt z k rfl⟩
  exact i.elim
 obtain ⟨e,f,v,f1,f2⟩:=fin;refine ⟨e,f,v,fun Y hY Z m z w1 N hS=>?_,f2⟩;have hl:=z.len;have x3:=T Z m z (RdG P Y x y L hp.length fr) (fun Z1 n t r j d u x2=>d Y hY Z1 u x2)
 have c:∃ K0,RG P (evF (get fr) g) m (fun n p Q=>hpf p m.length=some (.lp .ready (m.length+1))/\n.length=L.length /\
  ZC (some m.length) P w1 N x { fr:=putPs L n fr,hp:=p } (Exit.th (fun M=>hpf M.hp m.length=some (.lp .ready (m.length+1))/\ZC (some m.length) P w1 N y { fr:=M.fr,hp:=qz M.hp m.length (.lp .busy (m.length+1)) } (Jq m.length Q)) (fun _ _=>False))) K0 /\
  ∀ p,K0 p->Vu m.length fr ks (fun R J=>R=e/\J.fr=f/\HR Z v J.hp) p:=by
  rw [hl];refine ⟨_,fF (fun n t Q ⟨q1,q2,q3⟩=>?_) x3,fun h hh=>f1 Z h hh⟩;refine ⟨q1,q2,zI (fun e s q=>?_) (q3 w1 N hS)⟩;cases e with
  | normal=>exact ⟨q.1,q.2 w1 N hS⟩
  | _=>exact q
 cases hk:H.kap with
 | none=>exact Od (E:=⟨Y,RG P⟩) (Ez Y) c
 | some m0 =>obtain ⟨s0,x7,x1⟩:=V m0 hk;exact Tv (E:=⟨Y,RG P⟩) (Ez Y) (z.lp x1).1 c
theorem MF {κ:Option Nat} {y:World} {j:G} {A:AC} {z s:St} (l:St.le z s) (h:ZC κ P y j A s Q):ZC κ P y j A z Q:=fun N c a w g R O n f r p m b=>by obtain ⟨M,v,u⟩:=l N a w g m;exact h _ _ _ _ _ _ _ _ f (r.mono u.tr) (p.trans u.tr) v fun e t o L q k i x d=>b e t o L q k i (u.trans x) d
theorem oY {X:CT} {x:AC} (g:∀ H,HzOK P S H->∀ K f v,X H K f v->At2 H.kap P S x K f v) (O:HzOK P S H) (h:qhj t X H K f v):At2 H.kap P S x K f v:=by
 unfold qhj at h;rw [zV] at h;split at h
 . rename_i id off _;obtain ⟨D,M,h⟩:=zU h;split at h
   . rename_i C R l;obtain ⟨N,h⟩:=qt h;rw [QI (QR 6),QI qC,Yd] at h;obtain ⟨e,fr',j,d,w⟩:=g H O _ _ _ h;refine ⟨e,fr',j,fun Y L Z J r V m n=>?_,w⟩
     have Q:∀ p∈gones R++[(id,HObj.cells C)],Z p.1=none/\p.1<=v.length/\p.2.self=true:=fun p u=>by
      rcases xm.1 u with k | k
      . simp only [gones,gm] at k;obtain ⟨i,z,rfl⟩:=k;obtain ⟨s,c⟩:=Jh l i z;exact ⟨(r.cel c).2,qmu (qF c),rfl⟩
      simp at k;subst k;exact ⟨(r.cel M).2,qmu (qF M),rfl⟩
     have q:zC (hpf J) D=some (C,R):=by
      have A:qH (hpf v) (.agg D)=some (.agg C,R):=by simp only [qH,l,qm6]
      have E:=r.pur A;simp only [qH,RL] at E;obtain ⟨⟨a,b⟩,k1,T⟩:=E;simp only [qmm,AV.agg.injEq] at T;rw [k1,T.1,T.2]
     exact MF (GX (fr':=f) (by rw [qn];exact (r.cel M).1) q (by simpa using N) fun t => .inl rfl) (d Y L Z _ (r.write Q) V m n)
   exact g H O _ _ _ h
 rcases PF h with ⟨y,ids,u,h⟩ | h
 . rw [GO] at h;obtain ⟨e,fr',j,d,w⟩:=g H O _ _ _ h;refine ⟨e,fr',j,fun Y L Z J r V m n=>?_,w⟩;have Q:∀ p∈gones ids,Z p.1=none/\p.1<=v.length/\p.2.self=true:=fun p o=>by simp only [gones,gm] at o;obtain ⟨i,z,rfl⟩:=o;obtain ⟨s,c⟩:=jT u i z;exact ⟨(r.cel c).2,qmu (qF c),rfl⟩
   have q:=r.pur u;refine MF (DP (fr':=(t,y)::f) (fun t'=>?_) (jT q)) (d Y L Z _ (r.write Q) V m n);by_cases e:t=t'
   . subst e;exact .inr ⟨ids,by rw [q];simp [get],fun i z=>z⟩
   exact .inl (by simp [get,e])
 exact g H O _ _ _ h
theorem aA {cz:CZ}:cz.ok=true->∀ (H:Hd),HzOK P S H->∀ (K:KE) (f:FrL) (u:List HObj),cCZ cz H K f u->At2 H.kap P S cz.ac K f u:=by
 induction cz with
 | skip=>intro _ H ok K f u h;exact ⟨.normal,f,u,GN rfl fun Y O Z V M=>⟨rfl,rfl,M⟩,h⟩
 | rgn gs ks=>intro v H ok K f u h;exact sM ok v h
 | rgnF ins x6 gs ks=>intro v H ok K f u h;exact fG ok v h
 | drwF st ins x6 gs un ks=>intro v H ok K f u h;exact mC ok v h
 | drw gs un ks=>intro v H ok K f u h;exact FF ok v h
 | piv gs un ks p=>intro v H ok K f u h;exact fv ok v h
 | seq x y x1 x2 =>
   intro v H ok K f u h;simp only [CZ.ok,qd] at v;obtain ⟨R,r,j,b,L⟩:=x1 v.1 H ok _ _ _ (show cCZ x H (thE (cCZ y H K) K) f u from h);by_cases hn:R = .normal
   . subst hn;obtain ⟨e2,x0,C,h3,h4⟩:=x2 v.2 H ok _ _ _ (show cCZ y H K r j from L);exact ⟨e2,x0,C,im b h3,h4⟩
   refine ⟨R,r,j,mT hn b,?_⟩;cases R <;> first | exact absurd rfl hn | exact L
 | cond c x y x1 x2 =>
   intro v H ok K f u h;simp only [CZ.ok,qd] at v;have h:pK (qK c) (cCZ x) (cCZ y) H K f u:=h;unfold pK at h;rw [qi] at h;split at h
   . rename_i t ht;cases t with
     | true =>obtain ⟨e,r,j,b,L⟩:=x1 v.1 H ok _ _ _ (show cCZ x H K f u from h);exact ⟨e,r,j,fun Y O Z V M w1 A hS=>Vy ht (fun _=>b Y O Z V M w1 A hS) (fun q=>by cases q),L⟩
     | false =>obtain ⟨e,r,j,b,L⟩:=x2 v.2 H ok _ _ _ (show cCZ y H K f u from h);exact ⟨e,r,j,fun Y O Z V M w1 A hS=>Vy ht (fun q=>by cases q) (fun _=>b Y O Z V M w1 A hS),L⟩
   exact h.elim
 | block id x X =>intro v H ok K f u h;obtain ⟨R,r,j,b,L⟩:=X v H ok _ _ _ (show cCZ x H (pz id K) f u from h);refine ⟨bkE id R,r,j,fun Y O Z V M w1 A hS=>Wj (zI (fun e s ⟨q1,q2,q3⟩=>MN ?_) (b Y O Z V M w1 A hS)),Gd L⟩;subst q1;exact ⟨rfl,q2,q3⟩
 | loop x X =>
   intro v H ok K f u h
   have y0:∀ (n:Nat) (f:FrL) (u:List HObj),uT (fun X=>cCZ x H (thE X K)) n f u->∃ m e T N,IB H.kap P S x.ac m f u e T N/\K e T N:=by
    intro n
    induction n with
    | zero=>intro f u h;exact h.elim
    | succ n x9 =>
      intro f u h;obtain ⟨R,r,j,b,L⟩:=X v H ok _ _ _ (show cCZ x H (thE (uT (fun X=>cCZ x H (thE X K)) n) K) f u from h);by_cases hn:R = .normal
      . subst hn;obtain ⟨m,e2,x0,C,h3,h4⟩:=x9 r j L;exact ⟨m+1,e2,x0,C,⟨r,j,b,h3⟩,h4⟩
      refine ⟨0,R,r,j,⟨hn,b⟩,?_⟩;cases R <;> first | exact absurd rfl hn | exact L
   obtain ⟨m,e,T,N,b,L⟩:=y0 1000000 f u (show eG (cCZ x) H K f u from h);exact ⟨e,T,N,Cb b,L⟩
 | exit id=>intro _ H ok K f u h;exact ⟨.exit id,f,u,GN rfl fun Y O Z V M=>⟨rfl,rfl,M⟩,h⟩
 | ret=>intro _ H ok K f u h;exact ⟨.ret,f,u,GN rfl fun Y O Z V M=>⟨rfl,rfl,M⟩,h⟩
 | label l=>intro _ H ok K f u h;exact ⟨.normal,f,u,GN rfl fun Y O Z V M=>⟨rfl,rfl,M⟩,h⟩
 | scope x X =>
   intro v H ok K f u h;obtain ⟨R,r,j,b,L⟩:=X v H ok _ _ _ (show cCZ x H (ngE K) f u from h);have go:∀ {e:Exit},Go2 H.kap P S x.ac f u e r j->(∀ (Q:Exit->St->Prop) s,Q e s->Exit.ng Q e s)->Go2 H.kap P S (.scope x.ac) f u e r j:=fun {e} b x7 Y O Z V M w1 A hS=>Tw (zI (fun e s ⟨q1,q2,q3⟩=>by subst q1;exact x7 _ _ ⟨rfl,q2,q3⟩) (b Y O Z V M w1 A hS));cases R with
   | goto l=>exact (show False from L).elim
   | _=>exact ⟨_,r,j,go b (fun Q s q=>q),L⟩
 | rf g ps x y ks x1 x2 =>intro v H ok K f u h;simp only [CZ.ok,qd] at v;exact sL ok (fun H ok=>x1 v.1 H ok) (fun H ok=>x2 v.2 H ok) h
 | rm os x ks z D X =>
   intro v H ok K f u h;simp only [CZ.ok,qd] at v;obtain ⟨x4,n,b,L⟩:=wt ok v.1 (X v.2 H ok) (show rmP os x ks z _ (cCZ D) H f u _ from h);split at b
   . rename_i e T N;refine ⟨bkE z.eb e,T,N,fun Y O Z V M=>XE (fun R s1 ⟨o,q1,q2,q3,q4⟩=>?_) (L Y O Z V M),Gd b⟩;simp at q1;subst q1;exact ⟨q2,q3,q4⟩
   exact b.elim
 | rmt os x ks z D tl X x5 =>
   intro v H ok K f u h;simp only [CZ.ok,qd] at v;obtain ⟨x4,n,b,L⟩:=wt ok v.1.1 (X v.1.2 H ok) (show rmP os x ks z _ (cCZ D) H f u _ from h);split at b
   . rename_i o l;rw [QI qC] at b;obtain ⟨o1,h3,h4⟩:=np (x5 v.2 H ok) b;obtain ⟨h5,h6⟩:=CP (x5 v.2 H ok) h3;obtain ⟨R,r,j⟩:=o1;refine ⟨R,r,j,fun Y O Z V M w1 A hS=>?_,h5⟩;refine ji (zI (fun e s ⟨o',q1,q2,q3,q4⟩=>?_) (L Y O Z V M w1 A hS))
     have all:∃ o2:Ou,(o2.1=R/\o2.2.1=r/\HM o2.2.2 j)/\((bkE z.eb o'.1 = .normal/\∃ C,Go2 H.kap P S tl.ac o'.2.1 o'.2.2 o2.1 o2.2.1 C/\HM C o2.2.2)\/(bkE z.eb o'.1≠.normal/\o2=(bkE z.eb o'.1,o'.2))):=by
      rcases sg.1 q1 with k | k
      . subst k;exact ⟨_,⟨rfl,rfl,.refl⟩,h4⟩
      obtain ⟨o2,k1,k2⟩:=h6 o' k;exact ⟨o2,EF k1,k2⟩
     obtain ⟨o2,⟨a1,a2,a3⟩,a4⟩:=all;rcases a4 with ⟨k1,C,k2,k3⟩ | ⟨k1,k2⟩
     . rw [k1] at q2;subst q2;show ZC H.kap P w1 A tl.ac s _;have e0:s=⟨o'.2.1,s.hp⟩:=by rw [<-q3]
       rw [e0];exact zI (fun e s ⟨b1,b2,b3⟩=>⟨b1.trans a1,b2.trans a2,a3 _ _ (k3 _ _ b3)⟩) (k2 Y O Z s.hp q4 w1 A hS)
     have:e=R/\s.fr=r/\HR Z j s.hp:=by rw [k2] at a1 a2 a3;exact ⟨q2.trans a1,q3.trans a2,a3 _ _ q4⟩
     rw [<-q2] at k1;cases e <;> first | exact absurd rfl k1 | exact this
   exact b.elim
 | frz t x X=>intro v H ok K f u h;exact oY (fun H ok=>X v H ok) ok h
 | fil=>intro _ H ok K f u h;exact oQ h
 | acc a ks =>intro v H ok K f u h;obtain ⟨N,b,L⟩:=dV (κ:=H.kap) (P:=P) (S:=S) v h;exact ⟨.normal,_,N,b,L⟩
 | rma os x ks z D tq w X =>intro v H ok K f u h;simp only [CZ.ok,qd] at v;exact sO ok v.1 (X v.2 H ok) h
 | nlr d =>intro _ H ok K f u h;exact ⟨.normal,_,u,fun Y O Z V M w1 A hS=>Vz rfl (IL ⟨rfl,by simp [St.keep,get],M⟩),(show K .normal [(d,.v (.slice none 0 0))] u from h)⟩
 | flt os un ks =>
   intro v H ok K f u h;obtain ⟨Rs,hs,T,N,k1,_,k3,k4⟩:=FV ok (show UO os H (jJ ks (K .normal)) f u [] [] from h);unfold jJ at k4;rw [zH] at k4;have x3:=v;simp only [CZ.ok,vI,qd] at x3;have lc:(VH os).length=os.length:=by rw [GA];simp
   obtain ⟨R,e2⟩:=yD k1;refine ⟨.normal,_,N,fun Y O Z V M w1 A hS=>Vz rfl (Tt (E:=⟨Y,RG P⟩) (un:=un) (Rs:=Rs) (J:=fun i h=>HR Z ((u::hs).getD i []) h) hS x3.1.1 x3.1.2 (oV v k1 k3 O Z) M fun x0 x8 b L=>⟨rfl,?_,?_⟩),k4⟩
   . have h3:get x0=get T:=by rw [R,b];show frA Rs f (VH os).length=_;rw [lc]
     simp only [St.keep,h3]
   have h4:HR Z ((u::hs).getD (VH os).length []) x8:=L;rw [lc,<-e2] at h4;exact h4
 | dead=>intro _ H ok K f u h;exact (show False from h).elim
end
def noS:YSp:=fun _ _ _ _ _=>False
theorem qlb:Xd noY noS:=fun _ _ _ _ _ _ h=>h.elim
theorem XX {f:FrL} {p:List HObj}:∀ {R:RC} {k:List AV->Prop},BW R f p k->∃ X,(∀ Z q,HR Z p q->Up (hpf q) f R X)/\k X
 | [],k,h=>⟨[],fun _ _ _=>trivial,h⟩
 | (t,none)::r,k,h=>by unfold BW at h;rw [zV] at h;obtain ⟨X,j,z⟩:=XX h;exact ⟨get f t::X,fun Z q u=>⟨rfl,j Z q u⟩,z⟩
 | (a,some (agg,s))::r,k,h=>by
   unfold BW at h;rw [zV] at h
   have fin:∀ {v:AV},get f a=v->(match v with
    | .ptr c off=>ldP agg s off c fun x=>BW r f p fun X=>k (x::X)
    | .ref id off=>VC p id fun c=>ldP agg s off c fun x=>BW r f p fun X=>k (x::X)
    | _=>False)->∃ X,(∀ Z q,HR Z p q->Up (hpf q) f ((a,some (agg,s))::r) X)/\k X:=fun {v} e h=>by
    split at h
    . obtain ⟨x,j,z⟩:=VP h;obtain ⟨X,y,o⟩:=XX z;refine ⟨x::X,fun Z q u=>⟨?_,y Z q u⟩,o⟩;rw [e];exact ⟨rfl,j⟩
    . obtain ⟨c,g,h⟩:=zU h;obtain ⟨x,j,z⟩:=VP h;obtain ⟨X,y,o⟩:=XX z;refine ⟨x::X,fun Z q u=>⟨?_,y Z q u⟩,o⟩;rw [e];simp only [ZM,(u.cel g).1];exact ⟨trivial,j⟩
    exact h.elim
   exact fin rfl h
theorem SM {R:RC} {k:AV->List HObj->Prop} (h:qgi R k e f p):∃ r,(∀ Z q,HR Z p q->bm R (fun y u=>y=r/\HR Z p u) e ⟨f,q⟩)/\k r p:=by
 have g:BW R f p (fun X=>qgp X fun x=>k x p)->∃ r,(∀ Z q,HR Z p q->∃ X,Up (hpf q) f R X/\(NQ X=r/\HR Z p q))/\k r p:=fun h=>by obtain ⟨X,z,v⟩:=XX h;rw [lu] at v;exact ⟨_,fun Z q j=>⟨X,z Z q j,rfl,j⟩,v⟩
 cases e with
 | normal=>exact g h
 | ret=>exact g h
 | _=>exact (show False from h).elim
def Kf (P:Program) (c:Cd):Prop:=∃ f t C,P.funcs[c.f]?=some f/\qg P f t=some (CZ.ac C)/\C.ok=true/\cCZ C=c.ct/\jg P f.results.toList=some c.rc/\c.n<=f.ntmps/\jB P c.f=true
def LW (P:Program) (f:FuncId) (w:List AV->List HObj->(AV->List HObj->Prop)->Prop):Prop :=
 ∀ x p k,w x p k->∃ r h,(∀ Z q,HR Z p q->qB P f x q (fun R u=>R=r/\HR Z h u))/\k r h
def CdZ (P:Program) (c:Cd):Prop:=match c.kn with
 | .pure g=>∀ y r,g y=some r->qx P c.f y r
 | .law w=>LW P c.f w
 | .mix g=>Kf P c/\∀ y q,g y=some q->Jp P c.f y q
 | .code=>Kf P c
theorem km {c:Cd} (e:c.kn = .code) (h:Kf P c):CdZ P c:=by unfold CdZ;rw [e];exact h
theorem RF {c:Cd} (e:c.kn = .code) (h:CdZ P c):Kf P c:=by unfold CdZ at h;rw [e] at h;exact h
theorem Oq {c:Cd} (e:c.kn.isCode=true) (h:CdZ P c):Kf P c:=by
 unfold CdZ at h;split at h
 . rename_i E;rw [E] at e;cases e
 . rename_i E;rw [E] at e;cases e
 . exact h.1
 exact h
theorem Oo {c:Cd} {g} (e:c.kn = .mix g) (h:CdZ P c):Kf P c/\∀ y q,g y=some q->Jp P c.f y q:=by unfold CdZ at h;rw [e] at h;exact h
theorem RH {c:Cd} {g:List AV->Option AV} (e:c.kn = .pure g) (h:CdZ P c):∀ y r,g y=some r->qx P c.f y r:=by unfold CdZ at h;rw [e] at h;exact h
theorem Fg {c:Cd} {w} (e:c.kn = .law w) (h:CdZ P c):LW P c.f w:=by unfold CdZ at h;rw [e] at h;exact h
def TBz (P:Program) (T:TBL):Prop:=∀ f,CdZ P (T f)
theorem ai :CdZ P tNo:=fun x p k h=>(show False from h).elim
theorem qm {l r:TBL} (h:TBz P l) (u:TBz P r):TBz P (qO m l r):=fun f=>by
 unfold qO;cases Nat.blt f m with
 | true=>exact h f
 | false=>exact u f
theorem sQ {S:YSp} {H:Hd} (O:HzOK P S H) (a:H.kap=none) {c:Cd} (M:Kf P c) {k:AV->List HObj->Prop} (h:Mi H c x y k) :
 ∃ r p,(∀ Y,Xd Y S->∀ Z q,HR Z y q->YC P ⟨Y,RG P⟩ c.f x q (fun V u=>V=r/\HR Z p u))/\k r p:=by
 obtain ⟨D,K,C,u,d,v,w,n,i,J⟩:=M;rw [fJ] at h;obtain ⟨o,g⟩:=qt h;rw [MB,<-w] at g;obtain ⟨e,f,p,z,m⟩:=aA v H O _ _ _ g;rw [a] at z;obtain ⟨r,l,t⟩:=SM m;refine ⟨r,p,fun Y L Z q N A b j=>RB j u d n (qmT (xr o) i) (Mv (fun X s ⟨Q,R,T⟩=>?_) (show AG P Y _ _ _ from z Y L Z q N)),t⟩;subst Q;have E:s=⟨f,s.hp⟩:=by rw [<-R]
 have:=l Z s.hp T;rw [E];exact this
theorem qkZ {H:Hd} (o:HzOK P noS H) (a:H.kap=none) {c:Cd} (z:Kf P c) {k:AV->List HObj->Prop} (h:Mi H c x v k) :
 ∃ r p,(∀ Z q,HR Z v q->qB P c.f x q (fun R u=>R=r/\HR Z p u))/\k r p:=by
 obtain ⟨r,p,u,j⟩:=sQ o a z h;exact ⟨r,p,fun Z q y=>Fa fun w g=>u noY qlb Z q y w g qem,j⟩
theorem wd {f:FuncId} {Y:List AV} {r:AV} {k:PR->Prop} {K:Prop} (l:∀ Z d,HR Z [] d->qB P f Y d fun R u=>R=r/\HR Z p u) (h:qgg r p k K):(∃ q,Jp P f Y q/\k q)\/K:=by
 have z:=l _ _ HR.nil
 have val:∀ {r:AV},qB P f Y [] (fun R u=>R=r/\HR (fun _=>none) p u)->wo p r (fun y _=>k (.val y)) K->(∃ q,Jp P f Y q/\k q)\/K:=fun {r} z h=>by
  rcases PF h with ⟨y,x,i,h⟩ | h
  . refine .inl ⟨.val y,qM (jK (fun R g ⟨e,E⟩=>?_) z),h⟩;subst e;exact ⟨x,E.pur i⟩
  exact .inr h
 unfold qgg at h;split at h
 . rename_i id off m N;cases off with
   | zero =>
     obtain ⟨a,u,j⟩:=zU (show VC p id _ from h);rcases Rn j with ⟨b,v⟩ | v
     . refine .inl ⟨.made m N a,uZ b (jK (fun R g ⟨e,E⟩=>?_) z),v⟩;subst e;exact ⟨id,rfl,(E.cel u).1⟩
     exact .inr v
   | succ o=>exact val z h
 . rename_i id;obtain ⟨o,u,j⟩:=zW h;split at j
   . rename_i t c;cases c with
     | succ c=>exact .inr j
     | zero =>
       rcases RQ (show FL t _ K from j) with ⟨b,v⟩ | v
       . refine .inl ⟨.mapp _,iZ (fun s w n=>?_) (jK (fun R g ⟨e,E⟩=>?_) z),v⟩
         . refine Sh.pc (PW.1 n) ?_;rw [List.all_map];exact b
         subst e;obtain ⟨s,C,L,M,_⟩:=E.mp (show hpf p id=some (.mp t 0) from u);exact ⟨id,s,C,rfl,L,PW.2 M.zero⟩
       exact .inr v
   exact .inr j
 exact val z h
theorem wg {f:FuncId} {y:List AV} {r:AV} {k:PR->Prop} (c:∀ Z u,HR Z [] u->qB P f y u fun R v=>R=r/\HR Z p v) (h:cS r p k):∃ q,Jp P f y q/\k q:=by
 rcases wd c h with h | h
 . exact h
 exact h.elim
theorem HR.push2 {q:List HObj} (h:HR Z y q) {a b:HObj} (ha:a.self=true) (hb:b.self=true):HR Z (y++[a,b]) (q++[a,b]):=by
 have e:=h.set (id:=y.length) (o:=a) (o':=a) (Qs _) (by rw [h.new _ (Qs _)];exact KP ha);have O:qz y y.length a=y++[a]:=by simp [qz]
 have X:qz q y.length a=q++[a]:=by rw [<-h.len];simp [qz]
 rw [O,X] at e;have h2:=e.set (id:=(y++[a]).length) (o:=b) (o':=b) (Qs _) (by rw [e.new _ (Qs _)];exact KP hb);have K:qz (y++[a]) (y++[a]).length b=y++[a,b]:=by simp [qz]
 have A:qz (q++[a]) (y++[a]).length b=q++[a,b]:=by rw [<-e.len];simp [qz]
 rwa [K,A] at h2
theorem Pg (T:TBL):∀ n Y,(hdY T n Y).kap=none
 | 0,_=>rfl
 | n+1,_=>rfl
theorem AQ {S:YSp} {t H:Hd} (w:HzOK P noS t) (d:t.kap=none) (O:HzOK P S H) (l:H.kap=none) {c:Cd} (s:Kf P c) {xs:List AV} {hp:List HObj} {k:AV->List HObj->Prop} (h:Ll t H c xs hp k) :
 ∃ r u,(∀ Y,Xd Y S->∀ Z v,HR Z hp v->YC P ⟨Y,RG P⟩ c.f xs v (fun R j=>R=r/\HR Z u j))/\k r u:=by
 have C:∀ {f:FuncId} {xs:List AV} {hp u:List HObj} {r:AV},(∀ Z v,HR Z hp v->qB P f xs v (fun R j=>R=r/\HR Z u j))->∀ Y,Xd Y S->∀ Z v,HR Z hp v->YC P ⟨Y,RG P⟩ f xs v (fun R j=>R=r/\HR Z u j) :=
  fun h Y T Z v M=>Gj (h Z v M)
 obtain ⟨g,md,V,D,Q,kn⟩:=c;unfold Ll at h;cases md with
 | false=>exact sQ O l s h
 | true =>
   rcases QM (show WN hp xs _ _ from h) with ⟨J,ids,y,h⟩ | h
   . split at h
     . obtain ⟨X,L,i,x⟩:=qkZ w d s h;rcases wd i x with ⟨q,j,o⟩ | b
       rotate_left
       . exact sQ O l s b
       cases q with
       | val r =>refine ⟨r,hp,C fun Z v z=>qh (z.purA y) j ?_,o⟩;cases r.scalar <;> exact ⟨rfl,z⟩
       | made m N a =>refine ⟨.ms hp.length 0 m N,_,C fun Z v z=>Hb (z.purA y) j ?_,zP (show JA _ _ _ from o)⟩;refine ⟨by rw [z.len],?_⟩;have:=z.write (ws:=[(hp.length,.cells a)]) (fun p u=>by simp at u;subst u;exact ⟨z.new _ (Qs _),Qs _,rfl⟩);rw [<-z.len] at this ⊢;exact this
       | mapp E =>
         have o:=zP (show JA hp (.mp E 0) (fun n hp=>k (.mp n) hp) from o);have e:qf hp [(hp.length,.mp E 0)]=hp++[.mp E 0]:=by simp [qf,qz]
         rw [e] at o;exact ⟨.mp hp.length,_,C fun Z v z=>Hc z y j,o⟩
     exact sQ O l s h
   exact sQ O l s h
theorem MX {T:TBL} (J:TBz P T) {S:YSp} {t H:Hd} (O:HzOK P noS t) (b:t.kap=none) (X:HzOK P S H) (V:H.kap=none) {f:FuncId} {xs:List AV} {hp:List HObj} {k:AV->List HObj->Prop} (h:IZ T t H f xs hp k) :
 ∃ r u,(∀ Y,Xd Y S->∀ Z v,HR Z hp v->YC P ⟨Y,RG P⟩ f xs v (fun R o=>R=r/\HR Z u o))/\k r u:=by
 have C:∀ {f:FuncId} {xs:List AV} {hp u:List HObj} {r:AV},(∀ Z v,HR Z hp v->qB P f xs v (fun R o=>R=r/\HR Z u o))->∀ Y,Xd Y S->∀ Z v,HR Z hp v->YC P ⟨Y,RG P⟩ f xs v (fun R o=>R=r/\HR Z u o) :=
  fun h Y hY Z v M=>Gj (h Z v M)
 unfold IZ at h;have s:=J f;generalize T f=c at h s;obtain ⟨g,md,N,Q,a,kn⟩:=c;obtain ⟨L,d⟩:=qt h;clear h;have h:=d;clear d;have L:=qe L;subst L;cases kn with
 | law w =>obtain ⟨r,u,o,d⟩:=Fg rfl s _ _ _ h;exact ⟨r,u,C o,d⟩
 | pure w =>
   have h:Bc w xs hp k:=h;unfold Bc at h;rcases QM h with ⟨A,ids,j,h⟩ | h
   . split at h
     . rename_i r M;rw [QR,Yd] at h;refine ⟨r,_,C fun Z v z=>qh (z.purA j) (RH rfl s _ _ M) ⟨rfl,?_⟩,h⟩;cases r.scalar with
       | true=>exact z
       | false=>exact z.write (z.gones j)
     exact h.elim
   exact h.elim
 | mix w =>
   obtain ⟨i,x⟩:=Oo rfl s;have h:qiC w t H ⟨g,md,N,Q,a,.code⟩ xs hp k:=h;unfold qiC at h;have y:=fun h=>AQ (c:=⟨g,md,N,Q,a,.code⟩) O b X V i (xs:=xs) (hp:=hp) (k:=k) h;rcases QM h with ⟨A,ids,j,h⟩ | h
   . split at h
     . split at h
       . rename_i q v;have v:=x _ _ v;cases q with
         | val r =>refine ⟨r,hp,C fun Z l z=>qh (z.purA j) v ?_,h⟩;cases r.scalar <;> exact ⟨rfl,z⟩
         | made m K D =>refine ⟨.ms hp.length 0 m K,_,C fun Z l z=>Hb (z.purA j) v ?_,zP (show JA _ _ _ from h)⟩;refine ⟨by rw [z.len],?_⟩;have:=z.write (ws:=[(hp.length,.cells D)]) (fun p u=>by simp at u;subst u;exact ⟨z.new _ (Qs _),Qs _,rfl⟩);rw [<-z.len] at this ⊢;exact this
         | mapp E =>
           have h:=zP (show JA hp (.mp E 0) (fun n hp=>k (.mp n) hp) from h);have e:qf hp [(hp.length,.mp E 0)]=hp++[.mp E 0]:=by simp [qf,qz]
           rw [e] at h;exact ⟨.mp hp.length,_,C fun Z l z=>Hc z j v,h⟩
       exact y h
     exact y h
   exact y h
 | code=>exact AQ (c:=⟨g,md,N,Q,a,.code⟩) O b X V (RF rfl s) h
def qli (Y:YT) (S:YSp):Prop:=∀ id x p k,Y id x p k->∃ r h,S id x p r h/\k r h
theorem qf1 {P:Program} {T:TBL} (m:TBz P T):∀ n (Y:YT) (S:YSp),qli Y S->HzOK P S (hdY T n Y)
 | 0,_,_,_=>⟨fun _ _ _ _ h=>h.elim,fun _ _ _ _ h=>h.elim,fun _ _ _ h=>h.elim,fun _ _ _ _ h=>h.elim,fun _ _ _ _ h=>h.elim,fun _ _ h=>h.elim⟩
 | n+1,Y,S,M=>by
   have i:HzOK P noS (hdY T n Me):=qf1 m n Me noS fun _ _ _ _ h=>h.elim;have ih:=qf1 m n Y S M;have o:=Pg T n Me;have hk:=Pg T n Y;have A:∀ {c:Cd} {l:List AV} {k:PR->Prop},Kf P c->Mi (hdY T n Me) c l [] (fun r z=>cS r z k)->∃ q,Jp P c.f l q/\k q:=fun {c l k} y h=>by obtain ⟨r,u,t,s⟩:=qkZ i o y h;exact wg t s
   refine ⟨fun f x z k h=>MX m i o ih hk h,fun f x z k h=>?_,fun f l k h=>?_,M,fun v z G k h Gq hG=>?_,fun f k h=>?_⟩
   . obtain ⟨r,u,t,s⟩:=MX m i o i o h;exact ⟨r,u,fun Z O hr=>Fa fun w1 g1=>t noY qlb Z O hr w1 g1 qem,s⟩
   . have h:Mz T (hdY T n Me) f l k:=h;unfold Mz at h;have y:=m f;generalize T f=c at h y;obtain ⟨g,md,nt,rc,E,kn⟩:=c;obtain ⟨d,s⟩:=qt h;clear h;have h:=s;clear s;have d:=qe d;subst d;cases kn with
     | pure w =>
       have h:(match w l with
        | some r=>faP 6 r fun r=>k (.val r)
        | none=>False):=h
       split at h
       . rename_i r hr;rw [QR] at h;exact ⟨.val r,RH rfl y _ _ hr,h⟩
       exact h.elim
     | law w =>obtain ⟨r,u,t,s⟩:=Fg rfl y _ _ _ h;exact wg t s
     | mix w =>
       obtain ⟨x3,x4⟩:=Oo rfl y
       have h:(match w l with
        | some q=>k q
        | none=>Mi (hdY T n Me) ⟨g,md,nt,rc,E,.code⟩ l [] fun r z=>cS r z k):=h
       split at h
       . rename_i q O;exact ⟨q,x4 _ _ O,h⟩
       exact A (c:=⟨g,md,nt,rc,E,.code⟩) x3 h
     | code=>exact A (RF rfl y) h
   . have h:rfP T (hdY T n) v z G k:=h;unfold rfP at h;split at h
     . rename_i f C _;have y:=m f;generalize T f=c at h y;obtain ⟨g,md,nt,rc,E,kn⟩:=c;obtain ⟨d,V⟩:=qt h;have d:=qe d;subst d;obtain ⟨L,q3⟩:=qt V;obtain ⟨fn,ts,cz,k1,k2,Q,k3,k4,k5,R⟩:=Oq L y;obtain ⟨t,q4⟩:=qt q3;simp only at k1 k2 k3 k4 k5 R;rw [qC,zM,MB,<-k3] at q4
       have x8:HzOK P (fun id x p r j=>id=z.length/\Gq x p r j) (hdY T n fun id x u kk=>okP (Nat.beq id z.length) (G x u kk)) :=
        qf1 m n _ _ fun id x p kk N=>by obtain ⟨e,N⟩:=qt N;obtain ⟨r,j,q1,V⟩:=hG _ _ _ N;exact ⟨r,j,⟨qe e,q1⟩,V⟩
       obtain ⟨e,x0,u,g3,g4⟩:=aA Q _ x8 _ _ _ q4;rw [Pg] at g3;obtain ⟨r,g5,g6⟩:=SM g4;refine ⟨u,fun Z O hz G' x1=>⟨g,C,rfl,R,fun w1 g1 hY=>?_⟩,g6⟩;have hl:=hz.len;have x2:Xd (fun id x p K=>id=O.length/\G' x p K) (fun id x p r j=>id=z.length/\Gq x p r j):=fun Z1 id x p r j ⟨J,e2⟩ x5 x6=>⟨J.trans hl.symm,x1 Z1 _ _ _ _ e2 x5 x6⟩;have x7:=hz.push2 (a := .lp .ready (z.length+1)) (b := .gone) rfl rfl;have:=(show AG P _ _ _ _ from g3 _ x2 Z _ x7);rw [<-hl] at this;refine RB (fun id x p K ⟨e,N⟩=>by subst e;exact hY _ _ _ N) k1 k2 k4 (qmT (by simp) (qmT (xr t) k5)) (Mv (fun J s1 ⟨q1,V,q3⟩=>?_) this);subst q1;have e0:s1=⟨x0,s1.hp⟩:=by rw [<-V]
       have h9:=g5 Z s1.hp q3;rw [e0];cases J with
       | normal=>obtain ⟨x,X,D⟩:=h9;exact ⟨x,X,D.2⟩
       | ret=>obtain ⟨x,X,D⟩:=h9;exact ⟨x,X,D.2⟩
       | _=>exact h9.elim
     exact h.elim
   have h:okP (Nat.beq (T f).f f&&(T f).kn.isCode) k:=h;obtain ⟨L,h⟩:=qt h;simp only [qd] at L;obtain ⟨fn,ts,cz,k1,k2,Q,k3,k4,k5,R⟩:=Oq L.2 (m f);rw [qe L.1] at R;exact ⟨R,h⟩
section
variable {H:Hd} {K:KE} {c:K1} {fr:FrL} {hp:HL} {d:Nat}
theorem qko {x}:qG (.mv d x) H c fr hp=opZ x fr fun a=>c ((d,a)::fr) hp:=rfl
theorem cd {b x y}:qG (.pick d b x y) H c fr hp=opZ b fr fun v=>opZ x fr fun a=>opZ y fr fun A=>BO v a A fun r=>c ((d,r)::fr) hp:=rfl
theorem qeW {o x y}:qG (.bin d o x y) H c fr hp=opZ x fr fun a=>opZ y fr fun b=>NY o a b fun r=>c ((d,r)::fr) hp:=rfl
theorem gu {x}:qG (.un d .not x) H c fr hp=opZ x fr fun v=>qge v fun r=>c ((d,r)::fr) hp:=rfl
theorem gq {x}:qG (.un d .neg x) H c fr hp=opZ x fr fun v=>qgd v fun r=>c ((d,r)::fr) hp:=rfl
theorem qe7 {x i}:qG (.ext d x i) H c fr hp=opZ x fr fun v=>qfY v i fun r=>c ((d,r)::fr) hp:=rfl
theorem qkn {a s x}:qG (.ld d a s x) H c fr hp=opZ x fr fun v=>ldV a s v hp fun r=>c ((d,r)::fr) hp:=rfl
theorem qkq {s a x}:qG (.st s a x) H c fr hp=opZ a fr fun p=>opZ x fr fun v=>stV s p v hp fun hp=>c fr hp:=rfl
theorem qkl {x o}:qG (.fa d x o) H c fr hp=opZ x fr fun v=>faV o v fun r=>c ((d,r)::fr) hp:=rfl
theorem qkm {s x i}:qG (.ia d s x i) H c fr hp=opZ x fr fun v=>opZ i fr fun j=>iaV s v j fun r=>c ((d,r)::fr) hp:=rfl
theorem qe9 {l s x i}:qG (.iaa d l s x i) H c fr hp=opZ x fr fun v=>opZ i fr fun j=>qf2 l s v j fun r=>c ((d,r)::fr) hp:=rfl
theorem qfe {x}:qG (.len d x) H c fr hp=opZ x fr fun v=>qf7 v fun r=>c ((d,r)::fr) hp:=rfl
theorem qe3 {k x}:qG (.cnv d k x) H c fr hp=opZ x fr fun v=>qfS k v fun r=>c ((d,r)::fr) hp:=rfl
theorem qkk {z}:qG (.al d z) H c fr hp=JA hp (.cells z) fun n hp=>c ((d,.ref n 0)::fr) hp:=rfl
theorem qeU {s t x y}:qG (.app d s t x y) H c fr hp=opZ x fr fun a=>opZ y fr fun b=>qfz s t a b hp fun r hp=>c ((d,r)::fr) hp:=rfl
theorem qeZ {n s z p}:qG (.bsl d n s z p) H c fr hp=jW (p.map (·.2)) fr fun x=>qfP n s z p x hp fun r hp=>c ((d,r)::fr) hp:=rfl
theorem qeX {z p}:qG (.bld d z p) H c fr hp=jW (p.map (·.2.2)) fr fun x=>qfO z p x fun r=>c ((d,r)::fr) hp:=rfl
theorem qe8 {a s o x}:qG (.fld d a s o x) H c fr hp=opZ x fr fun v=>qfZ a s o v fun r=>c ((d,r)::fr) hp:=rfl
theorem qfb {l a s x i}:qG (.idx d l a s x i) H c fr hp=opZ x fr fun v=>opZ i fr fun j=>qf5 l a s v j fun r=>c ((d,r)::fr) hp:=rfl
theorem qfm {s x L i M}:qG (.slc d s x L i M) H c fr hp=opZ x fr fun a=>Eg L fr fun l=>Eg i fr fun h=>Eg M fr fun m=>fS s a l h m fun r=>c ((d,r)::fr) hp:=rfl
theorem qkp {m x y}:qG (.mx d m x y) H c fr hp=opZ x fr fun a=>opZ y fr fun b=>mxP m a b fun r=>c ((d,r)::fr) hp:=rfl
theorem cc {x}:qG (.nilc d x) H c fr hp=opZ x fr fun a=>cR a fun r=>c ((d,r)::fr) hp:=rfl
theorem qfi {f u b}:qG (.mkf d f u b) H c fr hp=jW u fr fun u=>jW b fr fun b=>c ((d,.fn f u b)::fr) hp:=rfl
theorem qeY {s x}:qG (.box d s x) H c fr hp=opZ x fr fun a=>cx s a hp fun r hp=>c ((d,r)::fr) hp:=rfl
theorem qfk {s y z n m}:qG (.mks d s y z n m) H c fr hp=opZ n fr fun a=>opZ m fr fun b=>qgc s y z a b hp fun r hp=>c ((d,r)::fr) hp:=rfl
theorem qe6 {n k x y}:qG (.eqk d n k x y) H c fr hp=opZ x fr fun a=>opZ y fr fun b=>qfX n k a b fun r=>c ((d,r)::fr) hp:=rfl
theorem qfh {x}:qG (.lns d x) H c fr hp=opZ x fr fun v=>qga v fun r=>c ((d,r)::fr) hp:=rfl
theorem qe1 {x}:qG (.cap d x) H c fr hp=opZ x fr fun v=>cE v fun r=>c ((d,r)::fr) hp:=rfl
theorem qff {s z o m k}:qG (.lku d s z o m k) H c fr hp=opZ m fr fun x=>opZ k fr fun y=>qf8 s z o x y hp fun r=>c ((d,r)::fr) hp:=rfl
theorem qfc {s m k v}:qG (.ins s m k v) H c fr hp=opZ m fr fun x=>opZ k fr fun y=>opZ v fr fun a=>Is s x y a hp fun hp=>c fr hp:=rfl
theorem qe5 {s m k}:qG (.del s m k) H c fr hp=opZ m fr fun x=>opZ k fr fun y=>qfV s x y hp fun hp=>c fr hp:=rfl
theorem qfg {m}:qG (.lnm d m) H c fr hp=opZ m fr fun x=>qf9 x hp fun r=>c ((d,r)::fr) hp:=rfl
theorem qfj:qG (.mkm d) H c fr hp=JA hp (.mp [] 0) fun n hp=>c ((d,.mp n)::fr) hp:=rfl
theorem qfa {x i}:qG (.ids d x i) H c fr hp=opZ x fr fun a=>opZ i fr fun b=>qf4 a b hp fun r hp=>c ((d,r)::fr) hp:=rfl
theorem qfo {x L i}:qG (.sls d x L i) H c fr hp=opZ x fr fun a=>Eg L fr fun l=>Eg i fr fun h=>qgn a l h hp fun r hp=>c ((d,r)::fr) hp:=rfl
theorem qe4 {s x y}:qG (.cpy d s x y) H c fr hp=opZ x fr fun a=>opZ y fr fun b=>qfT s a b hp fun r hp=>c ((d,r)::fr) hp:=rfl
theorem qe2 {s z x}:qG (.clr s z x) H c fr hp=opZ x fr fun a=>qfR s z a hp fun hp=>c fr hp:=rfl
theorem rZ {s y z x k}:qG (.appz d s y z x k) H c fr hp=opZ x fr fun a=>opZ k fr fun b=>qfB s y z a b hp fun r hp=>c ((d,r)::fr) hp:=rfl
theorem qfn {s L x o i M}:qG (.slp d s L x o i M) H c fr hp=opZ x fr fun a=>Eg o fr fun l=>Eg i fr fun h=>Eg M fr fun m=>qgm s L a l h m hp fun r hp=>c ((d,r)::fr) hp:=rfl
theorem qeV {x}:qG (.b2s d x) H c fr hp=opZ x fr fun a=>qfD a hp fun r hp=>c ((d,r)::fr) hp:=rfl
theorem qfl {x}:qG (.s2b d x) H c fr hp=opZ x fr fun a=>qgk a hp fun r hp=>c ((d,r)::fr) hp:=rfl
theorem rY {t x y}:qG (.apps d t x y) H c fr hp=opZ x fr fun a=>opZ y fr fun b=>qfA t a b hp fun r hp=>c ((d,r)::fr) hp:=rfl
theorem ca {f a}:qG (.call d f a) H c fr hp=jW a fr fun x=>H.C f x hp fun r hp=>c ((d,r)::fr) hp:=rfl
theorem gh {x a}:qG (.callv d x a) H c fr hp=opZ x fr fun v=>jW a fr fun X=>Hg v X H hp fun r hp=>c ((d,r)::fr) hp:=rfl
theorem qfd {b k x}:qG (.isn d b k x) H c fr hp=opZ x fr fun v=>cN b k v hp fun r=>c ((d,r)::fr) hp:=rfl
theorem qe0 {n s z p}:cXF (.bsm d n s z p) H c fr hp=jW (p.map (·.2)) fr fun x=>cB n s z p x hp fun r hp=>c ((d,r)::fr) hp:=rfl
theorem qfp {s z m k D v}:cXF (.ups d s z m k D v) H c fr hp=opZ m fr fun x=>opZ k fr fun y=>opZ v fr fun a=>Is s x y a hp fun hp=>c fr hp:=rfl
theorem qdV:NY .add=qfE:=rfl
theorem qd8:NY .sub=qfM:=rfl
theorem qd2:NY .mul=qfK:=rfl
theorem qd1:NY .lss=qfJ:=rfl
theorem qdZ:NY .gtr=qfH:=rfl
theorem qd0:NY .leq=qfI:=rfl
theorem qdY:NY .geq=qfG:=rfl
theorem qdX:NY .eql=qfF:=rfl
theorem qd3:NY .neq=qfL:=rfl
theorem qd4:NY .quo=Pb .quo:=rfl
theorem qd5:NY .rem=Pb .rem:=rfl
theorem qdW:NY .and=Pb .and:=rfl
theorem qka:NY .or=Pb .or:=rfl
theorem qd9:NY .xor=Pb .xor:=rfl
theorem If:NY .andNot=Pb .andNot:=rfl
theorem qd6:NY .shl=Pb .shl:=rfl
theorem qd7:NY .shr=Pb .shr:=rfl
theorem qmi {k}:opZ (.t n) fr k=AF fr n k:=rfl
theorem qmh {x:AV} {k}:opZ (.k x) fr k=k x:=rfl
theorem qeh {k}:jW [] fr k=k []:=rfl
theorem rL {o O k}:jW (o::O) fr k=opZ o fr fun a=>jW O fr fun l=>k (a::l):=rfl
theorem rM {k}:Eg none fr k=k none:=rfl
theorem rN {x k}:Eg (some x) fr k=opZ x fr fun a=>k (some a):=rfl
theorem rC {j:Nat} {x:AV} {k}:AF ((j,x)::r) t k=if j=t then k x else AF r t k:=by
 by_cases h:j=t
 . rw [if_pos h,Vh,get,if_pos h]
 rw [if_neg h,Vh,Vh,get,if_neg h]
theorem rD {j:Nat} {x:AV} {k}:NM ((j,x)::r) t k=if j=t then k x else NM r t k:=by
 by_cases h:j=t
 . rw [if_pos h,zV,get,if_pos h]
 rw [if_neg h,zV,zV,get,if_neg h]
theorem qed {k}:YE [] fr k=k []:=rfl
theorem rI {t s k}:YE (t::s) fr k=NM fr t fun x=>YE s fr fun l=>k ((t,x)::l):=rfl
theorem qmg {k}:jJ k c fr hp=YE k fr fun fr=>c fr hp:=rfl
theorem qdU {l:FrL}:[]++l=l:=rfl
theorem rA {a} {l m:FrL}:(a::l)++m=a::(l++m):=rfl
theorem qek {i D g k}:IY i D g k=fun H K fr hp=>Io i (box (DO i fun kn hp=>cXJ g D H (jJ k (K .normal)) (kn++fr) hp)) fr hp:=rfl
theorem qej {s i D g k}:IU s i D g k=fun H K fr hp=>Io i (box (DO i fun kn hp=>TV s g D H (jJ k (K .normal)) (kn++fr) hp)) fr hp:=rfl
theorem qea {J:UM []}:Io [] J fr hp=(show HL->Prop from J) hp:=rfl
theorem rB {t T} {J:UM (t::T)}:Io (t::T) J fr hp=LR t fr fun x p=>Io T ((show AV->UM T from J) x) p hp:=rfl
theorem qee {F}:DO [] F=F []:=rfl
theorem rJ {d D F}:DO (d::D) F=fun x=>DO D fun kn=>F ((d,x)::kn):=rfl
theorem qei {J:UM []}:IE [] J fr hp=(show HL->Prop from J) hp:=rfl
theorem rO {d D} {J:UM (d::D)}:IE (d::D) J fr hp=AF fr d fun x=>IE D ((show AV->UM D from J) x) fr hp:=rfl
theorem qeg {J:UM []}:IF [] J hp=(show HL->Prop from J) hp:=rfl
theorem rK {d D} {J:UM (d::D)}:IF (d::D) J hp=IF D ((show AV->UM D from J) (.v undef)) hp:=rfl
theorem qec {D}:cXJ [] D H c fr hp=c fr hp:=rfl
theorem rG {o g s D}:cXJ (⟨none,o⟩::g) (s::D) H c fr hp=LX o H (cXJ g D H c) fr hp:=rfl
theorem rH {j b o g s D}:cXJ (⟨some (j,b),o⟩::g) (s::D) H c fr hp=AZ (box (DO s fun kn hp=>cXJ g D H c (kn++fr) hp)) fun J=>AF fr j fun v=>gdK v b (LX o H (fun f h=>IE s J f h) fr hp) (IF s J hp):=rfl
theorem qeb {s D}:TV s [] D H c fr hp=c fr hp:=rfl
theorem rE {s o g u D}:TV s (⟨none,o⟩::g) (u::D) H c fr hp=Mb s o H (TV s g D H c) fr hp:=rfl
theorem rF {t j b o g s D}:TV t (⟨some (j,b),o⟩::g) (s::D) H c fr hp=AZ (box (DO s fun kn hp=>TV t g D H c (kn++fr) hp)) fun J=>AF fr j fun v=>gdK v b (Mb t o H (fun f h=>IE s J f h) fr hp) (IF s J hp):=rfl
theorem qel:LX [] H c fr hp=c fr hp:=rfl
theorem rP {x X}:LX (x::X) H c fr hp=cXF x H (LX X H c) fr hp:=rfl
theorem qkb {o}:cXF (.op o) H c fr hp=qG o H c fr hp:=rfl
theorem qeO {s}:Mb s [] H c fr hp=c fr hp:=rfl
theorem rV {s x X}:Mb s (x::X) H c fr hp=e0X s x H (Mb s X H c) fr hp:=rfl
theorem rU {d f a}:e0X false (.op (.call d f a)) H c fr hp=jW a fr fun x=>e0V H f x hp fun r hp=>c ((d,r)::fr) hp:=rfl
theorem rT {d f a}:e0X true (.op (.call d f a)) H c fr hp=jW a fr fun x=>e1V H f x hp fun r=>c ((d,r)::fr) hp:=rfl
theorem qes {d n s z p}:e0X false (.op (.bsl d n s z p)) H c fr hp=qG (.bsl d n s z p) H c fr hp:=rfl
theorem qex {d x a}:e0X false (.op (.callv d x a)) H c fr hp=opZ x fr fun v=>jW a fr fun X=>e0W v X H hp fun r hp=>c ((d,r)::fr) hp:=rfl
theorem qey {d x a}:e0X true (.op (.callv d x a)) H c fr hp=opZ x fr fun v=>jW a fr fun X=>e1W v X H hp fun r=>c ((d,r)::fr) hp:=rfl
theorem rS {d n s z p}:e0X true (.op (.bsl d n s z p)) H c fr hp=jW (p.map (·.2)) fr fun x=>Tz n s z p x hp fun r=>c ((d,r)::fr) hp:=rfl
theorem qeT {t d s z m k D v}:e0X t (.ups d s z m k D v) H c fr hp=cXF (.ups d s z m k D v) H c fr hp:=rfl
theorem qkg {s x X}:e0X s (.op (.mv x X)) H c fr hp=qG (.mv x X) H c fr hp:=rfl
theorem rX {s x X u v}:e0X s (.op (.pick x X u v)) H c fr hp=qG (.pick x X u v) H c fr hp:=rfl
theorem qep {s x X u v}:e0X s (.op (.bin x X u v)) H c fr hp=qG (.bin x X u v) H c fr hp:=rfl
theorem qkj {s x X u}:e0X s (.op (.un x X u)) H c fr hp=qG (.un x X u) H c fr hp:=rfl
theorem qeB {s x X u}:e0X s (.op (.ext x X u)) H c fr hp=qG (.ext x X u) H c fr hp:=rfl
theorem qkf {s x X u v}:e0X s (.op (.ld x X u v)) H c fr hp=qG (.ld x X u v) H c fr hp:=rfl
theorem qki {s x X u}:e0X s (.op (.st x X u)) H c fr hp=qG (.st x X u) H c fr hp:=rfl
theorem qer {s x X u}:e0X s (.op (.box x X u)) H c fr hp=qG (.box x X u) H c fr hp:=rfl
theorem qkc {s x X}:e0X s (.op (.al x X)) H c fr hp=qG (.al x X) H c fr hp:=rfl
theorem qeq {s x X u}:e0X s (.op (.bld x X u)) H c fr hp=qG (.bld x X u) H c fr hp:=rfl
theorem qkd {s x X u}:e0X s (.op (.fa x X u)) H c fr hp=qG (.fa x X u) H c fr hp:=rfl
theorem qeC {s x X u v j}:e0X s (.op (.fld x X u v j)) H c fr hp=qG (.fld x X u v j) H c fr hp:=rfl
theorem qke {s x X u v}:e0X s (.op (.ia x X u v)) H c fr hp=qG (.ia x X u v) H c fr hp:=rfl
theorem qeD {s x X u v j}:e0X s (.op (.iaa x X u v j)) H c fr hp=qG (.iaa x X u v j) H c fr hp:=rfl
theorem qeF {s x X u v j z}:e0X s (.op (.idx x X u v j z)) H c fr hp=qG (.idx x X u v j z) H c fr hp:=rfl
theorem qeE {s x X u}:e0X s (.op (.ids x X u)) H c fr hp=qG (.ids x X u) H c fr hp:=rfl
theorem qeH {s x X}:e0X s (.op (.len x X)) H c fr hp=qG (.len x X) H c fr hp:=rfl
theorem qeK {s x X}:e0X s (.op (.lns x X)) H c fr hp=qG (.lns x X) H c fr hp:=rfl
theorem qeJ {s x X}:e0X s (.op (.lnm x X)) H c fr hp=qG (.lnm x X) H c fr hp:=rfl
theorem qeQ {s x X u v j z}:e0X s (.op (.slc x X u v j z)) H c fr hp=qG (.slc x X u v j z) H c fr hp:=rfl
theorem qeS {s x X u v}:e0X s (.op (.sls x X u v)) H c fr hp=qG (.sls x X u v) H c fr hp:=rfl
theorem qen {s x X u v j}:e0X s (.op (.app x X u v j)) H c fr hp=qG (.app x X u v j) H c fr hp:=rfl
theorem qew {s x X u v}:e0X s (.op (.cpy x X u v)) H c fr hp=qG (.cpy x X u v) H c fr hp:=rfl
theorem qeN {s x X u v j z}:e0X s (.op (.mks x X u v j z)) H c fr hp=qG (.mks x X u v j z) H c fr hp:=rfl
theorem qev {s x X u}:e0X s (.op (.cnv x X u)) H c fr hp=qG (.cnv x X u) H c fr hp:=rfl
theorem qkh {s x X u v}:e0X s (.op (.mx x X u v)) H c fr hp=qG (.mx x X u v) H c fr hp:=rfl
theorem rW {s x X}:e0X s (.op (.nilc x X)) H c fr hp=qG (.nilc x X) H c fr hp:=rfl
theorem qeL {s x X u v}:e0X s (.op (.mkf x X u v)) H c fr hp=qG (.mkf x X u v) H c fr hp:=rfl
theorem qet {s x X}:e0X s (.op (.cap x X)) H c fr hp=qG (.cap x X) H c fr hp:=rfl
theorem qeu {s x X u}:e0X s (.op (.clr x X u)) H c fr hp=qG (.clr x X u) H c fr hp:=rfl
theorem rR {s x X u v j z}:e0X s (.op (.appz x X u v j z)) H c fr hp=qG (.appz x X u v j z) H c fr hp:=rfl
theorem qeR {s x X u v j z y}:e0X s (.op (.slp x X u v j z y)) H c fr hp=qG (.slp x X u v j z y) H c fr hp:=rfl
theorem qeM {s x}:e0X s (.op (.mkm x)) H c fr hp=qG (.mkm x) H c fr hp:=rfl
theorem qeG {s x X u v}:e0X s (.op (.ins x X u v)) H c fr hp=qG (.ins x X u v) H c fr hp:=rfl
theorem qeI {s x X u v j z}:e0X s (.op (.lku x X u v j z)) H c fr hp=qG (.lku x X u v j z) H c fr hp:=rfl
theorem qez {s x X u}:e0X s (.op (.del x X u)) H c fr hp=qG (.del x X u) H c fr hp:=rfl
theorem qeA {s x X u v j}:e0X s (.op (.eqk x X u v j)) H c fr hp=qG (.eqk x X u v j) H c fr hp:=rfl
theorem qeo {s x X}:e0X s (.op (.b2s x X)) H c fr hp=qG (.b2s x X) H c fr hp:=rfl
theorem qeP {s x X}:e0X s (.op (.s2b x X)) H c fr hp=qG (.s2b x X) H c fr hp:=rfl
theorem rQ {s x X u v}:e0X s (.op (.apps x X u v)) H c fr hp=qG (.apps x X u v) H c fr hp:=rfl
end
def T2 {α:Type} (x c:α):Prop:=True
inductive NF {α:Type} (x:α):α->Type where
 | mk (c:α) (t:T2 x c):NF x c
abbrev Lk {α:Type} (x c:α):Prop:=x=c->T2 x c
def qkJ (l:TypeId->Option (List Leaf)):List Field->Option (List Leaf)
 | []=>some []
 | f::s=>match l f.type,qkJ l s with
   | some a,some b=>some (a++b)
   | _,_=>none
def gLv (P:Program):Nat->TypeId->Option (List Leaf)
 | 0,_=>none
 | n+1,t=>match P.underlying t with
   | some (.int _)=>some [.int]
   | some .bool=>some [.bool]
   | some .string=>some [.str]
   | some (.array k e)=>(gLv P n e).map (Ix k)
   | some (.struct f)=>qkJ (gLv P n) f.toList
   | _=>none
def gKs (P:Program) (t:TypeId) (f:KS->AOp):Option AOp:=(gLv P 8 t).map fun l=>f (jl (P.underlying t),l)
def gKm (P:Program) (t:TypeId) (f:KS->AOp):Option AOp:=match P.underlying t with
 | some (.map k _)=>gKs P k f
 | _=>none
def gEq (P:Program) (t:TypeId) (f:KS->AOp) (g:Option AOp):Option AOp:=match P.underlying t with
 | some .bool=>gKs P t f
 | some (.array _ _)=>gKs P t f
 | some (.struct _)=>gKs P t f
 | _=>g
def gZv (P:Program) (t:TypeId):AV:=match P.underlying t with
 | some (.map _ e)=>match Ih P e with
   | some v=>AV.ofValue v
   | none => .v (.pointer none)
 | _ => .v (.pointer none)
def gOp (P:Program) (N:Nat) (o:Oper):Option AOp:=match o.dst,o.op with
 | some d,.call { callee := .value (.func f),args:=args,argTypes:=_ }=>(opds args.toList).map fun q=>bif Nat.beq f 1 || Nat.beq f 685 then .callx d f q else .call d f q
 | some d,.binOp .eql t x y _=>match opd x,opd y with
   | some a,some b=>gEq P t (fun K => .eqk d false K a b) (Ql P N o)
   | _,_=>Ql P N o
 | some d,.binOp .neq t x y _=>match opd x,opd y with
   | some a,some b=>gEq P t (fun K => .eqk d true K a b) (Ql P N o)
   | _,_=>Ql P N o
 | some d,.lookup t m k ok=>match opd m,opd k with
   | some m,some k=>gKm P t fun K => .lku d K (gZv P t) ok m k
   | _,_=>none
 | some d,.mapEntry t m k=>match opd m,opd k with
   | some m,some k=>gKm P t fun K => .mpe d K (gZv P t) m k
   | _,_=>none
 | none,.insert t m k v=>match opd m,opd k,opd v with
   | some m,some k,some v=>gKm P t fun K => .ins K m k v
   | _,_,_=>none
 | none,.mapUpdate t m k v=>match opd m,opd k,opd v with
   | some m,some k,some v=>gKm P t fun K => .ins K m k v
   | _,_,_=>none
 | none,.call { callee := .builtin .delete,args:=⟨[x,y]⟩,argTypes:=⟨t::_⟩ }=>match opd x,opd y with
   | some x,some y=>gKm P t fun K => .del K x y
   | _,_=>none
 | _,_=>Ql P N o
def gGd (O:Array Oper):Option (Nat×Bool)->Option (Nat×Bool)
 | some (j,b)=>match O[j]? with
   | some o=>o.dst.map (·,b)
   | none=>none
 | none=>none
def qkK (P:Program) (N:Nat) (O:Array Oper):List Oper->Option (List Grp)
 | []=>some []
 | o::l=>match gOp P N o,qkK P N O l with
   | some a,some r=>some (⟨gGd O o.guard,[a]⟩::r)
   | _,_=>none
def gCo (P:Program) (N:Nat):Code->List (List (Nat×Nat))->AC×List (List (Nat×Nat))
 | .region _ ops d,h=>match qkK P N ops ops.toList with
   | some s=>bif d then (match h with
     | u::h=>(.drw s u [],h)
     | []=>(.drw s [] [],[])) else (.rgn s [],h)
   | none=>(.dead,h)
 | .skip,h=>(.skip,h)
 | .seq a b,h=>match gCo P N a h with
   | (x,h)=>match gCo P N b h with
     | (y,h)=>(.seq x y,h)
 | .cond c a b,h=>match opd c with
   | some d=>(match gCo P N a h with
     | (x,h)=>match gCo P N b h with
       | (y,h)=>(.cond d x y,h))
   | none=>(.dead,h)
 | .block id a,h=>match gCo P N a h with
   | (x,h)=>(.block id x,h)
 | .loop a,h=>match gCo P N a h with
   | (x,h)=>(.loop x,h)
 | .exit id,h=>(.exit id,h)
 | .ret,h=>(.ret,h)
 | .label l,h=>(.label l,h)
 | .scope a,h=>match gCo P N a h with
   | (x,h)=>(.scope x,h)
 | .rangeFunc g p a b,h=>match opd g with
   | some v=>(match gCo P N a h with
     | (x,h)=>match gCo P N b h with
       | (y,h)=>(.rf v p.toList x y [],h))
   | none=>(.dead,h)
 | _,h=>(.dead,h)
def gC0 (P:Program) (f:Func) (h:List (List (Nat×Nat))):AC:=match f.body with
 | some c=>(gCo P f.ntmps c h).1
 | none => .dead
def qly:Option (Nat×Bool)->Option (Nat×Bool)->Bool
 | none,none=>true
 | some (a,b),some (c,d)=>Nat.beq a c&&(b==d)
 | _,_=>false
def qlB:Option (Nat×Bool)->Option Nat->Bool
 | some (j,_),some d => !Nat.beq d j
 | _,_=>true
def qlQ (g:Grp):List Grp->List Grp
 | []=>[g]
 | u::s=>bif qly g.guard u.guard&&(match g.ops with
   | [o]=>qlB g.guard o.dst
   | _=>false) then ⟨g.guard,g.ops++u.ops⟩::s else g::u::s
def fb:List Grp->List Grp
 | []=>[]
 | g::s=>qlQ g (fb s)
def gC1:AC->AC
 | .rgn s k => .rgn (fb s) k
 | .drw s u k => .drw (fb s) u k
 | .seq x y => .seq (gC1 x) (gC1 y)
 | .cond c x y => .cond c (gC1 x) (gC1 y)
 | .block id x => .block id (gC1 x)
 | .loop x => .loop (gC1 x)
 | .scope x => .scope (gC1 x)
 | .rf g p x y k => .rf g p (gC1 x) (gC1 y) k
 | x=>x
def fLs:List Nat->(List Nat->AC)->AC
 | [],k=>k []
 | a::l,k=>fLs l fun t=>k (a::t)
def inG (n:Nat):List Nat->List Nat
 | []=>[n]
 | m::l=>bif Nat.blt n m then n::m::l else bif Nat.beq n m then m::l else m::inG n l
def unG:List Nat->List Nat->List Nat
 | [],l=>l
 | n::k,l=>inG n (unG k l)
def rmG (n:Nat):List Nat->List Nat
 | []=>[]
 | m::l=>bif Nat.beq m n then rmG n l else m::rmG n l
def dlG:Option Nat->List Nat->List Nat
 | some n,l=>rmG n l
 | none,l=>l
def lvO:List AOp->List Nat->(List Nat->AC)->AC
 | [],l,k=>k l
 | o::O,l,k=>lvO O l fun l=>fLs (unG (o.opds.flatMap Opd.tmp) (dlG o.dst l)) k
def lvG:List Grp->List Nat->(List Nat->AC)->AC
 | [],l,k=>k l
 | ⟨none,o⟩::g,l,k=>lvG g l fun l=>lvO o l k
 | ⟨some (j,_),o⟩::g,l,k=>lvG g l fun l=>lvO o l fun l=>fLs (inG j l) k
def exG (id:Nat):List (Nat×List Nat)->List Nat
 | []=>[]
 | (i,l)::r=>bif Nat.beq i id then l else exG id r
def gC2 (r:List Nat):AC->List (Nat×List Nat)->List Nat->(AC->List Nat->AC)->AC
 | .rgn s _,_,l,k=>lvG s l fun L=>k (.rgn s l) L
 | .drw s n _,_,l,k=>lvG s l fun L=>k (.drw s n l) L
 | .seq x y,e,l,k=>gC2 r y e l fun y l=>gC2 r x e l fun x l=>k (.seq x y) l
 | .cond c x y,e,l,k=>gC2 r x e l fun x u=>gC2 r y e l fun y v=>fLs (unG c.tmp (unG u v)) fun l=>k (.cond c x y) l
 | .block id x,e,l,k=>gC2 r x ((id,l)::e) l fun x l=>k (.block id x) l
 | .loop x,e,l,k=>gC2 r x e [] fun _ l=>gC2 r x e l fun X _=>k (.loop X) l
 | .exit id,e,l,k=>fLs (exG id e) fun l=>k (.exit id) l
 | .ret,e,l,k=>k .ret r
 | .dead,e,l,k=>k .dead []
 | .scope x,e,l,k=>gC2 r x e l fun x l=>k (.scope x) l
 | .rf g p x y _,e,l,k=>gC2 r y e [] fun y z=>gC2 r x e z fun x j=>fLs (unG g.tmp (unG (j.filter fun t => !p.contains t) (unG r (unG (e.flatMap (·.2)) l)))) fun L=>k (.rf g p x y l) L
 | x,e,l,k=>k x l
def hsL:List Nat:=[100057,100093,100475,100578,100665,100177]
def qmj (k:Nat) (a:AC):CZ:=Lz (if [395,629].contains k then 0::hsL else hsL) ([107,469,71].contains k) 100000 a
def qkr (k:Nat) (z:CZ):CZ :=
 let z:=if [275,400].contains k then In z else z
 let z:=if [47].contains k then Iw z else z
 let z:=if Nat.beq k 610 then mM z else z
 let z:=if Nat.beq k 187 then pd 10 9 z else z
 let z:=([(136,107),(603,602),(522,610),(526,610),(614,615),(609,601),(610,601)]:List (Nat×Nat)).foldl (fun z p=>if Nat.beq p.1 k then Ip p.2 z else z) z
 ([(577,578,6),(192,0,9),(341,402,1),(341,402,2),(206,277,1),(206,277,2),(274,343,1),(3,9,25)]:List (Nat×Nat×Nat)).foldl (fun z p=>if Nat.beq p.1 k then Iq p.2.1 p.2.2 z else z) z
def rcO (r:Option RC):RC:=r.getD []
theorem RR {k:Nat} {f:Func} {r:RC} {z:CZ} {c:CT} (u:P.funcs[k]?=some f) (m:Bool) (j:jg P f.results.toList=some r) (q:qg P f (r.map (·.1))=some (CZ.ac z)) (o:z.ok=true) (h:cCZ z=c) (v:Nat.ble n f.ntmps=true) (y:jB P k=true):CdZ P ⟨k,m,n,r,c,.code⟩ :=
 km rfl ⟨f,_,z,u,q,o,h,j,xr v,y⟩
def nfC {z:CZ} {C:CT} (c:NF (cCZ z) C:=by (refine .mk ?_ ((?_:Lk _ _) ?_);rotate_left 2;(conv=>lhs;simp only [cCZ,cXG,cXs,cX,dXG,dXs,dX,qK,ZQ,↓reduceIte,Nat.reduceEqDiff,↓wI,↓qov,qmP,qmF,↓qko,↓cd,↓qeW,↓gu,↓gq,↓qe7,↓qkn,↓qkq,↓qkl,↓qkm,↓qe9,↓qfe,↓qe3,↓qkk,↓qeU,↓qeZ,↓qeX,↓qe8,↓qfb,↓qfm,↓qkp,↓cc,↓qfi,↓qeY,↓qfk,↓qe6,↓qfh,↓qe1,↓qff,↓qfc,↓qe5,↓qfg,↓qfj,↓qfa,↓qfo,↓qe4,↓qe2,↓rZ,↓qfn,↓qeV,↓qfl,↓rY,↓ca,↓gh,↓qfd,↓qe0,↓qfp,↓qdV,↓qd8,↓qd2,↓qd1,↓qdZ,↓qd0,↓qdY,↓qdX,↓qd3,↓qd4,↓qd5,↓qdW,↓qka,↓qd9,↓If,↓qd6,↓qd7,↓qmi,↓qmh,↓qeh,↓rL,↓rM,↓rN,↓rC,↓rD,↓qed,↓rI,↓qmg,↓qdU,↓rA,↓qek,↓qej,↓qea,↓rB,↓qee,↓rJ,↓qei,↓rO,↓qeg,↓rK,↓qec,↓rG,↓rH,↓qeb,↓rE,↓rF,↓qel,↓rP,↓qkb,↓qeO,↓rV,↓rU,↓rT,↓qes,↓qex,↓qey,↓rS,↓qeT,↓qkg,↓rX,↓qep,↓qkj,↓qeB,↓qkf,↓qki,↓qer,↓qkc,↓qeq,↓qkd,↓qeC,↓qke,↓qeD,↓qeF,↓qeE,↓qeH,↓qeK,↓qeJ,↓qeQ,↓qeS,↓qen,↓qew,↓qeN,↓qev,↓qkh,↓rW,↓qeL,↓qet,↓qeu,↓rR,↓qeR,↓qeM,↓qeG,↓qeI,↓qez,↓qeA,↓qeo,↓qeP,↓rQ]);rotate_left;exact fun _=>trivial)):NF (cCZ z) C:=c
abbrev TE (P:Program):={c:Cd // CdZ P c}
def enZ {P:Program} {k:FuncId} {f:Func} (u:P.funcs[k]?=some f) (z:CZ) (m:Bool:=true) {R:Option RC} {N:Nat} {C:CT}
    (r:NF (jg P f.results.toList) R:=by (refine .mk ?_ ((?_:Lk _ _) ?_);rotate_left 2;(conv=>lhs;reduce);rotate_left;exact fun _=>trivial))
    (n:NF f.ntmps N:=by (refine .mk ?_ ((?_:Lk _ _) ?_);rotate_left 2;(conv=>lhs;reduce);rotate_left;exact fun _=>trivial))
    (c:NF (cCZ z) C:=by exact nfC)
    (j:jg P f.results.toList=some (rcO R):=by kernel_rfl) (q:qg P f ((rcO R).map (·.1))=some (CZ.ac z):=by kernel_rfl) (o:z.ok=true:=by kernel_rfl) (h:cCZ z=C:=by kernel_rfl) (v:Nat.ble N f.ntmps=true:=by kernel_rfl) (y:jB P k=true:=by kernel_rfl):TE P :=
 ⟨⟨k,m,N,rcO R,C,.code⟩,RR u m j q o h v y⟩
def en {P:Program} {k:FuncId} {f:Func} (j:P.funcs[k]?=some f) (h:List (List (Nat×Nat)):=[]) (m:Bool:=true) {R:Option RC} {a A u:AC} {Y Z:CZ} {N:Nat} {C:CT}
    (r:NF (jg P f.results.toList) R:=by (refine .mk ?_ ((?_:Lk _ _) ?_);rotate_left 2;(conv=>lhs;reduce);rotate_left;exact fun _=>trivial))
    (l:NF (gC0 P f h) a:=by (refine .mk ?_ ((?_:Lk _ _) ?_);rotate_left 2;(conv=>lhs;reduce);rotate_left;exact fun _=>trivial))
    (t:NF (gC1 a) A:=by (refine .mk ?_ ((?_:Lk _ _) ?_);rotate_left 2;(conv=>lhs;reduce);rotate_left;exact fun _=>trivial))
    (d:NF (gC2 ((rcO R).map (·.1)) A [] ((rcO R).map (·.1)) fun x _=>x) u:=by (refine .mk ?_ ((?_:Lk _ _) ?_);rotate_left 2;(conv=>lhs;reduce);rotate_left;exact fun _=>trivial))
    (y:NF (qmj k u) Y:=by (refine .mk ?_ ((?_:Lk _ _) ?_);rotate_left 2;(conv=>lhs;reduce);rotate_left;exact fun _=>trivial))
    (z:NF (qkr k Y) Z:=by (refine .mk ?_ ((?_:Lk _ _) ?_);rotate_left 2;(conv=>lhs;reduce);rotate_left;exact fun _=>trivial))
    (n:NF f.ntmps N:=by (refine .mk ?_ ((?_:Lk _ _) ?_);rotate_left 2;(conv=>lhs;reduce);rotate_left;exact fun _=>trivial))
    (c:NF (cCZ Z) C:=by exact nfC)
    (g:jg P f.results.toList=some (rcO R):=by kernel_rfl) (b:qg P f ((rcO R).map (·.1))=some (CZ.ac Z):=by kernel_rfl) (q:Z.ok=true:=by kernel_rfl) (v:cCZ Z=C:=by kernel_rfl) (o:Nat.ble N f.ntmps=true:=by kernel_rfl) (s:jB P k=true:=by kernel_rfl):TE P :=
 ⟨⟨k,m,N,rcO R,C,.code⟩,RR j m g b q v o s⟩
def Qh {P:Program}:List (TE P)->TBL
 | [],_=>tNo
 | e::l,f=>cond (Nat.beq e.1.f f) e.1 (Qh l f)
theorem qv {P:Program}:∀ l:List (TE P),TBz P (Qh l)
 | [],f=>ai
 | e::l,f=>by
   unfold Qh;cases Nat.beq e.1.f f with
   | true=>exact e.2
   | false=>exact qv l f
def nh (k:Nat) (c:Cd) (T:TBL):TBL:=fun f=>cond (Nat.beq f k) c (T f)
theorem HQ {k:Nat} {c:Cd} {T:TBL} (h:CdZ P c) (u:TBz P T):TBz P (nh k c T):=fun f=>by
 unfold nh;cases Nat.beq f k with
 | true=>exact h
 | false=>exact u f
end Go.AM

set_option maxRecDepth 100000
namespace Go.AM
open Go.RowKit
variable {K:AV->List HObj->Prop} {f:FuncId} {o:HObj} {C x:List AV} {s c d:Nat}
theorem Je {p:Hp} {g:G} {id:Nat} {s:List AV} (j:p id=some (.cells s)) (c:Nat):UU (Hp.set p id (.cells C)) g c↔UU p g c:=by
 constructor
 . rintro ⟨i,o,d,u,v,h⟩;by_cases e:i=id
   . subst e;exact ⟨i,_,d,j,rfl,h⟩
   rw [Hp.set_other _ _ e] at u;exact ⟨i,o,d,u,v,h⟩
 rintro ⟨i,o,d,u,v,h⟩;by_cases e:i=id
 . subst e;exact ⟨i,_,d,Hp.set_same _ _ _,rfl,h⟩
 exact ⟨i,o,d,by rw [Hp.set_other _ _ e];exact u,v,h⟩
theorem HeapOK.recell {q g w} (h:HeapOK q g w) {id:Nat} {cs cs':List AV} {l:Loc} (ho:q id=some (.cells cs)) (hl:g.ρ id=some l) (hr:HRep w g (.cells cs') l):HeapOK (Hp.set q id (.cells cs')) g w:=by
 refine ⟨fun i y=>?_,fun i o y=>?_,fun i i' o o' c d A O K h3 h4 h5 h6=>?_,h.ex,h.tab⟩
 . by_cases e:i=id
   . subst e;rw [Hp.set_same] at y;cases y
   rw [Hp.set_other _ _ e] at y;exact h.dom i y
 . by_cases e:i=id
   . subst e;rw [Hp.set_same] at y;cases y;exact ⟨l,hl,hr⟩
   rw [Hp.set_other _ _ e] at y;exact h.rep i o y
 have k:∀ i o c d,Hp.set q id (.cells cs') i=some o->o.live=true->g.ρ i=some (.blk c d)->∃ X,q i=some X/\X.live=true:=fun i o c d O K h3=>by
  by_cases e:i=id
  . subst e;exact ⟨_,ho,rfl⟩
  rw [Hp.set_other _ _ e] at O;exact ⟨o,O,K⟩
 obtain ⟨X,k1,k2⟩:=k i o c d O h3 h5;obtain ⟨o3,k3,k4⟩:=k i' o' c A K h4 h6;exact h.inj i i' X o3 c d A k1 k3 k2 k4 h5 h6
theorem Upd.recell {e g w id K cs' y O X} (q:e id=some (.cells K)) (h:Upd (Hp.set e id (.cells cs')) g w y O X):Upd e g w y O X :=
 ⟨h.tr,fun c hc=>(h.live c hc).imp_left (Je q c).1,fun b o hs=>(h.S b o hs).imp_right fun k=>k.imp_left (Je q b).1,fun b A hn=>h.keep b A fun k=>hn ((Je q b).1 k)⟩
theorem Upd.recell2 {e g w id X cs' y q O} (A:y id=some (.cells X)) (h:Upd e g w y q O):Upd e g w (Hp.set y id (.cells cs')) q O :=
 ⟨h.tr,fun c K=>h.live c ((Je A c).1 K),h.S,h.keep⟩
def ext (c:List AV) (L:Nat):List AV:=c++List.replicate (L - c.length) .any
theorem OP {c:List AV} {L:Nat}:(ext c L).length=max c.length L:=by simp [ext];omega
theorem kL {c:List AV} {L off n:Nat} (h:off+n<=c.length):qJ (ext c L) off n=qJ c off n:=by simp only [ext,qJ];rw [qnF (by omega),List.take_append_of_le_length (by simp;omega)]
variable {P:Program} {hp:List HObj}
theorem MZ {id off n:Nat} {X:List AV} (L:qu hp id=some (.cells C)) (x1:off+n*s<=C.length)
 (h:∀ c,n<=c->qB P f (.mc id off n c s::X) (qz hp id (.cells (ext C (off+c*s)))) K):qB P f (.ms id off n s::X) hp K:=by
 intro ro m w g V M Z y;have u:hpf hp id=some (.cells C):=by rw [qn] at L;exact L
 have Y:=qF u;obtain ⟨l,T,hr⟩:=M.rep id _ u
 have q:∀ (c:Nat) (_:Rep w g false (.mc id off n c s) (V.getD 0 undef)) i (N:i<(AV.mc id off n c s::X).length),Rep w g false (AV.mc id off n c s::X)[i] (V.getD i undef):=fun c z i N=>by
  cases i with
  | zero=>exact z
  | succ i=>exact y (i+1) (by simpa using N)
 have fin:∀ c,n<=c->Rep w g false (.mc id off n c s) (V.getD 0 undef)->HRep w g (.cells (ext C (off+c*s))) l->CallsIn (W ro) m P f V w fun e O=>∃ v r p k,e = .returned v/\K r p/\Rep O k false r v/\HeapOK (hpf p) k O/\Upd (hpf hp) g w (hpf p) k O:=fun c hc z Q=>by have t:=Zg (l:=hp) (id:=id) (o := .cells (ext C (off+c*s))) (qmu Y);refine (h c hc ro m w g V (by rw [t];exact M.recell u T Q) Z (q c z)).mono ?_;rintro e O ⟨v,r,p,k,rfl,k1,k2,k3,k4⟩;rw [t] at k4;exact ⟨v,r,p,k,rfl,k1,k2,k3,k4.recell u⟩
 have z:=y 0 (by simp);simp only [qnL] at z;cases hv:V.getD 0 undef <;> rw [hv] at z <;> try (cases z;done)
 rename_i E nn b;cases z with
 | ms _ _ _ _ c d _ A ty J j hn R hs =>
   rw [j] at T;cases T;refine fin b hn (by rw [hv];exact .mc id off n b s c d A ty J j hn R hs) ?_;obtain ⟨D,x2,x0,g1,g2,g3,g4,g5⟩:=hr;rw [R] at g1;cases g1;refine ⟨A,ty,J,R,by rw [OP];omega,g3,g4,fun i N=>?_⟩;rw [OP] at N;by_cases e:i<C.length
   . obtain ⟨x,Q,h2⟩:=g5 i e;refine ⟨x,Q,?_⟩;simp only [ext];rw [qmz e];exact h2
   refine ⟨A[d+i]'(by omega),by simp [show d+i<A.size by omega],?_⟩;simp only [ext];rw [qmx (by omega),qoU];exact .any _ _
 | msz _ _ _ a l' j =>
   refine fin 0 (Qs _) (by rw [hv];exact .mcz id off s _ l' j) ?_;have:ext C (off+0*s)=C:=by simp only [ext];rw [show off+0*s - C.length=0 by omega];simp
   rw [this];exact hr
theorem Ok {u:AV->List HObj->Prop} (k:∀ r p,K r p->u r p) (h:qB P f x hp K):qB P f x hp u:=fun R n w g V o q s =>
 (h R n w g V o q s).mono fun e b ⟨v,r,p,y,E,j,z⟩=>⟨v,r,p,y,E,k _ _ j,z⟩
theorem TF (h:qB P f x hp fun r p=>K r p\/∃ id o,qu p id=some o/\K r (qz p id .gone)):qB P f x hp K:=by
 intro R m w g V z s j;refine (h R m w g V z s j).mono ?_;rintro e a ⟨v,r,p,y,rfl,k | ⟨id,o,t,k⟩,q,b,l⟩
 . exact ⟨v,r,p,y,rfl,k,q,b,l⟩
 rw [qn] at t;have u:hpf p id=some o:=t;obtain ⟨d,c⟩:=b.drop u;rw [<-Zg (qmu (qF u))] at d c;exact ⟨v,r,_,y,rfl,k,q,d,l.trans c⟩
theorem TJ {xs:List AV} (h:qB P f xs hp fun r p=>K r p\/∃ id off n c s C,r = .mc id off n c s/\qu p id=some (.cells C)/\off+n*s<=C.length /\
 K (.ms p.length 0 n s) (qf p [(id,.gone),(p.length,.cells (qJ C off (n*s)))])):qB P f xs hp K:=by
 intro ro m w g vs X Z j;refine (h ro m w g vs X Z j).mono ?_;rintro e w' ⟨v,r,p,N,rfl,k | ⟨id,off,n,c,s,C,rfl,ho,x0,k⟩,h1,O,Q⟩
 . exact ⟨v,r,p,N,rfl,k,h1,O,Q⟩
 rw [qn] at ho;have o:hpf p id=some (.cells C):=ho;have x1:=qF o;have hn:hpf p p.length=none:=by simp [hpf]
 have V:id≠p.length:=by omega
 have z:hpf (qf p [(id,.gone),(p.length,.cells (qJ C off (n*s)))])=Hp.set (Hp.set (hpf p) id .gone) p.length (.cells (qJ C off (n*s))):=by rw [zN (by simp;omega)];rfl
 cases h1 with
 | mc _ _ _ _ _ L D d ty fz hl T hb x2 =>obtain ⟨y,E⟩:=O.rename o hl hn (show off<=C.length by omega);have u:qJ C off (n*s)=(C.drop off).take (n*s):=rfl;have t:Hp.set (Hp.set (hpf p) id .gone) p.length (.cells (C.drop off)) p.length=some (.cells (C.drop off)):=Hp.set_same _ _ _;obtain ⟨l,q1,q2⟩:=y.rep _ _ t;simp [G.home] at q1;subst q1;obtain ⟨A,J,M,g1,g2,g3,g4,g5⟩:=q2;have q:=y.recell (cs':=qJ C off (n*s)) t (l := .blk L (D+off)) (by simp [G.home]) ⟨A,J,M,g1,by rw [u];simp at g2 ⊢;omega,g3,g4,fun i hi=>by rw [u] at hi;have R:=hi;rw [qmS] at R;obtain ⟨x,k1,k2⟩:=g5 i (by omega);refine ⟨x,k1,?_⟩;simp only [u,qos];exact k2⟩;have b:=E.recell2 (cs':=qJ C off (n*s)) t;rw [Hp.set_set] at q b;refine ⟨_,_,_,_,rfl,k,?_,by rw [z];exact q,by rw [z];exact Q.trans b⟩;have:=Rep.ms (w:=w') (g:=N.home p.length (.blk L (D+off))) p.length 0 n s L (D+off) c d ty fz (by simp [G.home]) T hb (by omega);simpa using this
 | mcz _ _ _ a l hl =>
   obtain ⟨y,E⟩:=O.drop o;obtain ⟨q,b⟩:=y.virgin (id:=p.length) (by rw [Hp.set_other _ _ (qmG V)];exact hn);have Y:qJ C off (0*s)=[]:=by simp [qJ]
   rw [Y] at z k;exact ⟨_,_,_,_,rfl,k,Rep.msz (w:=w') (g:=N.home p.length .virg) p.length 0 s a .virg (by simp [G.home]),by rw [z];exact q,by rw [z];exact (Q.trans E).trans b⟩
variable {E:HE} {K:AV->List (Nat×HObj)->Prop}
theorem II {b id off n m:Nat} {y:AV} {ys:List AV} (h:qu hp id=some (.cells C)) (e:elems (hpf hp) s y=some (m,ys)) (p:(ys.all AV.isPC)=true) (v:off+n*s<=C.length)
 (j:(n+m)*b<=140737488355328) (u:n+m<=140737488355328) (r:c<n+m) (k:K (.ms hp.length 0 (n+m) s) [(hp.length,.cells (qJ C off (n*s)++ys))]):gz hp s b (.mc id off n c s) y K:=by
 have h:hpf hp id=some (.cells C):=by rw [qn] at h;exact h
 refine ⟨m,ys,e,p,_,_,?_,k⟩;simp only [zG,h];exact ⟨trivial,v,j,u,.inr ⟨r,trivial,trivial⟩⟩
theorem Re {b id off n m:Nat} {z:List AV} {x k:Opd} {F:Nat->AV} (o:evF F x = .mc id off n c s) (y:evF F k=I m) (h:qu hp id=some (.cells C)) (v:off+n*s<=C.length)
 (j:(n+m)*b<=140737488355328) (u:n+m<=140737488355328) (r:c<n+m) (q:K (.ms hp.length 0 (n+m) s) [(hp.length,.cells (qJ C off (n*s)++zh m z))]):(AOp.appz d s b z x k).wp P F hp K:=by
 have h:hpf hp id=some (.cells C):=by rw [qn] at h;exact h
 refine ⟨_,_,⟨m,y,?_⟩,q⟩;simp only [zG,o,h];exact ⟨trivial,v,j,u,.inr ⟨r,trivial,trivial⟩⟩
theorem Ke {id off n m:Nat} {ys:List AV} {x y:Opd} {F:Nat->AV} (u:evF F x = .ms id off n s\/∃ c,evF F x = .mc id off n c s) (j:elems (hpf hp) s (evF F y)=some (m,ys)) (p:((ys.take (min m n*s)).all AV.isPC)=true)
 (h:qu hp id=some (.cells C)) (v:off+n*s<=C.length) (k:K (I (min m n:Nat)) [(id,.cells (splice C off (ys.take (min m n*s))))]):(AOp.cpy d s x y).wp P F hp K:=by
 have h:hpf hp id=some (.cells C):=by rw [qn] at h;exact h
 refine ⟨_,_,?_,k⟩;rcases u with u | ⟨c,u⟩
 . simp only [AOp.sem,u];exact ⟨m,ys,C,j,p,h,trivial,v,rfl,rfl⟩
 simp only [AOp.sem,u];exact ⟨m,ys,C,j,p,h,trivial,v,rfl,rfl⟩
theorem ki {a:List Opd} {o:List AOp} {u:List (Nat×AV)} {r:AV} {v:St->Prop} (h:Tp P f (a.map (evF (get u))) (hpf hp) r) (k:zz P E o ⟨(d,r)::u,hp⟩ v):zz P E (.callx d f a::o) ⟨u,hp⟩ v :=
 ⟨r,h,k⟩
theorem kQ {id:Nat} {x:HObj} (h:id<hp.length):qf (hp.set id o) [(id,.gone),((hp.set id o).length,x)]=qf hp [(id,.gone),(hp.length,x)]:=by simp [qf,qz,h]
theorem kP {id:Nat} {x:HObj} (h:id<hp.length):qz (hp.set id o++[x]) id .gone=qf hp [(id,.gone),(hp.length,x)]:=by
 have:id<hp.length+1:=by omega
 simp [qf,qz,h,this,List.set_append]
def qgG (C:AV->List HObj->Prop) (r:AV) (h:List HObj):Prop:=(C r h\/∃ id o,qu h id=some o/\C r (qz h id .gone))\/∃ id off n c s u,r = .mc id off n c s/\qu h id=some (.cells u)/\off+n*s<=u.length /\
 C (.ms h.length 0 n s) (qf h [(id,.gone),(h.length,.cells (qJ u off (n*s)))])
theorem TH {C:AV->List HObj->Prop} (h:qB P f x hp (qgG C)):qB P f x hp C:=by
 refine TF (TJ (Ok (fun r p k=>?_) h));rcases k with (k | k) | k
 . exact .inl (.inl k)
 . exact .inl (.inr k)
 obtain ⟨id,off,n,c,y,s,u,v,j,z⟩:=k;exact .inr ⟨id,off,n,c,y,s,u,v,j,.inl z⟩
theorem KQ {u:AV->List HObj->Prop} {id off n:Nat} (h:id<hp.length) (v:off+n*s<=C.length) (j:u (.ms hp.length 0 n s) (qf hp [(id,.gone),(hp.length,.cells (qJ C off (n*s)))])) :
 qgG u (.mc id off n c s) (hp.set id (.cells C)):=by
 refine .inr ⟨id,off,n,c,s,C,rfl,by rw [qn];simp [h],v,?_⟩;rw [kQ h,qnp];exact j
theorem DN {C:AV->List HObj->Prop} {id:Nat} {r:AV} {x:HObj} (h:id<hp.length) (u:C r (qf hp [(id,.gone),(hp.length,x)])):qgG C r (hp.set id o++[x]):=by
 refine .inl (.inr ⟨id,o,?_,?_⟩)
 . rw [qn,qmw (by simpa using h)];simp [h]
 rw [kP h];exact u
def qgD (b:Nat) (z:List AV) (x r:FuncId):AC:=(.seq (.rgn [⟨none,[(.mv 6 (.k (.sl true 0 [])))]⟩] [0,1,2]) (.seq (.rgn [⟨none,[(.mv 10 (.t 0)),(.mv 11 (.t 1)),(.slc 12 1 (.t 10) (some (.t 11)) none none)]⟩] [0,1,2]) (.seq (.rgn [⟨none,[(.mv 13 (.t 2)),(.len 14 (.t 13)),(.mv 7 (.t 14))]⟩] [0,1,2,7]) (.seq (.seq (.rgn [⟨none,[(.mv 15 (.t 7)),(.bin 16 .eql (.t 15) (.k (I 0)))]⟩] [0,1,2,7,16]) (.cond (.t 16) (.seq (.rgn [⟨none,[(.mv 17 (.t 0)),(.mv 6 (.t 17))]⟩] [6]) .ret) .skip)) (.seq (.rgn [⟨none,[(.mv 18 (.t 0)),(.len 19 (.t 18)),(.mv 8 (.t 19))]⟩] [0,1,2,7,8]) (.seq (.seq (.rgn [⟨none,[(.mv 20 (.t 1)),(.mv 21 (.t 8)),(.bin 22 .eql (.t 20) (.t 21))]⟩] [0,1,2,7,8,22]) (.cond (.t 22) (.seq (.rgn [⟨none,[(.mv 23 (.t 0)),(.mv 24 (.t 2)),(.app 25 1 b (.t 23) (.t 24)),(.mv 6 (.t 25))]⟩] [6]) .ret) .skip)) (.seq (.seq (.rgn [⟨none,[(.mv 26 (.t 8)),(.mv 27 (.t 7)),(.bin 28 .add (.t 26) (.t 27)),(.mv 29 (.t 0)),(.cap 30 (.t 29)),(.bin 31 .gtr (.t 28) (.t 30))]⟩] [0,1,2,7,8,31]) (.cond (.t 31) (.seq (.rgn [⟨none,[(.mv 32 (.t 0)),(.mv 33 (.t 1)),(.slc 34 1 (.t 32) none (some (.t 33)) none),(.mv 35 (.t 8)),(.mv 36 (.t 7)),(.bin 37 .add (.t 35) (.t 36)),(.mv 38 (.t 1)),(.bin 39 .sub (.t 37) (.t 38)),(.appz 40 1 b z (.t 34) (.t 39)),(.mv 9 (.t 40))]⟩] [0,1,2,7,9]) (.seq (.rgn [⟨none,[(.mv 41 (.t 9)),(.mv 42 (.t 1)),(.slc 43 1 (.t 41) (some (.t 42)) none none),(.mv 44 (.t 2)),(.cpy 45 1 (.t 43) (.t 44))]⟩] [0,1,7,9]) (.seq (.drw [⟨none,[(.mv 46 (.t 9)),(.mv 47 (.t 1)),(.mv 48 (.t 7)),(.bin 49 .add (.t 47) (.t 48)),(.slc 50 1 (.t 46) (some (.t 49)) none none),(.mv 51 (.t 0)),(.mv 52 (.t 1)),(.slc 53 1 (.t 51) (some (.t 52)) none none),(.cpy 54 1 (.t 50) (.t 53))]⟩] [] [9]) (.seq (.rgn [⟨none,[(.mv 55 (.t 9)),(.mv 6 (.t 55))]⟩] [6]) .ret)))) .skip)) (.seq (.rgn [⟨none,[(.mv 56 (.t 0)),(.mv 57 (.t 8)),(.mv 58 (.t 7)),(.bin 59 .add (.t 57) (.t 58)),(.slc 60 1 (.t 56) none (some (.t 59)) none),(.mv 0 (.t 60))]⟩] [0,1,2,7,8]) (.seq (.seq (.rgn [⟨none,[(.mv 61 (.t 2)),(.mv 62 (.t 0)),(.mv 63 (.t 1)),(.mv 64 (.t 7)),(.bin 65 .add (.t 63) (.t 64)),(.slc 66 1 (.t 62) (some (.t 65)) none none),(.callx 67 x [(.t 61),(.t 66)]),(.un 68 .not (.t 67))]⟩] [0,1,2,7,8,68]) (.cond (.t 68) (.seq (.drw [⟨none,[(.mv 69 (.t 0)),(.mv 70 (.t 1)),(.mv 71 (.t 7)),(.bin 72 .add (.t 70) (.t 71)),(.slc 73 1 (.t 69) (some (.t 72)) none none),(.mv 74 (.t 0)),(.mv 75 (.t 1)),(.slc 76 1 (.t 74) (some (.t 75)) none none),(.cpy 77 1 (.t 73) (.t 76))]⟩] [] [0,1,2]) (.seq (.rgn [⟨none,[(.mv 78 (.t 0)),(.mv 79 (.t 1)),(.slc 80 1 (.t 78) (some (.t 79)) none none),(.mv 81 (.t 2)),(.cpy 82 1 (.t 80) (.t 81))]⟩] [0]) (.seq (.rgn [⟨none,[(.mv 83 (.t 0)),(.mv 6 (.t 83))]⟩] [6]) .ret))) .skip)) (.seq (.rgn [⟨none,[(.mv 84 (.t 0)),(.mv 85 (.t 8)),(.slc 86 1 (.t 84) (some (.t 85)) none none),(.mv 87 (.t 2)),(.cpy 88 1 (.t 86) (.t 87))]⟩] [0,1,7]) (.seq (.rgn [⟨none,[(.mv 89 (.t 0)),(.mv 90 (.t 1)),(.slc 91 1 (.t 89) (some (.t 90)) none none),(.mv 92 (.t 7)),(.call 93 r [(.t 91),(.t 92)])]⟩] [0]) (.seq (.rgn [⟨none,[(.mv 94 (.t 0)),(.mv 6 (.t 94))]⟩] [6]) .ret))))))))))))
theorem xX {A ys D:List AV} {off n:Nat} (h:off+n<=A.length):qJ (A.take (off+n)++(ys++D)) off (n+ys.length)=qJ A off n++ys:=by simp only [qJ];rw [qnF (by simp;omega),qou,show off+n - off=n by omega,<-qmo,qn1];simp;omega
def QY (V:List AV) (i:Nat) (ys:List AV):List AV:=V.take i++(ys++V.drop i)
theorem yW {V ys:List AV} {off n i m:Nat} (h:qJ x off n=V) (v:off+n+m<=x.length) (y:ys.length=m) (u:i<=n) :
 qJ (splice (splice x (off+(i+m)) (V.drop i)) (off+i) ys) off (n+m)=QY V i ys:=by
 have l:V.length=n:=by rw [<-h];simp [qJ];omega
 simp only [splice,QY,qmo];generalize x.drop (off+(i+m)+(V.drop i).length)=D;have t1:(x.take (off+(i+m))++(V.drop i++D)).take (off+i)=x.take (off+i):=by rw [List.take_append_of_le_length (by simp;omega),qoO,qnu (by omega)]
 have t2:(x.take (off+(i+m))++(V.drop i++D)).drop (off+i+ys.length)=V.drop i++D:=qpF (by simp;omega);rw [t1,t2];have t3:(x.take (off+i)).drop off=V.take i:=by rw [qou,show off+i - off=i by omega,<-h,qJ,qoO,qnu u]
 simp only [qJ];rw [qnF (by simp;omega),t3];rw [show V.take i++(ys++(V.drop i++D))=(V.take i++(ys++V.drop i))++D by simp];exact qn1 (by simp;omega)
theorem AY {J:Func} {k:Nat} {z:List AV} {xf rf:FuncId} (hf:P.funcs[f]?=some J) (o:qg P J [6]=some (qgD k z xf rf)) (hr:zc J.results.toList=some [6]) (x5:3<=J.ntmps) (hz:z.length=1) (x8:(z.all AV.isPC)=true)
 {id off n i m:Nat} {g:Bool} {cs ys:List AV} {KC:AV->List HObj->Prop} (hx:∀ (h:Hp) (Z C n' c':Nat) (bs:List AV),h Z=some (.cells bs)->Tp P xf [.sl g m ys,.mc Z C n' c' 1] h (B false))
 (d:qu hp id=some (.cells cs)) (hi:i<=n) (x3:off+n<=cs.length) (q:((qJ cs off n).all AV.isPC)=true) (y:ys.length=m) (p:(ys.all AV.isPC)=true) (hb:(n+m)*k<=140737488355328) (N:n+m<=140737488355328)
 (hK:KC (.ms hp.length 0 (n+m) 1) (qf hp [(id,.gone),(hp.length,.cells (QY (qJ cs off n) i ys))])):qB P f [.ms id off n 1,I i,.sl g m ys] hp KC:=by
 refine MZ d (by omega) fun c hc=>TH ?_;have t:id<hp.length:=by rw [qn] at d;exact qF d
 have x9:id≠hp.length:=by omega
 simp only [qnj];have hE:qz hp id (.cells (ext cs (off+c)))=hp.set id (.cells (ext cs (off+c))):=by rw [qz,if_pos t]
 rw [hE];have j:qu (hp.set id (.cells (ext cs (off+c)))) id=some (.cells (ext cs (off+c))):=by rw [qn];simp [t]
 have x2:off+c<=(ext cs (off+c)).length:=by rw [OP];omega
 have v:qJ (ext cs (off+c)) off n=qJ cs off n:=kL x3;generalize ext cs (off+c)=s at j x2 v ⊢;have x1:(qJ cs off n).length=n:=by simp [qJ];omega
 generalize qJ cs off n=V at q hK v x1;have K1:∀ x,x=QY V i ys->KC (.ms hp.length 0 (n+m) 1) (qf hp [(id,.gone),(hp.length,.cells x)]):=fun x e=>by rw [e];exact hK
 refine QF hf o hr x5 ?_;simp (disch:=omega)[qgD];refine Qf (l:=i) (h:=n) (m:=c) rfl rfl rfl hi hc (Qs _) ?_;simp (disch:=omega);refine qA (fun h=>?_) (fun h=>?_)
 . -- nothing to put in
   have h:m=0:=by simp at h;omega
   subst h;simp (disch:=omega);have x6:ys=[]:=qmk y;subst x6;refine KQ t (by omega) (K1 _ ?_);rw [qnj,v];simp [QY]
 have h:m≠0:=by simp at h;omega
 simp (disch:=omega);refine qA (fun w=>?_) (fun w=>?_)
 . -- at the end
   have w:i=n:=by simp at w;omega
   subst w;simp (disch:=omega);by_cases b:i+m<=c
   . refine bq j (by simp [elems,y]) p (by omega) hb N b ?_;simp (disch:=omega)[t];refine KQ t ?_ (K1 _ ?_)
     . simp;omega
     have:=xX (A:=s) (ys:=ys) (D:=s.drop (off+i+ys.length)) (off:=off) (n:=i) (by omega);rw [y,v] at this;rw [qnj,y,this,QY,qmn (by omega),qnJ (by omega)];simp
   refine II j (by simp [elems,y]) p (by omega) hb N (by omega) ?_;simp (disch:=omega)[t];refine DN t (K1 _ ?_);rw [show List.take i (List.drop off s)=V from v,QY,qmn (by omega),qnJ (by omega)];simp
 have w:i≠n:=by simp at w;omega
 simp (disch:=omega)[qjM,qb];refine qA (fun L=>?_) (fun L=>?_)
 . -- a new row
   have L:c<n+m:=by simp at L;omega
   simp (disch:=omega)[qb];refine Qf (l:=0) (h:=i) (m:=c) rfl rfl rfl (qmQ _) (by omega) (Qs _) ?_;simp (disch:=omega)[qb];refine Re (m:=n+m - i) rfl (by simp [Tq];omega) j (by omega) (by rw [show i+(n+m - i)=n+m by omega];exact hb) (by omega) (by omega) ?_;rw [show i+(n+m - i)=n+m by omega];simp (disch:=omega)[qb];have x0:(List.take i (List.drop off s)).length=i:=by simp;omega
   have x7:(zh (n+m - i) z).length=n+m - i:=NE hz _;have M:List.take i (List.drop off s)=V.take i:=by rw [<-v,qJ,qoO,qnu hi]
   generalize List.take i (List.drop off s)=p0 at x0 M ⊢;generalize zh (n+m - i) z=z0 at x7 ⊢;have u:∀ X Y,qz (hp.set id (.cells s)++[.cells X]) hp.length (.cells Y)=hp.set id (.cells s)++[.cells Y]:=fun X Y=>by simp [qz,List.set_append]
   have hN:∀ X,qu (hp.set id (.cells s)++[.cells X]) hp.length=some (.cells X):=fun X=>by rw [qn];simp
   have hO:∀ X,qu (hp.set id (.cells s)++[.cells X]) id=some (.cells s):=fun X=>by rw [qn,qmw (by simpa using t)];simp [t]
   have Q:∀ h:List HObj,qu h id=some (.cells s)->elems (hpf h) 1 (.mc id (off+i) (n - i) (c - i) 1)=some (n - i,V.drop i):=fun h hh=>by rw [Gx hh (by omega),qnj,<-v];simp only [qJ,qou,qnk]
   refine ZY (l:=i) (h:=n+m) rfl rfl trivial (by omega) (Qs _) ?_;simp (disch:=omega)[qb,-qz];refine Ke (m:=m) (.inl rfl) (by simp [elems,y]) (Pz p _) (hN _) (by simp;omega) ?_;simp (disch:=omega)[qb,-qz,u];rw [show ys.take m=ys from qmn (by omega)];refine ZY (l:=i+m) (h:=n+m) (by simp [Tq]) rfl trivial (by omega) (Qs _) ?_;simp (disch:=omega)[qb,-qz];refine Qf (l:=i) (h:=n) (m:=c) rfl rfl rfl hi hc (Qs _) ?_;simp (disch:=omega)[qb,-qz];refine Ke (m:=n - i) (.inl rfl) (by simp;exact Q _ (hO _)) (Pz (BN q _) _) (hN _) (by simp;omega) ?_;simp (disch:=omega)[qb,-qz,u];refine DN t (K1 _ ?_);have a1:List.take (n - i) (List.drop i V)=List.drop i V:=qmn (by rw [qnV];omega);have a2:∀ R:List AV,List.take (i+m) (p0++(ys++R))=p0++ys:=fun R=>by rw [<-qmo];exact qn1 (by rw [qmI];omega)
   have a3:List.drop (i+m+(n - i)) (p0++(ys++List.drop (i+m) (p0++z0)))=[]:=qnJ (by rw [qmI,qmI,qnV,qmI];omega);rw [a1,a2,a3,M];simp [QY]
 -- in QO
 have L:n+m<=c:=by simp at L;omega
 simp (disch:=omega)[qb];refine Qf (l:=0) (h:=n+m) (m:=c) rfl (by simp) rfl (qmQ _) (by omega) (Qs _) ?_;simp (disch:=omega)[qb];refine Qf (l:=i+m) (h:=n+m) (m:=c) (by simp) rfl rfl (by omega) (by omega) (Qs _) ?_;simp (disch:=omega)[qb];have u:∀ X Y:List AV,qz (hp.set id (.cells X)) id (.cells Y)=hp.set id (.cells Y):=fun X Y=>by simp [qz,t]
 have hN:∀ X:List AV,qu (hp.set id (.cells X)) id=some (.cells X):=fun X=>by rw [qn];simp [t]
 refine ki (r:=B false) (by simp;exact hx _ _ _ _ _ s (by rw [qn] at j;exact j)) ?_;simp (disch:=omega)[qb];refine Qf (l:=i+m) (h:=n+m) (m:=c) (by simp [Tq]) rfl rfl (by omega) (by omega) (Qs _) ?_;simp (disch:=omega)[qb,-qz];refine Qf (l:=i) (h:=n+m) (m:=c) rfl rfl rfl (by omega) (by omega) (Qs _) ?_;simp (disch:=omega)[qb,-qz];have O:min (n+m - i) (n+m - (i+m))*1=n - i:=by omega
 have T:(qJ s (off+i) ((n+m - i)*1)).take (min (n+m - i) (n+m - (i+m))*1)=V.drop i:=by rw [O,<-v];simp only [qJ,qou,qnk,qoO];congr 1;omega
 have x4:elems (hpf (hp.set id (.cells s))) 1 (.mc id (off+i) (n+m - i) (c - i) 1)=some (n+m - i,qJ s (off+i) ((n+m - i)*1)):=Gx j (by omega);refine Ke (id:=id) (off:=off+(i+m)) (n:=n+m - (i+m)) (m:=n+m - i) (ys:=qJ s (off+i) ((n+m - i)*1)) (.inr ⟨_,rfl⟩) (by simp;simpa using x4) (by rw [T];exact BN q _) j (by omega) ?_;rw [T];simp (disch:=omega)[qb,-qz,u,-splice];refine Qf (l:=i) (h:=n+m) (m:=c) rfl rfl rfl (by omega) (by omega) (Qs _) ?_;simp (disch:=omega)[qb,-qz,-splice];refine Ke (id:=id) (off:=off+i) (n:=n+m - i) (m:=m) (ys:=ys) (.inr ⟨_,rfl⟩) (by simp [elems,y]) (Pz p _) (hN _) (by simp;omega) ?_;simp (disch:=omega)[qb,-qz,u,-splice];rw [show ys.take m=ys from qmn (by omega)];refine KQ t ?_ (K1 _ ?_)
 . simp;omega
 rw [qnj];exact yW v (by omega) y hi
end Go.AM

namespace Go.AM
open Go.RowKit
variable {f:FuncId}
variable {P:Program}
theorem He {id o n c s:Nat} {x:List AV} {p:List HObj} {K:AV->List HObj->Prop} (h:qB P f (.ms id o n s::x) p K):qB P f (.mc id o n c s::x) p K:=by
 intro R m w g V k v r;refine h R m w g V k v fun i u=>?_;cases i with
 | zero=>exact GY (r 0 (by simp))
 | succ i=>exact r (i+1) (by simpa using u)
def niP (x:AV) (k:Nat->Prop):Prop:=match x with
 | .v (.int .i64 (.ofNat n))=>fnP n k
 | _=>False
theorem Bv {x:AV} {k:Nat->Prop} (h:niP x k):∃ n:Nat,x=I n/\k n:=by
 unfold niP at h;split at h
 . rw [qC] at h;exact ⟨_,rfl,h⟩
 exact h.elim
def msP (x:AV) (k:Nat->Nat->Nat->Prop):Prop:=match x with
 | .ms id off n s=>okP (Nat.beq s 1) (k id off n)
 | .mc id off n _ s=>okP (Nat.beq s 1) (k id off n)
 | _=>False
theorem bZ {x:AV} {k:Nat->Nat->Nat->Prop} (h:msP x k):∃ id off n,k id off n/\∀ (f:FuncId) (X:List AV) (p:List HObj) (K:AV->List HObj->Prop),qB P f (.ms id off n 1::X) p K->qB P f (x::X) p K:=by
 unfold msP at h;split at h
 . obtain ⟨u,v⟩:=qt h;have:=qe u;subst this;exact ⟨_,_,_,v,fun _ _ _ _ q=>q⟩
 . obtain ⟨u,v⟩:=qt h;have:=qe u;subst this;exact ⟨_,_,_,v,fun _ _ _ _ q=>He q⟩
 exact h.elim
def qgt (b:Nat) (z:List AV) (X:List AV) (p:List HObj) (k:AV->List HObj->Prop):Prop:=match X with
 | [x,i,j]=>niP i fun i=>niP j fun j=>msP x fun id off n=>VC p id fun cs =>
  okP (Nat.ble i j&&Nat.ble j n&&Nat.ble (off+n) cs.length&&(qJ cs (off+j) (n - j)).all AV.isPC&&Nat.ble (n*b) 140737488355328&&Nat.ble n 140737488355328)
   (fmP (faP 6) (Yj z cs off n i j) fun c=>jf p id (.cells c) fun h=>fnP (n - (j - i)) fun N=>k (.ms id off N 1) h)
 | _=>False
theorem mX {Z:ZZ} {p q:List HObj} (h:HR Z p q) {id:Nat} {cs c:List AV} (i:hpf p id=some (.cells cs)):HR Z (qz p id (.cells c)) (qz q id (.cells c)):=by have z:=(h.cel i).2;have l:id<p.length:=qF i;refine h.set (qmu l) ?_;rw [z];exact KP rfl
theorem lV {u:Func} {b:Nat} {z:List AV} (w:P.funcs[f]?=some u) (o:qg P u [6]=some (qft b z)) (L:zc u.results.toList=some [6]) (t:3<=u.ntmps) (M:z.length=1):LW P f (qgt b z):=by
 intro X N k h;unfold qgt at h;split at h
 . rename_i x Q J;obtain ⟨i,e,y⟩:=Bv h;obtain ⟨j,E,v⟩:=Bv y;subst e E;clear h y;obtain ⟨id,off,n,h,m⟩:=bZ (P:=P) v;obtain ⟨cs,g,h⟩:=zU h;obtain ⟨q,h⟩:=qt h;rw [QI (QR 6)] at h;have h:=qT h;rw [qC] at h;simp only [qd] at q;obtain ⟨⟨⟨⟨⟨a,A⟩,s⟩,l⟩,d⟩,p⟩:=q;refine ⟨_,_,fun Z O r=>m _ _ _ _ ?_,h⟩;have c:=(r.cel g).1;refine FC w o L t M (cs:=cs) (by rw [qn];exact c) (xr a) (xr A) (xr s) l (xr d) (xr p) ⟨rfl,?_⟩;exact mX r g
 exact h.elim
def qgu (b:Nat) (X:List AV) (h:List HObj) (k:AV->List HObj->Prop):Prop:=match X with
 | [x,i,.sl _ m y]=>niP i fun i=>msP x fun id off n=>VC h id fun cs =>
  okP (Nat.ble i n&&Nat.ble (off+n) cs.length&&(qJ cs off n).all AV.isPC&&Nat.beq y.length m&&y.all AV.isPC&&Nat.ble ((n+m)*b) 140737488355328&&Nat.ble (n+m) 140737488355328)
   (fmP (faP 6) (QY (qJ cs off n) i y) fun c=>Md h fun l=>jf h id .gone fun p=>fmP (fun a k=>k a) (p++[.cells c]) fun u=>fnP (n+m) fun N=>k (.ms l 0 N 1) u)
 | _=>False
theorem lX {j:Func} {b:Nat} {z:List AV} {xf rf:FuncId} (K:P.funcs[f]?=some j) (o:qg P j [6]=some (qgD b z xf rf)) (hr:zc j.results.toList=some [6]) (M:3<=j.ntmps) (hz:z.length=1) (c:(z.all AV.isPC)=true)
 (hx:∀ (g:Bool) (m:Nat) (y:List AV),y.length=m->∀ (h:Hp) (d O n' D:Nat) (C:List AV),h d=some (.cells C)->Tp P xf [.sl g m y,.mc d O n' D 1] h (B false)):LW P f (qgu b):=by
 intro xs v k h;unfold qgu at h;split at h
 . rename_i x i0 g m y;obtain ⟨i,J,q⟩:=Bv h;subst J;clear h;obtain ⟨id,off,n,h,L⟩:=bZ (P:=P) q;obtain ⟨cs,s,h⟩:=zU h;obtain ⟨N,h⟩:=qt h;rw [QI (QR 6),Jd] at h;have h:=qT h;rw [QI (fun a k=>rfl),qC] at h;simp only [qd] at N;obtain ⟨⟨⟨⟨⟨⟨Q,R⟩,T⟩,A⟩,V⟩,X⟩,Y⟩:=N;have A:=qe A;refine ⟨_,_,fun Z hq r=>L _ _ _ _ ?_,h⟩;have w:=(r.cel s).1;have t:id<v.length:=qF s;have l:=r.len;refine AY K o hr M hz c (hx g m y A) (cs:=cs) (by rw [qn];exact w) (xr Q) (xr R) T A V (xr X) (xr Y) ⟨?_,?_⟩
   . rw [l]
   have e:qf v [(id,HObj.gone)]++[HObj.cells (QY (qJ cs off n) i y)]=qf v [(id,.gone),(v.length,.cells (QY (qJ cs off n) i y))]:=by simp [qf,qz,t]
   have E:hq.length=v.length:=by rw [l]
   rw [e,E];refine r.write fun p u=>?_;rcases sg.1 u with rfl | u
   . exact ⟨(r.cel s).2,qmu t,rfl⟩
   rcases sg.1 u with rfl | u
   . exact ⟨r.new _ (Qs _),Qs _,rfl⟩
   cases u
 exact h.elim
end Go.AM

namespace Go.AM
open Go.RowKit
variable {p:List HObj}
variable {P:Program}
theorem Dl {f:FuncId} {X:List AV} {K:AV->List HObj->Prop} (h:qB P f X p fun x H=>(x = .sl true 0 []/\K (.ms H.length 0 0 1) (H++[.cells []]))\/K x H):qB P f X p K:=by
 intro R n w g V k s r;refine (h R n w g V k s r).mono ?_;rintro e d ⟨v,x,H,q,rfl,u,y,o,z⟩;rcases u with ⟨rfl,u⟩ | u
 . have j:hpf H H.length=none:=by simp [hpf]
   obtain ⟨Q,m⟩:=o.virgin j
   have e:hpf (H++[.cells []])=Hp.set (hpf H) H.length (.cells []):=by
    funext i;simp only [hpf,Hp.set];by_cases e:i=H.length
    . subst e;simp
    rw [if_neg e];rcases qmV i H.length with h | h
    . rw [qmw h]
    rw [qm1 (by simp;omega),qm1 h]
   refine ⟨v,_,_,_,rfl,u,?_,by rw [e];exact Q,by rw [e];exact z.trans m⟩;cases y with
   | sl _ _ _ _ a c V j b l t =>have:c=0:=b rfl;subst this;exact .msz _ _ _ a .virg (by simp [G.home])
 exact ⟨v,x,H,q,rfl,u,y,o,z⟩
def qgC (b:Nat):AC := .seq (.rgn [⟨none,[(.mv 2 (.k (.sl true 0 [])))]⟩] [0]) (.seq (.seq (.rgn [⟨none,[(.mv 3 (.t 0)),(.isn 4 false 0 (.t 3))]⟩] [0,4]) (.cond (.t 4) (.seq (.rgn [⟨none,[(.mv 2 (.k (.sl true 0 [])))]⟩] [2]) .ret) .skip)) (.seq (.rgn [⟨none,[(.bsl 5 0 1 [(I 0)] []),(.mv 6 (.t 0)),(.app 7 1 b (.t 5) (.t 6)),(.mv 2 (.t 7))]⟩] [2]) .ret))
def qgr (b:Nat) (x:List AV) (h:List HObj) (k:AV->List HObj->Prop):Prop:=match x with
 | [.sl _ n c]=>okP (Nat.beq c.length n&&c.all AV.isPC&&Nat.ble (n*b) 140737488355328&&Nat.ble n 140737488355328) (JA h (.cells c) fun id h=>k (.ms id 0 n 1) h)
 | [.ms id off n s]=>okP (Nat.beq s 1&&Nat.ble (n*b) 140737488355328&&Nat.ble n 140737488355328) (VC h id fun c=>NA c off n fun l=>okP (l.all AV.isPC) (JA h (.cells l) fun id h=>k (.ms id 0 n 1) h))
 | [.mc id off n _ s]=>okP (Nat.beq s 1&&Nat.ble (n*b) 140737488355328&&Nat.ble n 140737488355328) (VC h id fun c=>NA c off n fun l=>okP (l.all AV.isPC) (JA h (.cells l) fun id h=>k (.ms id 0 n 1) h))
 | _=>False
theorem iF {E:HE} {d:Nat} {N:Bool} {x:Opd} {o:List AOp} {r:List (Nat×AV)} {h:List HObj} {K:St->Prop} {f:Bool} {n:Nat} {cs:List AV} (j:evF (get r) x = .sl f n cs)
 (u:cs=[]->∀ c,zz P E o ⟨(d,.v (.bool c))::r,h⟩ K) (v:cs≠[]->zz P E o ⟨(d,.v (.bool N))::r,h⟩ K):zz P E (.isn d N 0 x::o) ⟨r,h⟩ K:=by
 simp only [zz,aop,AOp.many,j];cases cs with
 | nil=>exact ⟨u rfl false,u rfl true⟩
 | cons a l=>exact v (by simp)
theorem iD {E:HE} {d:Nat} {N:Bool} {x:Opd} {o:List AOp} {f:List (Nat×AV)} {K:St->Prop} {id off n sz:Nat} (j:evF (get f) x = .ms id off n sz)
 (u:n=0->∀ c,zz P E o ⟨(d,.v (.bool c))::f,p⟩ K) (v:n≠0->zz P E o ⟨(d,.v (.bool N))::f,p⟩ K):zz P E (.isn d N 0 x::o) ⟨f,p⟩ K:=by
 simp only [zz,aop,AOp.many,j];exact ⟨v,fun h=>⟨u h false,u h true⟩⟩
theorem aw {f:FuncId} {v:Func} {b:Nat} (s:P.funcs[f]?=some v) (o:qg P v [2]=some (qgC b)) (d:zc v.results.toList=some [2]) (t:1<=v.ntmps) {x:AV} {n:Nat} {l:List AV} {k:AV->List HObj->Prop}
 (w:(∃ g,x = .sl g n l)\/∃ id off,x = .ms id off n 1) (e:elems (hpf p) 1 x=some (n,l)) (z:l.length=n) (m:l.all AV.isPC=true) (y:n*b<=140737488355328) (q:n<=140737488355328) (u:k (.ms p.length 0 n 1) (p++[.cells l])):qB P f [x] p k:=by
 refine Dl (QF s o d t ?_);simp (disch:=omega)[qgC]
 have app:∀ {r},get r 0=x->AWP P (E1 P) (.seq (.rgn [⟨none,[(.bsl 5 0 1 [(I 0)] []),(.mv 6 (.t 0)),(.app 7 1 b (.t 5) (.t 6)),(.mv 2 (.t 7))]⟩] [2]) .ret) ⟨r,p⟩ (Mp [2] fun x H=>(x = .sl true 0 []/\k (.ms H.length 0 0 1) (H++[.cells []]))\/k x H):=fun {r} j=>by
  simp (disch:=omega)[];refine Qa (ys:=[]) rfl rfl ?_;simp (disch:=omega)[zh,QO,j];refine ⟨n,l,e,m,.ms p.length 0 n 1,[(p.length,.cells l)],?_,?_⟩
  . simp only [zG];refine ⟨by trivial,by simp,by simpa using y,by simpa using q,.inl (by trivial),by simp,by simp⟩
  simp (disch:=omega)[]
  first | exact u | exact Or.inr u | (simpa [qf,qz] using u)
 rcases w with ⟨g,rfl⟩ | ⟨id,off,rfl⟩
 . refine iF (f:=g) (n:=n) (cs:=l) rfl (fun h c=>?_) (fun h=>?_)
   . subst h;have:n=0:=by simpa using z.symm
     subst this;cases c with
     | true =>refine ⟨fun _=>?_,fun h=>by cases h⟩;simp (disch:=omega)[];exact .inl u
     | false=>exact ⟨fun h=>(by cases h),fun _=>app rfl⟩
   exact ⟨fun h=>(by cases h),fun _=>app rfl⟩
 refine iD (id:=id) (off:=off) (n:=n) (sz:=1) rfl (fun h c=>?_) (fun h=>?_)
 . subst h;have:l=[]:=qmk z;subst this;cases c with
   | true =>refine ⟨fun _=>?_,fun h=>by cases h⟩;simp (disch:=omega)[];exact .inl u
   | false=>exact ⟨fun h=>(by cases h),fun _=>app rfl⟩
 exact ⟨fun h=>(by cases h),fun _=>app rfl⟩
theorem lT {f:FuncId} {d:Func} {b:Nat} (L:P.funcs[f]?=some d) (o:qg P d [2]=some (qgC b)) (y:zc d.results.toList=some [2]) (t:1<=d.ntmps):LW P f (qgr b):=by
 have fin:∀ {Z:ZZ} {u z:List HObj} {l:List AV},HR Z u z->HR Z (qf u [(u.length,.cells l)]) (z++[.cells l]):=fun {Z u z l} y=>by
  have:=y.write (ws:=[(u.length,.cells l)]) (fun p j=>by simp at j;subst j;exact ⟨y.new _ (Qs _),Qs _,rfl⟩);have e:qf z [(u.length,.cells l)]=z++[.cells l]:=by rw [<-y.len];simp [qf,qz]
  rwa [e] at this
 have row:∀ {x:AV} {id off n:Nat} {u:List HObj} {k:AV->List HObj->Prop},(∀ (X:List AV) (u:List HObj) (K:AV->List HObj->Prop),qB P f (.ms id off n 1::X) u K->qB P f (x::X) u K)->n*b<=140737488355328->n<=140737488355328 ->
  VC u id (fun c=>NA c off n fun l=>okP (l.all AV.isPC) (JA u (.cells l) fun id u=>k (.ms id 0 n 1) u))->∃ r j,(∀ Z z,HR Z u z->qB P f [x] z (fun Y i=>Y=r/\HR Z j i))/\k r j:=fun {x id off n u k} V i O h=>by
  obtain ⟨c,Q,h⟩:=zU h;obtain ⟨T,h⟩:=Jo h;obtain ⟨R,h⟩:=qt h;have m:(qJ c off n).length=n:=by simp [qJ];omega
  refine ⟨_,_,fun Z z s=>V _ _ _ (aw L o y t (n:=n) (l:=qJ c off n) (.inr ⟨id,off,rfl⟩) ?_ m R i O ⟨by rw [s.len],fin s⟩),zP h⟩;simp only [elems,(s.cel Q).1];simp [T]
 intro X u k h;unfold qgr at h;split at h
 . rename_i g n c;obtain ⟨v,h⟩:=qt h;simp only [qd] at v;obtain ⟨⟨⟨a,A⟩,M⟩,N⟩:=v;have a:=qe a;refine ⟨_,_,fun Z z s=>aw L o y t (n:=n) (l:=c) (.inl ⟨g,rfl⟩) ?_ a A (xr M) (xr N) ⟨by rw [s.len],fin s⟩,zP h⟩;simp [elems,a]
 . obtain ⟨v,w⟩:=qt h;simp only [qd] at v;have:=qe v.1.1;subst this;exact row (fun _ _ _ q=>q) (xr v.1.2) (xr v.2) w
 . obtain ⟨v,w⟩:=qt h;simp only [qd] at v;have:=qe v.1.1;subst this;exact row (fun _ _ _ q=>He q) (xr v.1.2) (xr v.2) w
 exact h.elim
end Go.AM

namespace Go.AM
open Go.RowKit
variable {o:AOp} {f:FuncId} {y:List AV} {P:Program}
def Mh (P:Program) (o:AOp) (e:Opd->AV) (h:List HObj) (r:AV):Prop:=match o with
 | .call _ f a=>qB P f (a.map e) h fun x hp'=>x=r/\hp'=h
 | .bin d b x y=>(AOp.bin d b x y).sem P e (hpf h) h.length r []
 | .mv d x=>(AOp.mv d x).sem P e (hpf h) h.length r []
 | .ld d b n x=>(AOp.ld d b n x).sem P e (hpf h) h.length r []
 | .fa d x i=>(AOp.fa d x i).sem P e (hpf h) h.length r []
 | .ia d n x y=>(AOp.ia d n x y).sem P e (hpf h) h.length r []
 | .iaa d n s x y=>(AOp.iaa d n s x y).sem P e (hpf h) h.length r []
 | .len d x=>(AOp.len d x).sem P e (hpf h) h.length r []
 | .nilc d x=>(AOp.nilc d x).sem P e (hpf h) h.length r []
 | _=>False
def EW (P:Program):List AOp->St->(St->Prop)->Prop
 | [],st,K=>K st
 | o::O,st,K=>∃ r,Mh P o (evF (get st.fr)) st.hp r/\EW P O ⟨zb st.fr o.dst r,st.hp⟩ K
inductive RRun (P:Program):List AOp->St->List Rec->St->Prop
 | nil (st:St):RRun P [] st [] st
 | cons {o l st r Rs st'}:Mh P o (evF (get st.fr)) st.hp r->RRun P l ⟨zb st.fr o.dst r,st.hp⟩ Rs st'->RRun P (o::l) st (⟨o.dst,r,[],[]⟩::Rs) st'
section
variable {P:Program}
theorem Cc:∀ {l:List AOp} {st:St} {K:St->Prop},EW P l st K->∃ Rs s,RRun P l st Rs s/\K s
 | [],st,K,h=>⟨[],st,.nil st,h⟩
 | o::l,st,K,⟨r,u,v⟩=>by obtain ⟨Rs,s,j,z⟩:=Cc v;exact ⟨_::Rs,s,.cons u j,z⟩
theorem xv {l st Rs s} (h:RRun P l st Rs s):Rs.length=l.length:=by
 induction h with
 | nil=>rfl
 | cons _ _ i=>simp [i]
theorem Ex {l st Rs s} (h:RRun P l st Rs s):∀ i (v:i<l.length) (u:i<Rs.length),Rs[i].dst=l[i].dst/\Mh P l[i] (evF (frA Rs st.fr i)) st.hp Rs[i].r:=by
 induction h with
 | nil=>intro i v;simp at v
 | @cons o l st r Rs s k n y =>
   intro i v u;cases i with
   | zero =>refine ⟨rfl,?_⟩;unfold frA;rw [qP (fun i=>by simp)];exact k
   | succ i =>obtain ⟨z,j⟩:=y i (by simpa using v) (by simpa using u);refine ⟨by simpa using z,?_⟩;unfold frA at j ⊢;simp only [wI,qy,qna,qo1,qpk,qmA,qod];rw [QN];exact j
theorem xu {l st Rs s} (h:RRun P l st Rs s):get s.fr=qy (Rs.map Rec.F) (fun _=>true) (get st.fr)/\s.hp=st.hp:=by
 induction h with
 | nil=>exact ⟨rfl,rfl⟩
 | @cons o l st r Rs s k u i =>simp only [wI,qy,qmA];rw [QN];exact i
theorem xw {F u:Nat->AV} {p:List HObj} {r:AV} (h:Mh P o (evF F) p r) (v:∀ x∈o.opds,evF u x=evF F x):Mh P o (evF u) p r:=by
 cases o with
 | call d f a =>have e:a.map (evF u)=a.map (evF F):=qmL fun x j=>v x j;simp only [Mh] at h ⊢;rw [e];exact h
 | _ =>
   first
    | (simp only [Mh] at h;done)
    | (simp only [Mh] at h ⊢;exact ZX (hp':=hpf p) (new':=p.length) h v (fun _ _=>rfl) (fun _=>rfl))
theorem UX {E:HE} {st:St} {r:AV} {K:St->Prop} (h:Mh P o (evF (get st.fr)) st.hp r) (u:K ⟨zb st.fr o.dst r,st.hp⟩):aop P E o st K:=by
 cases o with
 | call d f A =>simp only [Mh] at h;exact Gj fun m n w g V a b c=>(h m n w g V a b c).mono fun e l ⟨v,R,p,s,j,⟨z,y⟩,q⟩=>⟨v,R,p,s,j,by subst z y;exact u,q⟩
 | _=>first
   | (simp only [Mh] at h;done)
   | exact ⟨r,[],h,u⟩
theorem IK {O:List AOp} {m:List (Nat×Nat)} {K:List Nat} {st:St} {Q:Exit->St->Prop} (n:fk (je [⟨none,O⟩])=true) (g:(m.all fun q => !((match (je [⟨none,O⟩])[q.1]? with | some c=>chn c.2 | none=>false)&&(match (je [⟨none,O⟩])[q.2]? with | some c=>chn c.2 | none=>false)))=true)
 (h:EW P O st fun s=>Q .normal (s.keep K)):AWS P (.drw [⟨none,O⟩] m K) st Q:=by
 obtain ⟨Rs,s,r,x⟩:=Cc h;have b:je [⟨none,O⟩]=O.map fun o=>(none,o):=by simp [je]
 have M:=xv r;refine qc fun R N=>Tt gf (Rs:=Rs) (J:=fun _ u=>u=st.hp) n g ?_ rfl fun f u l E=>?_
 . rw [b];refine ⟨by simp [M],fun i h=>by simp,fun i h j=>?_,fun i h j _ f u e v=>?_,fun i h _ u=>Iff.rfl,fun i h j _ k _ _ f u e v=>?_⟩
   . simp only [qmv];exact (Ex r i (by simpa using h) j).1
   . simp only [qmv] at e ⊢;obtain ⟨z,y⟩:=Ex r i (by simpa using h) j;have v:u=st.hp:=v;subst v;exact UX (st:=⟨f,st.hp⟩) (xw y e) ⟨by rw [z],rfl⟩
   simp only [qmv] at e ⊢;obtain ⟨z,y⟩:=Ex r i (by simpa using h) j;have v:u=st.hp:=v;subst v;exact UX (st:=⟨f,st.hp⟩) (xw y e) (by rw [z])
 have E:u=st.hp:=E;obtain ⟨d,p⟩:=xu r;have w:get f=get s.fr:=by rw [l,d,b];unfold frA;funext t;exact qk rfl fun k L _=>by simp at L ⊢;omega
 have a:St.keep ⟨f,u⟩ K=s.keep K:=by simp only [St.keep,E,p];congr 1;simp [w]
 rw [a];exact x
end
def Kw (P:Program) (o:List AOp) (d:Option Nat) (f:List (Nat×AV)) (h:List HObj) (K:St->Prop) (r:AV) (w:List (Nat×HObj)):Prop:=w=[]/\EW P o ⟨zb f d r,h⟩ K
section
variable {P:Program} {os:List AOp} {fr:List (Nat×AV)} {hp:List HObj} {K:St->Prop}
theorem Uk (e:∀ r,Mh P o (evF (get fr)) hp r=o.sem P (evF (get fr)) (hpf hp) hp.length r []):EW P (o::os) ⟨fr,hp⟩ K=o.wp P (get fr) hp (Kw P os o.dst fr hp K):=by simp only [EW,AOp.wp,Kw,e];exact propext ⟨fun ⟨r,h,u⟩=>⟨r,[],h,rfl,u⟩,fun ⟨r,w,h,u,v⟩=>⟨r,by rw [<-u];exact h,v⟩⟩
theorem qlX {a A}:EW P (.mv a A::os) ⟨fr,hp⟩ K=(AOp.mv a A).wp P (get fr) hp (Kw P os (some a) fr hp K):=Uk fun _=>rfl
theorem qlW {a A u v}:EW P (.ld a A u v::os) ⟨fr,hp⟩ K=(AOp.ld a A u v).wp P (get fr) hp (Kw P os (some a) fr hp K):=Uk fun _=>rfl
theorem qlV {a A u v}:EW P (.ia a A u v::os) ⟨fr,hp⟩ K=(AOp.ia a A u v).wp P (get fr) hp (Kw P os (some a) fr hp K):=Uk fun _=>rfl
theorem qiQ {a A u v j}:EW P (.iaa a A u v j::os) ⟨fr,hp⟩ K=(AOp.iaa a A u v j).wp P (get fr) hp (Kw P os (some a) fr hp K):=Uk fun _=>rfl
theorem sD {d:Option Nat} {r w}:Kw P os d fr hp K r w=(w=[]/\EW P os ⟨zb fr d r,hp⟩ K):=rfl
theorem qiS:EW P [] ⟨fr,hp⟩ K=K ⟨fr,hp⟩:=rfl
theorem sC {d f a} (r:AV) (h:∀ u:AV->List HObj->Prop,u r hp->qB P f (a.map (evF (get fr))) hp u) (k:EW P os ⟨(d,r)::fr,hp⟩ K):EW P (.call d f a::os) ⟨fr,hp⟩ K :=
 ⟨r,h _ ⟨rfl,rfl⟩,k⟩
end
attribute [simp] qlX  qlW  qlV qiQ   sD qiS
def Xi (a b:List AV):Bool:=eqL (eqA 9) a b
theorem KA {a b:List AV} (h:Xi a b=true):a=b:=Xj (fun _ _ h=>Kz 9 h) h
def eqQ:PR->PR->Bool
 | .val a,.val b=>eqA 9 a b
 | .made m z C,.made M s c=>Nat.beq m M&&Nat.beq z s&&Xi C c
 | .mapp E,.mapp e=>Lt oG E e
 | _,_=>false
theorem xD {a b:List Ent} (h:(a.map kvE).Perm (b.map kvE)):shP a=shP b:=by funext e c;exact propext ⟨fun k=>⟨h.symm.trans k.1,k.2⟩,fun k=>⟨h.trans k.1,k.2⟩⟩
theorem oH {a b:PR} (h:eqQ a b=true) (k:Jp P f y a):Jp P f y b:=by
 unfold eqQ at h;split at h
 . rwa [Kz 9 h] at k
 . simp only [qd] at h;rwa [qe h.1.1,qe h.1.2,KA h.2] at k
 . rename_i s E;have e:shP s=shP E:=(xD (XT (g:=kvE) (fun a b h=>OM h) h)).symm;show HX P f y (shP E);rw [<-e];exact k
 cases h
def isQ (Q:PR) (q:PR):Prop:=okP (eqQ q Q) True
theorem oN {T:TBL} (z:TBz P T) {n:Nat} {Q:PR} (h:(hdN T (n+1)).D f y (isQ Q)=True):Jp P f y Q:=by obtain ⟨q,u,v⟩:=(qf1 z (n+1) Me noS fun _ _ _ _ h=>h.elim).D _ _ _ (of_eq_true h);obtain ⟨j,_⟩:=qt v;exact oH j u
def qlP (k:Kn) (y:List AV) (q:PR):Kn:=match k with
 | .mix g => .mix fun z=>cond (Xi z y) (some q) (g z)
 | _ => .mix fun z=>cond (Xi z y) (some q) none
def qkQ (c:Cd) (y:List AV) (q:PR):Cd:=⟨c.f,c.md,c.n,c.rc,c.ct,qlP c.kn y q⟩
def qfw (T:TBL) (f:FuncId) (y:List AV) (q:PR):TBL:=fun g=>cond (Nat.beq g f) (qkQ (T f) y q) (T g)
theorem Mr {T:TBL} (s:TBz P T) {q:PR} (v:(T f).f=f) (u:(T f).kn.isCode=true) (h:Jp P f y q):TBz P (qfw T f y q):=fun g=>by
 unfold qfw;cases e:Nat.beq g f with
 | false=>exact s g
 | true =>
   have j:=s f;show CdZ P (qkQ (T f) y q);generalize T f=c at v u j;obtain ⟨b,md,n,r,C,kn⟩:=c;simp only at v u;subst v;have code:Kf P ⟨b,md,n,r,C,kn⟩:=Oq u j;cases kn with
   | code =>
     refine ⟨code,fun Z Q z=>?_⟩;have z:cond (Xi Z y) (some q) none=some Q:=z;cases e2:Xi Z y with
     | true=>rw [e2] at z;cases z;rw [KA e2];exact h
     | false=>rw [e2] at z;cases z
   | mix w =>
     obtain ⟨_,o⟩:=Oo rfl j;refine ⟨code,fun Z Q z=>?_⟩;have z:cond (Xi Z y) (some q) (w Z)=some Q:=z;cases e2:Xi Z y with
     | true=>rw [e2] at z;cases z;rw [KA e2];exact h
     | false=>rw [e2] at z;exact o _ _ z
   | pure w=>cases u
   | law w=>cases u
end Go.AM
