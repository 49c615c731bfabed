/-
  Kt5: texts joined: Zs1 Zs2 Zn1 Zf1 Zf2 Zf3 Za1 Za2 Za3 Zr6 Zm1 Zr7 Zk6 Kw0 Tp1 Zr8 Zl2 Tb0 Sl2 Zk1 Zk4. Own work.
-/
import Derived.Test.YtlahcgdnieenpaaGreatDoorKt4
set_option linter.all false
set_option linter.unusedSimpArgs false
set_option linter.unusedVariables false
set_option linter.unusedSectionVars false

set_option maxHeartbeats 0
namespace Go.AM
open Go.RowKit
def qdH (t:Nat) (p:FrL) (k:AV->FrL->Prop):Prop :=
 List.rec (motive := fun _ => Prop) (k .any [])
  (fun a r ih=>Prod.rec (motive:=fun _=>Prop) (fun j x=>Bool.rec (motive:=fun _=>Prop) (Bool.rec (motive:=fun _=>Prop) (VN r t fun y=>k y (a::r)) ih (Nat.blt j t)) (k x r) (Nat.beq j t)) a) p
theorem qcu (t : Nat) : ∀ (p : FrL),∃ p',(∀ t',t < t' -> get p' t' = get p t') /\ ∀ k,qdH t p k = k (get p t) p'
 | []=>⟨[],fun _ _=>rfl,fun k=>rfl⟩
 | (j, x)::r=>by
   have e:∀ k,qdH t ((j,x)::r) k=Bool.rec (motive:=fun _=>Prop) (Bool.rec (motive:=fun _=>Prop) (VN r t fun y=>k y ((j,x)::r)) (qdH t r k) (Nat.blt j t)) (k x r) (Nat.beq j t):=fun k=>rfl;by_cases h:j=t
   . subst h;refine ⟨r,fun t' ht=>?_,fun k=>?_⟩
     . simp only [get];rw [if_neg (Nat.ne_of_lt ht)]
     rw [e,Nat.beq_refl];simp only [get,if_true]
   cases hb:Nat.blt j t with
   | true =>
     obtain ⟨p',h1,h2⟩:=qcu t r;have hlt:=zd hb;refine ⟨p',fun t' ht=>?_,fun k=>?_⟩
     . rw [h1 t' ht];simp only [get];rw [if_neg (Nat.ne_of_lt (Nat.lt_trans hlt ht))]
     rw [e,qei h,hb];simp only [h2,get];rw [if_neg h]
   | false =>refine ⟨(j,x)::r,fun _ _=>rfl,fun k=>?_⟩;rw [e,qei h,hb];simp only [zq,get];rw [if_neg h]
def asc : List Nat -> Bool
 | []=>true
 | t::ts=>ts.all (fun t'=>Nat.blt t t')&&asc ts
def qaB (ds:List Nat):Type:=List.rec (motive:=fun _=>Type) (HL->Prop) (fun _ _ T=>AV->T) ds
def X6 : (ds : List Nat) -> (FrL -> HL -> Prop) -> qaB ds
 | [],F=>F []
 | d::ds,F=>fun x=>X6 ds fun kn=>F ((d,x)::kn)
def qhj : (ds : List Nat) -> qaB ds -> FrL -> HL -> Prop
 | [],J,_,hp=>(show HL->Prop from J) hp
 | d::ds,J,fr,hp=>qfm fr d fun x=>qhj ds ((show AV->qaB ds from J) x) fr hp
def qhk : (ds : List Nat) -> qaB ds -> HL -> Prop
 | [],J,hp=>(show HL->Prop from J) hp
 | _::ds,J,hp=>qhk ds ((show AV->qaB ds from J) (.v undef)) hp
def qg5 : (ts : List Nat) -> qaB ts -> FrL -> HL -> Prop
 | [],J,_,hp=>(show HL->Prop from J) hp
 | t::ts,J,p,hp=>qdH t p fun x p=>qg5 ts ((show AV->qaB ts from J) x) p hp
theorem qaO : ∀ (ds : List Nat) (F : FrL -> HL -> Prop) (fr : FrL) (hp : HL),qhj ds (X6 ds F) fr hp = F (ds.map fun d => (d,get fr d)) hp
 | [],F,fr,hp=>rfl
 | d::ds,F,fr,hp=>by show qfm fr d (fun x=>qhj ds (X6 ds fun kn=>F ((d,x)::kn)) fr hp)=_;rw [jX,qaO ds];rfl
theorem Wx : ∀ (ds : List Nat) (F : FrL -> HL -> Prop) (hp : HL),qhk ds (X6 ds F) hp = F (ds.map fun d => (d,.v undef)) hp
 | [],F,hp=>rfl
 | d::ds,F,hp=>by show qhk ds (X6 ds fun kn=>F ((d,.v undef)::kn)) hp=_;rw [Wx ds];rfl
theorem qbb : ∀ (ts : List Nat) (F : FrL -> HL -> Prop) (fr p : FrL) (hp : HL),asc ts = true -> (∀ t ∈ ts,get p t = get fr t) -> qg5 ts (X6 ts F) p hp = F (ts.map fun t => (t,get fr t)) hp
 | [],F,fr,p,hp,_,_=>rfl
 | t::ts, F, fr, p, hp, ha, hg=>by
   simp only [asc,Bool.and_eq_true] at ha;obtain ⟨p',h1,h2⟩:=qcu t p;show qdH t p (fun x p=>qg5 ts (X6 ts fun kn=>F ((t,x)::kn)) p hp)=_;rw [h2,qbb ts _ fr p' hp ha.2 fun t' ht=>?_,hg t (by simp)]
   . rfl
   rw [h1 t' (zd (List.all_eq_true.1 ha.1 t' ht))];exact hg t' (by simp [ht])
def qfC {α:Type} (J:α) (k:α->Prop):Prop:=k J
def box {α:Type} (x:α):α:=x
theorem qrj (ts:List Nat) (fr:FrL):∀ t,get ((ts.map fun t=>(t,get fr t))++fr) t=get fr t:=by
 induction ts with
 | nil=>intro t;rfl
 | cons a ts ih =>
   intro t;simp only [List.map_cons,List.cons_append,get];split
   . rename_i e;subst e;rfl
   exact ih t
theorem FJ.kn {J:List Nat} (ts:List Nat) (fr:FrL):FJ J ((ts.map fun t=>(t,get fr t))++fr) fr:=fun t _=>(qrj ts fr t).symm
def XO.dsts (x:XO):List Nat:=x.ops.filterMap AOp.dst
def Only (ds:List Nat) (fr fr':FrL):Prop:=∀ t,ds.contains t=false->get fr' t=get fr t
theorem Only.refl {ds fr}:Only ds fr fr:=fun _ _=>rfl
theorem Only.trans {ds ds' fr fr' fr''} (h:Only ds fr fr') (k:Only ds' fr' fr''):Only (ds++ds') fr fr'':=fun t ht=>by
 have:ds.contains t=false/\ds'.contains t=false:=by
  rw [<-Bool.not_eq_true,List.contains_iff_mem,List.mem_append] at ht;constructor
  . rw [<-Bool.not_eq_true,List.contains_iff_mem];exact fun q=>ht (.inl q)
  rw [<-Bool.not_eq_true,List.contains_iff_mem];exact fun q=>ht (.inr q)
 rw [k t this.2,h t this.1]
theorem zT {o:AOp} {fr:FrL} {r:AV}:Only ([o].filterMap AOp.dst) fr (qH fr o.dst r):=fun t ht=>by
 cases e:o.dst with
 | none=>rfl
 | some d =>simp only [List.filterMap_cons,e,List.filterMap_nil] at ht;simp only [qH,get];rw [if_neg];intro q;subst q;simp at ht
section
variable {P:Program} {S:YSp} {H:Hd} {J:List Nat}
def qx3:X1:=(fun _:Prop=>fun _ c=>c) hiT
def qii (X Y:X1):X1:=(fun _:Prop=>fun H c=>X H (Y H c)) hiT
def qft (X:K1->K1):X1:=(fun _:Prop=>fun _=>X) hiT
def qr : AOp -> X1
 | .call d f args=>fun H c fr hp=>ZB args fr fun xs=>H.C f xs hp fun r hp=>c ((d,r)::fr) hp
 | .callv d x args=>fun H c fr hp=>opZ x fr fun v=>ZB args fr fun xs=>V0 v xs H hp fun r hp=>c ((d,r)::fr) hp
 | .callx .. => jR
 | .rng .. => jR
 | .nxt .. => jR
 | .ent .. => jR
 | .isn d b kd x=>fun H c fr hp=>opZ x fr fun v=>qpC b kd v hp fun r=>c ((d,r)::fr) hp
 | o=>qft (xOp o)
def cXF : XO -> X1
 | .op o=>qr o
 | .ups d ks z m key d2 v=>fun H c fr hp=>opZ m fr fun x=>opZ key fr fun y=>opZ v fr fun a=>qg9 ks x y a hp fun hp=>c fr hp
 | .bsm d n sz zero parts=>fun H c fr hp=>ZB (parts.map (·.2)) fr fun xs=>qpq n sz zero parts xs hp fun r hp=>c ((d,r)::fr) hp
def qdQ : List XO -> X1
 | []=>qx3
 | x::xs=>qii (cXF x) (qdQ xs)
theorem qbo {ks:KS} {m key v:Opd} {c:K1} {fr:FrL} {hp:HL}:(opZ m fr fun x=>opZ key fr fun y=>opZ v fr fun a=>qg9 ks x y a hp fun hp=>c fr hp)=qcZ ks (qt m) (qt key) (qt v) c fr hp:=by unfold qcZ;rw [qp,qp,qp,qa,qa,qa];rfl
theorem qep (ok:HzOK P S H) {o:AOp} (ho:o.opds.all (YG J)=true) {c:K1} {fr:FrL} {hp:List HObj} (h:qr o H c fr hp):∃ fr' hp',Stp P S J [o] fr hp fr' hp'/\Only ([o].filterMap AOp.dst) fr fr'/\c fr' hp':=by
 have gen:∀ {o':AOp},o'.opds.all (YG J)=true->(∀ d f as,o'≠.call d f as)->xOp o' c fr hp->(∀ Y st K,(∃ r ws,o'.sem P (evF (get st.fr)) (hpf st.hp) st.hp.length r ws/\K (st.step o'.dst r ws))->aop P ⟨Y,RG P⟩ o' st K)->∃ fr' hp',Stp P S J [o'] fr hp fr' hp'/\Only ([o'].filterMap AOp.dst) fr fr'/\c fr' hp':=fun {o'} ho hc h ha=>by obtain ⟨r,hp',wi,h1,h2⟩:=qlq (P:=P) o' hc _ _ _ h;refine ⟨_,hp',fun Y hY Z hq frq hr hf=>?_,zT,h2⟩;obtain ⟨ws,h3,h4,_⟩:=h1 Z hq hr;exact ha _ _ _ ⟨r,ws,qar hf ho h3,hf.put _ _,h4⟩
 cases o with
 | call d f args =>have h:ZB args fr (fun xs=>H.C f xs hp fun r hp=>c ((d,r)::fr) hp):=h;rw [Qv] at h;obtain ⟨r,hp',h1,h2⟩:=ok.C _ _ _ _ h;refine ⟨_,hp',fun Y hY Z hq frq hr hf=>?_,zT (o := .call d f args) (r:=r),h2⟩;show jF P _ f (args.map (evF (get frq))) hq _;rw [hf.evs (by simpa [AOp.opds] using ho)];exact jm (fun r1 hp1 ⟨e1,e2⟩=>by rw [e1];exact ⟨hf.cons d r,e2⟩) (h1 Y hY Z hq hr)
 | callv d x args =>
   have h:opZ x fr (fun v=>ZB args fr fun xs=>V0 v xs H hp fun r hp=>c ((d,r)::fr) hp):=h;rw [qp,Qv] at h;unfold V0 at h;rw [show (AOp.callv d x args).opds=x::args from rfl,List.all_cons,Bool.and_eq_true] at ho;split at h
   . rename_i f first caps hx
     obtain ⟨h1,h2⟩:=ok.ok _ _ h;rw [zg] at h2;obtain ⟨r,hp',h3,h4⟩:=ok.C0 _ _ _ _ h2;refine ⟨_,hp',fun Y hY Z hq frq hr hf=>?_,zT (o := .callv d x args) (r:=r),h4⟩;simp only [zb,aop,hf.ev ho.1,hx,hf.evs ho.2];exact ⟨h1,Zr (fun r1 hp1 ⟨e1,e2⟩=>by rw [e1];exact ⟨hf.cons d r,e2⟩) (h3 Z hq hr)⟩
   . rename_i id hx;obtain ⟨r,hp',h3,h4⟩:=ok.Y _ _ _ _ h;refine ⟨_,hp',fun Y hY Z hq frq hr hf=>?_,zT (o := .callv d x args) (r:=r),h4⟩;simp only [zb,aop,hf.ev ho.1,hx,hf.evs ho.2];exact ⟨_,hY Z _ _ _ _ _ h3 hq hr,fun r1 hp1 ⟨e1,e2⟩=>by rw [e1];exact ⟨hf.cons d r,e2⟩⟩
   exact h.elim
 | callx d f args=>exact (show False from h).elim
 | rng d x=>exact (show False from h).elim
 | nxt d x=>exact (show False from h).elim
 | ent d x=>exact (show False from h).elim
 | isn d b kd x =>
   have h:opZ x fr (fun v=>qpC b kd v hp fun r=>c ((d,r)::fr) hp):=h;rw [qp] at h;unfold qpC at h;split at h
   . rename_i r hm;have hm:qiF (.isn d b kd x) (evF (get fr)) hp=some [(r,[])]:=hm;rw [Qj] at h;refine ⟨_,hp,fun Y hY Z hq frq hr hf=>?_,zT (o := .isn d b kd x) (r:=r),h⟩;have h1:=qfP hm;have h2 : (AOp.isn d b kd x).many (evF (get frq)) (hpf hq) hq.length fun r1 ws1 => (r1,ws1) ∈ [(r,([] : List (Nat × HObj)))] := by simp only [AOp.many] at h1 ⊢;rw [hf.ev (x:=x) (by simpa [AOp.opds] using ho)];exact h1
     have h4:(AOp.isn d b kd x).many (evF (get frq)) (hpf hq) hq.length fun r1 ws1=>FJ J (qH fr (some d) r) (St.step ⟨frq,hq⟩ (some d) r1 ws1).fr/\HR Z hp (St.step ⟨frq,hq⟩ (some d) r1 ws1).hp:=Zx (fun r1 ws1 h3=>by simp only [List.mem_singleton,Prod.mk.injEq] at h3;rw [h3.1,h3.2];exact ⟨hf.put _ _,hr⟩) h2;exact h4
   exact h.elim
 | _=>exact gen ho (fun _ _ _ e=>by cases e) h (fun Y st K h=>h)
theorem qiq {ks:KS} {m key v:Opd} {c:K1} {fr:FrL} {hp:List HObj} (h:qcZ ks (qt m) (qt key) (qt v) c fr hp):qcZ ks (qt m) (qt key) (qt v) (fun fr' hp'=>fr'=fr/\c fr' hp') fr hp:=by have e:(fun hp'=>fr=fr/\c fr hp')=fun hp'=>c fr hp':=funext fun hp'=>propext ⟨fun q=>q.2,fun q=>⟨rfl,q⟩⟩;unfold qcZ at h ⊢;rw [qa,qa,qa] at h ⊢;exact e ▸ h
theorem qqb (ok:HzOK P S H) {x:XO} (hx:x.off J=true) {c:K1} {fr:FrL} {hp:List HObj} (h:cXF x H c fr hp):∃ fr' hp',Stp P S J x.ops fr hp fr' hp'/\Only x.dsts fr fr'/\c fr' hp':=by
 cases x with
 | bsm d n sz zero parts =>
   have h:ZB (parts.map (·.2)) fr (fun xs=>qpq n sz zero parts xs hp fun r hp=>c ((d,r)::fr) hp):=h;rw [Qv] at h;unfold qpq at h;rcases Qf h with ⟨ys,ids,h1,h2⟩ | h2
   . obtain ⟨h3,h4⟩ := qaS h2;have h5:=qfN h4;rw [List.map_map] at h1;refine ⟨_,_,fun Y hY Z hq frq hr hf=>?_,zT (o := .bsl d n sz zero parts) (r := .mc hp.length 0 n n sz),h5⟩;have ho:(AOp.bsl d n sz zero parts).opds.all (YG J)=true:=hx;refine ⟨.mc hp.length 0 n n sz,_,qar hf ho ⟨ys,ids,hr.purA h1,h3,.inr ⟨by rw [hr.len],by rw [hr.len]⟩⟩,hf.put (some d) _,?_⟩;refine hr.write fun p hp'=>?_;rcases List.mem_append.1 hp' with k | k
     . exact hr.gones h1 p k
     simp at k;subst k;exact ⟨hr.new _ (Nat.le_refl _),Nat.le_refl _,rfl⟩
   exact h2.elim
 | op o=>exact qep ok hx h
 | ups d ks z m key d2 v =>obtain ⟨id,kv,b,hp',hm,hlt,h1,h2,h3,h4⟩:=Jk (qbo ▸ (show (opZ m fr fun x=>opZ key fr fun y=>opZ v fr fun a=>qg9 ks x y a hp fun hp=>c fr hp) from h));obtain ⟨fr',hp'',h5,h6⟩:=qqa ok hx (show cX (.ups d ks z m key d2 v) H (fun fr' hp''=>fr'=fr/\c fr' hp'') fr hp from qiq (qbo ▸ (show (opZ m fr fun x=>opZ key fr fun y=>opZ v fr fun a=>qg9 ks x y a hp fun hp=>c fr hp) from h)));exact ⟨fr',hp'',h5,by rw [h6.1];exact .refl,h6.2⟩
theorem qaU (ok : HzOK P S H) : ∀ {xs : List XO} {c : K1} {fr : FrL} {hp : List HObj},(xs.all (XO.off J)) = true -> qdQ xs H c fr hp -> ∃ fr' hp',Stp P S J (xs.flatMap XO.ops) fr hp fr' hp' /\ Only (xs.flatMap XO.dsts) fr fr' /\ c fr' hp'
 | [],c,fr,hp,_,h=>⟨fr,hp,fun Y hY Z hq frq hr hf=>⟨hf,hr⟩,.refl,h⟩
 | x::xs,c,fr,hp,hx,h=>by rw [List.all_cons,Bool.and_eq_true] at hx;obtain ⟨fr1,hp1,h1,o1,h2⟩:=qqb ok hx.1 (show cXF x H (qdQ xs H c) fr hp from h);obtain ⟨fr2,hp2,h3,o2,h4⟩:=qaU ok hx.2 h2;refine ⟨fr2,hp2,fun Y hY Z hq frq hr hf=>?_,o1.trans o2,h4⟩;rw [List.flatMap_cons];exact YJ (z9 (fun s ⟨q1,q2⟩=>h3 Y hY Z s.hp s.fr q2 q1) (h1 Y hY Z hq frq hr hf))
theorem FJ.made {ds:List Nat} {fr fr2 frq:FrL} (ho:Only ds fr fr2) (h:FJ J fr2 frq):FJ J ((ds.map fun d=>(d,get fr2 d))++fr) frq:=fun t ht=>by
 rw [h t ht,jY];have e:(ds.map fun d=>(d,get fr2 d)).map (·.1)=ds:=by rw [List.map_map];exact List.map_id ds
 rw [e];cases hc:ds.contains t with
 | false=>rw [ho t hc];simp
 | true =>simp only [if_true];rw [Zv (List.contains_iff_mem.1 hc)]
end
def gdK (v:AV) (b:Bool) (y n:Prop):Prop:=match v with
 | .v (.bool t)=>Bool.rec (motive:=fun _=>Prop) n y (Bool.rec (motive:=fun _=>Bool) (!b) b t)
 | .v (.tuple _)=>n
 | _=>False
def qpr (j:Nat) (b:Bool) (ds:List Nat) (X Y:X1):X1:=fun H c fr hp=>qfC (box (X6 ds fun kn hp=>Y H c (kn++fr) hp)) fun J=>qfm fr j fun v=>gdK v b (X H (fun fr2 hp2=>qhj ds J fr2 hp2) fr hp) (qhk ds J hp)
theorem qkc {P:Program} {os:List AOp} {gs:List Grp} {E:HE} {v:AV} {b:Bool} {y n:Prop} (h:gdK v b y n):(v = .v (.bool b)/\y)\/((∃ t,v = .v (.bool t)/\t≠b)/\n)\/((∃ vs,v = .v (.tuple vs))/\n):=by
 unfold gdK at h;split at h
 . rename_i t;cases t <;> cases b <;> first | exact .inl ⟨rfl,h⟩ | exact .inr (.inl ⟨⟨_,rfl,by decide⟩,h⟩)
 . exact .inr (.inr ⟨⟨_,rfl⟩,h⟩)
 exact h.elim
def Jm (gs:List XG):List (List Nat):=gs.map fun g=>g.ops.flatMap XO.dsts
def cXJ : List XG -> List (List Nat) -> X1
 | [],_=>qx3
 | ⟨none,os⟩::gs,_::dss=>qii (qdQ os) (cXJ gs dss)
 | ⟨some (j,b),os⟩::gs,ds::dss=>qpr j b ds (qdQ os) (cXJ gs dss)
 | _::_,[]=>jR
theorem WN : ∀ (os : List XO),os.flatMap XO.dsts = (os.flatMap XO.ops).filterMap AOp.dst
 | []=>rfl
 | o::os=>by rw [List.flatMap_cons,List.flatMap_cons,List.filterMap_append,WN os];rfl
theorem qfn {u:FrL} {x:AV} (h:∀ p∈u,p.2=x):∀ {t:Nat},(u.map (·.1)).contains t=true->get u t=x:=by
 induction u with
 | nil=>intro t ht;simp at ht
 | cons p u ih =>
   intro t ht;obtain ⟨j,y⟩:=p;simp only [get];split
   . exact h (j,y) (by simp)
   rename_i hne;refine ih (fun p hp=>h p (by simp [hp])) ?_;rw [List.map_cons,List.contains_cons,Bool.or_eq_true] at ht;rcases ht with q | q
   . exact absurd (eq_of_beq q).symm hne
   exact q
theorem qfo (os:List AOp) (fr:FrL) (t:Nat):get (((os.filterMap AOp.dst).map fun d=>(d,AV.v undef))++fr) t=get (jj os++fr) t:=by
 rw [jY,jY];have e1:((os.filterMap AOp.dst).map fun d=>(d,AV.v undef)).map (·.1)=os.filterMap AOp.dst:=by rw [List.map_map];exact List.map_id _
 have e3:(os.filterMap fun o=>o.dst.map fun d=>(d,AV.v undef))=(os.filterMap AOp.dst).map fun d=>(d,AV.v undef):=by rw [List.map_filterMap]
 have e2:(jj os).map (·.1)=(os.filterMap AOp.dst).reverse:=by unfold jj;rw [e3,List.map_reverse,e1]
 rw [e1,e2];have ec:(os.filterMap AOp.dst).reverse.contains t=(os.filterMap AOp.dst).contains t:=by rw [Bool.eq_iff_iff,List.contains_iff_mem,List.contains_iff_mem,List.mem_reverse]
 rw [ec];cases hc:(os.filterMap AOp.dst).contains t with
 | false=>simp
 | true =>simp only [if_true];rw [qfn (x := .v undef) (fun p hp=>by simp at hp;obtain ⟨_,_,rfl⟩:=hp;rfl) (by rw [e1];exact hc),qfn (x := .v undef) (fun p hp=>by unfold jj at hp;rw [e3] at hp;simp at hp;obtain ⟨_,_,rfl⟩:=hp;rfl) (by rw [e2,ec];exact hc)]
section
variable {P:Program} {S:YSp} {H:Hd} {J:List Nat}
theorem FJ.und {os:List AOp} {fr frq:FrL} (h:FJ J fr frq):FJ J (((os.filterMap AOp.dst).map fun d=>(d,AV.v undef))++fr) (jj os++frq):=fun t ht=>by rw [qfo];exact h.app _ t ht
theorem qbV (ok : HzOK P S H) : ∀ {gs : List XG} {c : K1} {fr : FrL} {hp : List HObj},(gs.all (XG.off J)) = true -> cXJ gs (Jm gs) H c fr hp -> ∃ fr' hp',qDy P S J (gs.map XG.grp) fr hp fr' hp' /\ c fr' hp'
 | [],c,fr,hp,_,h=>⟨fr,hp,fun Y hY Z hq frq hr hf=>⟨hf,hr⟩,h⟩
 | ⟨none,os⟩::gs,c,fr,hp,hx,h=>by rw [List.all_cons,Bool.and_eq_true] at hx;obtain ⟨fr1,hp1,h1,_,h2⟩:=qaU ok (by simpa [XG.off] using hx.1) (show qdQ os H (cXJ gs (Jm gs) H c) fr hp from h);obtain ⟨fr2,hp2,h3,h4⟩:=qbV ok hx.2 h2;exact ⟨fr2,hp2,fun Y hY Z hq frq hr hf=>z9 (fun s ⟨q1,q2⟩=>h3 Y hY Z s.hp s.fr q2 q1) (h1 Y hY Z hq frq hr hf),h4⟩
 | ⟨some (j, b), os⟩::gs, c, fr, hp, hx, h=>by
   rw [List.all_cons,Bool.and_eq_true] at hx;obtain ⟨hx1,hx2⟩:=hx;simp only [XG.off,Bool.and_eq_true] at hx1;have h:qpr j b (os.flatMap XO.dsts) (qdQ os) (cXJ gs (Jm gs)) H c fr hp:=h;simp only [qpr,qfC,box,jX,qaO,Wx] at h;have hj:∀ {frq},FJ J fr frq->get frq j=get fr j:=fun hf=>hf j (by simpa using hx1.1);have hu:cXJ gs (Jm gs) H c (((os.flatMap XO.dsts).map fun d=>(d,AV.v undef))++fr) hp->∃ fr' hp',(∀ Y,Yk Y S->∀ Z hq frq,HR Z hp hq->FJ J fr frq->q7 P ⟨Y,RG P⟩ (gs.map XG.grp) (qI (os.flatMap XO.ops) ⟨frq,hq⟩) (fun s=>FJ J fr' s.fr/\HR Z hp' s.hp))/\c fr' hp':=fun h=>by obtain ⟨fr2,hp2,h3,h4⟩:=qbV ok hx2 h;exact ⟨fr2,hp2,fun Y hY Z hq frq hr hf=>h3 Y hY Z hq _ hr (by rw [WN];exact hf.und),h4⟩
   rcases qkc (P:=P) (os:=[]) (gs:=[]) (E:=⟨noY,RG P⟩) h with ⟨ht,h⟩ | ⟨⟨t,ht,hne⟩,h⟩ | ⟨⟨vs,ht⟩,h⟩
   . obtain ⟨fr1,hp1,h1,o1,h2⟩:=qaU ok hx1.2 h;obtain ⟨fr2,hp2,h3,h4⟩:=qbV ok hx2 h2;refine ⟨fr2,hp2,fun Y hY Z hq frq hr hf=>?_,h4⟩;simp only [List.map_cons,XG.grp,q7,hj hf,ht];exact ⟨fun _=>z9 (fun s ⟨q1,q2⟩=>h3 Y hY Z s.hp s.fr q2 (FJ.made o1 q1)) (h1 Y hY Z hq frq hr hf),fun hne=>absurd rfl hne⟩
   . obtain ⟨fr2,hp2,h3,h4⟩:=hu h;refine ⟨fr2,hp2,fun Y hY Z hq frq hr hf=>?_,h4⟩;simp only [List.map_cons,XG.grp,q7,hj hf,ht];exact ⟨fun e=>absurd e hne,fun _=>h3 Y hY Z hq frq hr hf⟩
   obtain ⟨fr2,hp2,h3,h4⟩:=hu h;refine ⟨fr2,hp2,fun Y hY Z hq frq hr hf=>?_,h4⟩;simp only [List.map_cons,XG.grp,q7,hj hf,ht];exact h3 Y hY Z hq frq hr hf
def qat (st : Bool) : AOp -> Bool
 | .ld .. => true
 | .lku .. => true
 | .bsl .. => st
 | .call .. => st
 | .callv .. => st
 | _=>false
def qcv (st : Bool) : AOp -> Bool
 | .bsl .. => st
 | .call .. => st
 | .callv .. => st
 | _=>false
theorem qgB {st:Bool} {o:AOp} (h:qat st o=true) (hn:qcv st o=false) {ev hp new r ws} (hs:o.sem P ev hp new r ws):ws=[]:=by
 cases o with
 | bsl=>cases st with | true=>cases hn | false=>cases h
 | call=>cases st with | true=>cases hn | false=>cases h
 | callv=>cases st with | true=>cases hn | false=>cases h
 | ld d agg sz x =>
   simp only [AOp.sem,Q0] at hs
   (repeat' split at hs) <;> first | exact hs.1 | exact hs.elim
 | lku d ks z b m k =>
   simp only [AOp.sem] at hs;split at hs
   . split at hs
     . obtain ⟨_,_,_,e,_⟩:=hs;exact e
     . obtain ⟨_,_,_,_,e,_⟩:=hs;exact e
     exact hs.elim
   exact hs.elim
 | _=>cases h
def Al (st:Bool) (os:List AOp) (ex:Tr):Prop:=ex.length=os.length/\∀ (i:Nat) (o:AOp),os[i]?=some o->qat st o=true->∃ f:List Nat,ex[i]?=some (f,[])
theorem Al.nil {st}:Al st [] []:=⟨rfl,fun i o h=>by simp at h⟩
theorem Al.app {st} {a b:List AOp} {x y:Tr} (h:Al st a x) (k:Al st b y):Al st (a++b) (x++y):=by
 refine ⟨by simp [h.1,k.1],fun i o ho hs=>?_⟩;by_cases hi:i<a.length
 . rw [List.getElem?_append_left hi] at ho;obtain ⟨f,hf⟩:=h.2 i o ho hs;exact ⟨f,by rw [List.getElem?_append_left (by rw [h.1];exact hi)];exact hf⟩
 rw [List.getElem?_append_right (by omega)] at ho;obtain ⟨f,hf⟩:=k.2 _ o ho hs;exact ⟨f,by rw [List.getElem?_append_right (by rw [h.1];omega),h.1];exact hf⟩
theorem Al.off {st} (os:List AOp):Al st os (os.map fun _=>([],[])):=⟨by simp,fun i o ho _=>⟨[],by simp [ho]⟩⟩
theorem Al.one {st} {o:AOp} {f w:List Nat} (h:qat st o=true->w=[]):Al st [o] [(f,w)]:=⟨rfl,fun i o' ho hs=>by
 cases i with
 | zero=>simp at ho;subst ho;exact ⟨f,by rw [h hs];rfl⟩
 | succ i=>simp at ho⟩
def qAy (st : Bool) (os : List AOp) (un : List (Nat × Nat)) : Bool := un.all fun p => (match os[p.1]?,os[p.2]? with
 | some a,some b=>qat st a&&qat st b
 | _,_=>false)
theorem XM {st} {os : List AOp} {ex : Tr} (h : Al st os ex) : ∀ {un : List (Nat × Nat)},qAy st os un = true -> zJ ex un = true
 | [],_=>rfl
 | (i,j)::un,hu=>by
   rw [qAy,List.all_cons,Bool.and_eq_true] at hu;obtain ⟨h1,h2⟩:=hu;simp only at h1;split at h1
   . rename_i a b ha hb;rw [Bool.and_eq_true] at h1;obtain ⟨f,hf⟩:=h.2 i a ha h1.1;obtain ⟨g,hg⟩:=h.2 j b hb h1.2;simp only [zJ,hf,hg];rw [XM h (un:=un) h2];rfl
   cases h1
def qpO (P:Program) (st:Bool) (J:List Nat) (os:List AOp) (fr:FrL) (hp:List HObj) (fr':FrL) (hp':List HObj):Prop :=
 ∀ Z hq frq,HR Z hp hq->FJ J fr frq->∀ tr,Qc P os ⟨frq,hq⟩ tr (fun s t=>FJ J fr' s.fr/\HR Z hp' s.hp/\∃ ex,Al st os ex/\t=tr++ex)
def qqU (st : Bool) : AOp -> X1
 | .call d f args=>Bool.rec (motive:=fun _=>X1) ((fun H c fr hp=>ZB args fr fun xs=>e0V H f xs hp fun r hp=>c ((d,r)::fr) hp)) (fun H c fr hp=>ZB args fr fun xs=>e1V H f xs hp fun r=>c ((d,r)::fr) hp) st
 | .bsl d n sz zero parts=>Bool.rec (motive:=fun _=>X1) (qft (xOp (.bsl d n sz zero parts))) (fun H c fr hp=>ZB (parts.map (·.2)) fr fun xs=>qcX n sz zero parts xs hp fun r=>c ((d,r)::fr) hp) st
 | .callv d x args=>Bool.rec (motive:=fun _=>X1) ((fun H c fr hp=>opZ x fr fun v=>ZB args fr fun xs=>e0W v xs H hp fun r hp=>c ((d,r)::fr) hp)) (fun H c fr hp=>opZ x fr fun v=>ZB args fr fun xs=>e1W v xs H hp fun r=>c ((d,r)::fr) hp) st
 | .callx .. => jR
 | .rng .. => jR
 | .nxt .. => jR
 | .ent .. => jR
 | .isn .. => jR
 | o=>qft (xOp o)
theorem qqV (ok : HzOK P S H) {f : FuncId} {xs : List AV} {hp : HL} {k : AV -> HL -> Prop} (h : e0V H f xs hp k) : ∃ ys ids r hp',qh (hpf hp) xs = some (ys,ids) /\ k r hp' /\
 ((z8 P f ys r/\hp'=qc hp (bif r.scalar then [] else gones ids))\/(∃ m sz cs,jK P f ys m sz cs/\r = .ms hp.length 0 m sz/\hp'=qc hp (JH cs ids++[(hp.length,.cells cs)]))):=by
 unfold e0V at h;rcases Qf h with ⟨ys,ids,hp1,h⟩ | h
 . obtain ⟨q,h1,h2⟩:=ok.D _ _ _ h;cases q with
   | val r =>
     have h2:Bool.rec (motive:=fun _=>Prop) (qkf ids hp fun hp=>k r hp) (k r hp) r.scalar:=h2;refine ⟨ys,ids,r,_,hp1,?_,.inl ⟨h1,rfl⟩⟩;cases e:r.scalar with
     | true=>rw [e] at h2;exact h2
     | false=>rw [e] at h2;simp only [W2] at h2;exact h2
   | made m sz cs=>exact ⟨ys,ids,_,_,hp1,qfM (show qrI ids cs hp (fun n hp=>k (.ms n 0 m sz) hp) from h2),.inr ⟨m,sz,cs,h1,rfl,rfl⟩⟩
   | mapp es=>exact (show False from h2).elim
 exact h.elim
theorem qqX (ok:HzOK P S H) {f:FuncId} {xs:List AV} {hp:HL} {k:AV->Prop} (h:e1V H f xs hp k):∃ ys ids r,qh (hpf hp) xs=some (ys,ids)/\k r/\z8 P f ys r/\(bif r.scalar then [] else gones ids)=[]:=by
 unfold e1V at h;rcases Qf h with ⟨ys,ids,hp1,h⟩ | h
 . obtain ⟨q,h1,h2⟩:=ok.D _ _ _ h;cases q with
   | val r =>
     have h2:Bool.rec (motive:=fun _=>Prop) (qiL ids (k r)) (k r) r.scalar:=h2;refine ⟨ys,ids,r,hp1,?_,h1,?_⟩
     . cases e:r.scalar with
       | true=>rw [e] at h2;exact h2
       | false=>rw [e] at h2;exact (Xe (show qiL ids _ from h2)).2
     cases e:r.scalar with
     | true=>rfl
     | false=>rw [e] at h2;rw [(Xe (show qiL ids _ from h2)).1];rfl
   | _=>exact (show False from h2).elim
 exact h.elim
theorem qhT (ok:HzOK P S H) {st:Bool} {o:AOp} (ho:o.opds.all (YG J)=true) {c:K1} {fr:FrL} {hp:List HObj} (h:qqU st o H c fr hp):∃ fr' hp',qpO P st J [o] fr hp fr' hp'/\Only ([o].filterMap AOp.dst) fr fr'/\c fr' hp':=by
 have mk : ∀ {o' : AOp},o'.opds.all (YG J) = true -> ∀ {r : AV} {hp' : List HObj},(∀ Z hq,HR Z hp hq -> ∃ ws,o'.sem P (evF (get fr)) (hpf hq) hq.length r ws /\ HR Z hp' (qc hq ws) /\ (qcv st o' = true -> ws = [])) -> qpO P st J [o'] fr hp (qH fr o'.dst r) hp' := fun {o'} ho {r hp'} h1 Z hq frq hr hf tr => by
  obtain ⟨ws,h3,h4,h5⟩:=h1 Z hq hr;refine ⟨r,ws,qar hf ho h3,hf.put _ _,h4,_,Al.one (fun hs=>?_),rfl⟩;cases e:qcv st o' with
  | true=>rw [h5 e];rfl
  | false=>rw [qgB hs e h3];rfl
 have gen:∀ {o':AOp},o'.opds.all (YG J)=true->(∀ d f as,o'≠.call d f as)->qcv st o'=false->xOp o' c fr hp->∃ fr' hp',qpO P st J [o'] fr hp fr' hp'/\Only ([o'].filterMap AOp.dst) fr fr'/\c fr' hp':=fun {o'} ho hc hn h=>by obtain ⟨r,hp',wi,h1,h2⟩:=qlq (P:=P) o' hc _ _ _ h;exact ⟨_,hp',mk ho (fun Z hq hr=>by obtain ⟨ws,h3,h4,_⟩:=h1 Z hq hr;exact ⟨ws,h3,h4,fun q=>by rw [hn] at q;cases q⟩),zT,h2⟩
 cases o with
 | call d f args =>
   cases st with
   | false =>
     have h:ZB args fr (fun xs=>e0V H f xs hp fun r hp=>c ((d,r)::fr) hp):=h;rw [Qv] at h;unfold e0V at h;rcases Qf h with ⟨ys,ids,hp1,h⟩ | h
     . obtain ⟨q,h1,h2⟩:=ok.D _ _ _ h;cases q with
       | val r =>
         have h2:Bool.rec (motive:=fun _=>Prop) (qkf ids hp fun hp=>c ((d,r)::fr) hp) (c ((d,r)::fr) hp) r.scalar:=h2
         have h2:c ((d,r)::fr) (qc hp (bif r.scalar then [] else gones ids)):=by
          cases e:r.scalar with
          | true=>rw [e] at h2;exact h2
          | false=>rw [e] at h2;simp only [W2] at h2;exact h2
         refine ⟨_,_,mk ho (r:=r) (fun Z hq hr=>⟨_,⟨ys,ids,hr.purA hp1,.inl ⟨h1,rfl⟩⟩,?_,fun q=>by cases q⟩),zT (o := .call d f args) (r:=r),h2⟩;cases r.scalar with
         | true=>exact hr
         | false=>exact hr.write (hr.gones hp1)
       | made m sz cs =>
         have h2:=qfM (show qrI ids cs hp (fun n hp=>c ((d,.ms n 0 m sz)::fr) hp) from h2);refine ⟨_,_,mk ho (r := .ms hp.length 0 m sz) (fun Z hq hr=>⟨JH cs ids++[(hp.length,.cells cs)],⟨ys,ids,hr.purA hp1,.inr (.inl ⟨_,_,_,h1,by rw [hr.len],by rw [hr.len]⟩)⟩,hr.write fun p hp'=>?_,fun q=>by cases q⟩),zT (o := .call d f args) (r := .ms hp.length 0 m sz),h2⟩;rcases List.mem_append.1 hp' with k | k
         . exact hr.gones hp1 p (jq k)
         simp at k;subst k;exact ⟨hr.new _ (Nat.le_refl _),Nat.le_refl _,rfl⟩
       | mapp es=>exact (show False from h2).elim
     exact h.elim
   | true =>
     have h:ZB args fr (fun xs=>e1V H f xs hp fun r=>c ((d,r)::fr) hp):=h;rw [Qv] at h;unfold e1V at h;rcases Qf h with ⟨ys,ids,hp1,h⟩ | h
     . obtain ⟨q,h1,h2⟩:=ok.D _ _ _ h;cases q with
       | val r =>
         have h2:Bool.rec (motive:=fun _=>Prop) (qiL ids (c ((d,r)::fr) hp)) (c ((d,r)::fr) hp) r.scalar:=h2
         have h2:(bif r.scalar then [] else gones ids)=[]/\c ((d,r)::fr) hp:=by
          cases e:r.scalar with
          | true=>rw [e] at h2;exact ⟨rfl,h2⟩
          | false =>rw [e] at h2;obtain ⟨h3,h4⟩:=Xe (show qiL ids _ from h2);subst h3;exact ⟨rfl,h4⟩
         exact ⟨_,_,mk ho (r:=r) (fun Z hq hr=>⟨_,⟨ys,ids,hr.purA hp1,.inl ⟨h1,rfl⟩⟩,by rw [h2.1];exact hr,fun _=>h2.1⟩),zT (o := .call d f args) (r:=r),h2.2⟩
       | _=>exact (show False from h2).elim
     exact h.elim
 | bsl d n sz zero parts =>
   cases st with
   | false=>exact gen ho (fun _ _ _ e=>by cases e) rfl h
   | true =>
     have h:ZB (parts.map (·.2)) fr (fun xs=>qcX n sz zero parts xs hp fun r=>c ((d,r)::fr) hp):=h;rw [Qv] at h;unfold qcX at h;rcases Qf h with ⟨ys,ids,h1,h2⟩ | h2
     . obtain ⟨h0,h2⟩:=Xe h2;subst h0;obtain ⟨h3,h4⟩:=qaS h2;rw [List.map_map] at h1;have h5:c (qH fr (AOp.bsl d n sz zero parts).dst (.sl true n (Qp (zE n zero) sz ((parts.map (fun p=>p.1)).zip ys)))) hp:=h4;exact ⟨_,_,mk ho (fun Z hq hr=>⟨[],⟨ys,[],hr.purA h1,h3,.inl ⟨rfl,rfl⟩⟩,hr,fun _=>rfl⟩),zT (o := .bsl d n sz zero parts),h5⟩
     exact h2.elim
 | callv d x as =>
   have hox:YG J x=true/\as.all (YG J)=true:=by rw [show (AOp.callv d x as).opds=x::as from rfl,List.all_cons,Bool.and_eq_true] at ho;exact ho
   cases st with
   | false =>
     have h:opZ x fr (fun v=>ZB as fr fun xs=>e0W v xs H hp fun r hp=>c ((d,r)::fr) hp):=h;rw [qp,Qv] at h;unfold e0W at h;split at h
     . rename_i f first caps hx
       obtain ⟨h1,h2⟩:=ok.ok _ _ h;obtain ⟨h3,h4⟩:=qj h2;rw [zg] at h4;obtain ⟨ys,ids,r,hp',hp1,hk,hc⟩:=qqV ok h4;refine ⟨_,_,mk ho (r:=r) (hp':=hp') (fun Z hq hr=>?_),zT (o := .callv d x as) (r:=r),hk⟩;rcases hc with ⟨h5,rfl⟩ | ⟨m,sz,cs,h5,rfl,rfl⟩
       . refine ⟨(bif r.scalar then [] else gones ids),?_,?_,fun q => by cases q⟩
         . simp only [AOp.sem,hx];exact ⟨⟨h1,h3⟩,ys,ids,hr.purA hp1,.inl ⟨h5,rfl⟩⟩
         cases r.scalar with
         | true=>exact hr
         | false=>exact hr.write (hr.gones hp1)
       refine ⟨JH cs ids++[(hp.length,.cells cs)],?_,hr.write fun p hp'=>?_,fun q=>by cases q⟩
       . simp only [AOp.sem,hx];exact ⟨⟨h1,h3⟩,ys,ids,hr.purA hp1,.inr ⟨_,_,_,h5,by rw [hr.len],by rw [hr.len]⟩⟩
       rcases List.mem_append.1 hp' with k | k
       . exact hr.gones hp1 p (jq k)
       simp at k;subst k;exact ⟨hr.new _ (Nat.le_refl _),Nat.le_refl _,rfl⟩
     exact h.elim
   | true =>
     have h:opZ x fr (fun v=>ZB as fr fun xs=>e1W v xs H hp fun r=>c ((d,r)::fr) hp):=h;rw [qp,Qv] at h;unfold e1W at h;split at h
     . rename_i f first caps hx
       obtain ⟨h1,h2⟩:=ok.ok _ _ h;obtain ⟨h3,h4⟩:=qj h2;rw [zg] at h4;obtain ⟨ys,ids,r,hp1,hk,h5,h6⟩:=qqX ok h4;refine ⟨_,_,mk ho (r:=r) (hp':=hp) (fun Z hq hr=>⟨[],?_,hr,fun _=>rfl⟩),zT (o := .callv d x as) (r:=r),hk⟩;simp only [AOp.sem,hx];exact ⟨⟨h1,h3⟩,ys,ids,hr.purA hp1,.inl ⟨h5,h6.symm⟩⟩
     exact h.elim
 | callx d x as=>exact (show False from h).elim
 | rng d x=>exact (show False from h).elim
 | nxt d x=>exact (show False from h).elim
 | ent d x=>exact (show False from h).elim
 | isn d a b x=>exact (show False from h).elim
 | _=>exact gen ho (fun _ _ _ e=>by cases e) rfl h
def e0X (st : Bool) : XO -> X1
 | .op o=>qqU st o
 | .ups d ks z m key d2 v=>cXF (.ups d ks z m key d2 v)
 | .bsm .. => fun _ _ _ _=>False
theorem qqW (ok:HzOK P S H) {st:Bool} {x:XO} (hx:x.off J=true) {c:K1} {fr:FrL} {hp:List HObj} (h:e0X st x H c fr hp):∃ fr' hp',qpO P st J x.ops fr hp fr' hp'/\Only x.dsts fr fr'/\c fr' hp':=by
 cases x with
 | bsm=>exact (show False from h).elim
 | op o=>exact qhT ok hx h
 | ups d ks z m key d2 v =>
   obtain ⟨id,kv,b,hp',hm,hlt,h1,h2,h3,h4⟩:=Jk (qbo ▸ (show (opZ m fr fun x=>opZ key fr fun y=>opZ v fr fun a=>qg9 ks x y a hp fun hp=>c fr hp) from h));refine ⟨fr,hp',fun Z hq frq hr hf tr=>?_,.refl,h3⟩;have hx':=hx;simp only [XO.off,Bool.and_eq_true,bne_iff_ne,ne_eq] at hx';obtain ⟨⟨⟨⟨⟨j1,j2⟩,j3⟩,j4⟩,j5⟩,j6⟩:=hx';obtain ⟨es',c',hq',h5,hb,hc,h6,h7⟩:=h4 Z hq hr;rw [<-hf.ev j6] at h6;obtain ⟨x,n,ws1,ws3,k1,k2,k3,_,_,_,_⟩:=XF (P:=P) hx ((hf.ev j4).trans hm) (by rw [hf.ev j5];exact h1) h2 h5 hb hc h6;refine ⟨_,ws1,k1,_,[],?_,_,ws3,k2,?_,?_,?_⟩
   . simp only [AOp.sem,evF,St.step,qH,AOp.dst,get,if_true];exact ⟨I n,by simp,by trivial,by trivial⟩
   . exact (hf.junk j1 _).junk j2 _
   . show HR Z hp' (qc (qc (qc hq ws1) []) ws3);simp only [qc];rw [k3];exact h7
   refine ⟨[_,_,_],⟨rfl,fun i o ho hs=>?_⟩,by rw [List.append_assoc,List.append_assoc];rfl⟩
   match i,ho with
   | 0,ho=>cases ho;cases hs
   | 1,ho=>cases ho;cases hs
   | 2,ho=>cases ho;cases hs
   | i+3,ho=>simp [XO.ops] at ho
def qdS (st : Bool) : List XO -> X1
 | []=>qx3
 | x::xs=>qii (e0X st x) (qdS st xs)
theorem qbc (ok : HzOK P S H) {st : Bool} : ∀ {xs : List XO} {c : K1} {fr : FrL} {hp : List HObj},(xs.all (XO.off J)) = true -> qdS st xs H c fr hp -> ∃ fr' hp',qpO P st J (xs.flatMap XO.ops) fr hp fr' hp' /\ Only (xs.flatMap XO.dsts) fr fr' /\ c fr' hp'
 | [],c,fr,hp,_,h=>⟨fr,hp,fun Z hq frq hr hf tr=>⟨hf,hr,[],.nil,by simp⟩,.refl,h⟩
 | x::xs,c,fr,hp,hx,h=>by rw [List.all_cons,Bool.and_eq_true] at hx;obtain ⟨fr1,hp1,h1,o1,h2⟩:=qqW ok hx.1 (show e0X st x H (qdS st xs H c) fr hp from h);obtain ⟨fr2,hp2,h3,o2,h4⟩:=qbc ok hx.2 h2;refine ⟨fr2,hp2,fun Z hq frq hr hf tr=>?_,o1.trans o2,h4⟩;rw [List.flatMap_cons];refine WL (tr:=tr) (Qa (fun s t ⟨q1,q2,ex,q3,q4⟩=>?_) (h1 Z hq frq hr hf tr));exact Qa (fun s t ⟨k1,k2,ey,k3,k4⟩=>⟨k1,k2,_,q3.app k3,by rw [k4,q4,List.append_assoc]⟩) (h3 Z s.hp s.fr q2 q1 t)
def qde (st : Bool) : List XG -> List (List Nat) -> X1
 | [],_=>qx3
 | ⟨none,os⟩::gs,_::dss=>qii (qdS st os) (qde st gs dss)
 | ⟨some (j,b),os⟩::gs,ds::dss=>qpr j b ds (qdS st os) (qde st gs dss)
 | _::_,[]=>jR
def qiS (gs:List Grp):List AOp:=gs.flatMap (·.ops)
def qyK (P:Program) (st:Bool) (J:List Nat) (gs:List Grp) (fr:FrL) (hp:List HObj) (fr':FrL) (hp':List HObj):Prop :=
 ∀ Z hq frq,HR Z hp hq->FJ J fr frq->∀ tr,qZ P gs ⟨frq,hq⟩ tr (fun s t=>FJ J fr' s.fr/\HR Z hp' s.hp/\∃ ex,Al st (qiS gs) ex/\t=tr++ex)
theorem WO (ok : HzOK P S H) {st : Bool} : ∀ {gs : List XG} {c : K1} {fr : FrL} {hp : List HObj},(gs.all (XG.off J)) = true -> qde st gs (Jm gs) H c fr hp -> ∃ fr' hp',qyK P st J (gs.map XG.grp) fr hp fr' hp' /\ c fr' hp'
 | [],c,fr,hp,_,h=>⟨fr,hp,fun Z hq frq hr hf tr=>⟨hf,hr,[],.nil,by simp⟩,h⟩
 | ⟨none,os⟩::gs,c,fr,hp,hx,h=>by rw [List.all_cons,Bool.and_eq_true] at hx;obtain ⟨fr1,hp1,h1,_,h2⟩:=qbc ok (by simpa [XG.off] using hx.1) (show qdS st os H (qde st gs (Jm gs) H c) fr hp from h);obtain ⟨fr2,hp2,h3,h4⟩:=WO ok hx.2 h2;refine ⟨fr2,hp2,fun Z hq frq hr hf tr=>?_,h4⟩;refine Qa (fun s t ⟨q1,q2,ex,q3,q4⟩=>?_) (h1 Z hq frq hr hf tr);exact zf (fun s t ⟨k1,k2,ey,k3,k4⟩=>⟨k1,k2,_,q3.app k3,by rw [k4,q4,List.append_assoc]⟩) (h3 Z s.hp s.fr q2 q1 t)
 | ⟨some (j, b), os⟩::gs, c, fr, hp, hx, h=>by
   rw [List.all_cons,Bool.and_eq_true] at hx;obtain ⟨hx1,hx2⟩:=hx;simp only [XG.off,Bool.and_eq_true] at hx1;have h:qpr j b (os.flatMap XO.dsts) (qdS st os) (qde st gs (Jm gs)) H c fr hp:=h;simp only [qpr,qfC,box,jX,qaO,Wx] at h;have hj:∀ {frq},FJ J fr frq->get frq j=get fr j:=fun hf=>hf j (by simpa using hx1.1);have hu:qde st gs (Jm gs) H c (((os.flatMap XO.dsts).map fun d=>(d,AV.v undef))++fr) hp->∃ fr' hp',(∀ Z hq frq,HR Z hp hq->FJ J fr frq->∀ tr,qZ P (gs.map XG.grp) (qI (os.flatMap XO.ops) ⟨frq,hq⟩) (tr++(os.flatMap XO.ops).map fun _=>([],[])) (fun s t=>FJ J fr' s.fr/\HR Z hp' s.hp/\∃ ex,Al st (qiS ((⟨some (j,b),os⟩::gs:List XG).map XG.grp)) ex/\t=tr++ex))/\c fr' hp':=fun h=>by obtain ⟨fr2,hp2,h3,h4⟩:=WO ok hx2 h;refine ⟨fr2,hp2,fun Z hq frq hr hf tr=>?_,h4⟩;exact zf (fun s t ⟨k1,k2,ey,k3,k4⟩=>⟨k1,k2,_,(Al.off _).app k3,by rw [k4,List.append_assoc];rfl⟩) (h3 Z hq _ hr (by rw [WN];exact hf.und) _)
   rcases qkc (P:=P) (os:=[]) (gs:=[]) (E:=⟨noY,RG P⟩) h with ⟨ht,h⟩ | ⟨⟨t,ht,hne⟩,h⟩ | ⟨⟨vs,ht⟩,h⟩
   . obtain ⟨fr1,hp1,h1,o1,h2⟩:=qbc ok hx1.2 h;obtain ⟨fr2,hp2,h3,h4⟩:=WO ok hx2 h2;refine ⟨fr2,hp2,fun Z hq frq hr hf tr=>?_,h4⟩;simp only [List.map_cons,XG.grp,qZ,hj hf,ht];refine ⟨fun _=>Qa (fun s t ⟨q1,q2,ex,q3,q4⟩=>?_) (h1 Z hq frq hr hf tr),fun hne=>absurd rfl hne⟩;exact zf (fun s t ⟨k1,k2,ey,k3,k4⟩=>⟨k1,k2,_,q3.app k3,by rw [k4,q4,List.append_assoc]⟩) (h3 Z s.hp s.fr q2 (FJ.made o1 q1) t)
   . obtain ⟨fr2,hp2,h3,h4⟩:=hu h;refine ⟨fr2,hp2,fun Z hq frq hr hf tr=>?_,h4⟩;simp only [List.map_cons,XG.grp,qZ,hj hf,ht];exact ⟨fun e=>absurd e hne,fun _=>h3 Z hq frq hr hf tr⟩
   obtain ⟨fr2,hp2,h3,h4⟩:=hu h;refine ⟨fr2,hp2,fun Z hq frq hr hf tr=>?_,h4⟩;simp only [List.map_cons,XG.grp,qZ,hj hf,ht];exact h3 Z hq frq hr hf tr
end
def qhC (ins:List Nat) (dss:List (List Nat)) (gs:List XG) (ks:List Nat):CT:=fun H K fr hp=>qg5 ins (box (X6 ins fun kn hp=>cXJ gs dss H (Zq ks (K .normal)) (kn++fr) hp)) fr hp
def qhy (st:Bool) (ins:List Nat) (dss:List (List Nat)) (gs:List XG) (ks:List Nat):CT:=fun H K fr hp=>qg5 ins (box (X6 ins fun kn hp=>qde st gs dss H (Zq ks (K .normal)) (kn++fr) hp)) fr hp
def okF (ins:List Nat) (dss:List (List Nat)) (gs:List XG) (ks:List Nat):Bool:=asc ins&&decide (dss=Jm gs)&&okR gs ks
def okD (st:Bool) (ins:List Nat) (dss:List (List Nat)) (gs:List XG) (un:List (Nat × Nat)) (ks:List Nat):Bool:=okF ins dss gs ks&&qAy st (qiS (gs.map XG.grp)) un
section
variable {P:Program} {N:Nat}
theorem qf1 {x:Operand} (h:opd x=some (.k (.sl true 0 []))):x = .const (.slice none 0 0):=by
 cases x with
 | tmp t=>cases h
 | func f=>cases h
 | global _=>cases h
 | const v =>
   simp only [opd,Option.some.injEq,Opd.k.injEq] at h;unfold AV.ofValue at h;split at h
   . cases h
   unfold AV.ofCell at h;split at h
   . rfl
   cases h
theorem qhK {o:Oper} {d:Nat} (hc:zI P N o=some (.mv d (.k (.sl true 0 [])))):(o.op = .move (.const (.slice none 0 0))\/o.op = .assign (.const (.slice none 0 0)))/\o.dst=some d/\d<N:=by
 unfold zI at hc;split at hc
 . exfalso;split at hc <;> cases hc
 . exfalso;simp only [QL] at hc;(repeat' split at hc) <;> cases hc
 . exfalso;simp only [QL] at hc;(repeat' split at hc) <;> cases hc
 . exfalso;split at hc <;> cases hc
 . exfalso;simp only [Zs] at hc;(repeat' split at hc) <;> cases hc
 . rename_i d' hd;split at hc
   . rename_i hlt;generalize hop:o.op=op at hc;cases op with
     | move x =>simp only [qP,Option.map_eq_some_iff] at hc;obtain ⟨y,h1,h2⟩:=hc;cases h2;rw [qf1 h1];exact ⟨.inl rfl,hd,hlt⟩
     | assign x =>simp only [qP,Option.map_eq_some_iff] at hc;obtain ⟨y,h1,h2⟩:=hc;cases h2;rw [qf1 h1];exact ⟨.inr rfl,hd,hlt⟩
     | call c =>
       exfalso;simp only [qP,QO] at hc;split at hc
       . simp only [Z8] at hc;split at hc <;> (first | (cases hc;done) | (simp at hc))
       . simp only [Z7] at hc;(repeat' split at hc) <;> cases hc
       all_goals ((repeat' split at hc) <;> cases hc)
     | binOp op ty x y ty' =>
       exfalso;simp only [qP,jS,jU,jT] at hc
       (repeat' split at hc) <;> first | (cases hc;done) | skip
       all_goals
        rename_i hi
        (repeat' split at hi) <;> first | (cases hi;cases hc;done) | (cases hi;done)
     | makeMap t res =>
       exfalso;cases res with
       | none=>simp only [qP] at hc;cases hc
       | some x=>cases hc
     | next x b =>
       exfalso;cases b with
       | false=>simp only [qP,Option.map_eq_some_iff] at hc;obtain ⟨y,h1,h2⟩:=hc;cases h2
       | true=>cases hc
     | _ =>
       exfalso
       simp only [qP,V1,JO,JP,Option.map_eq_some_iff] at hc <;> first
        | (obtain ⟨_,_,h2⟩:=hc;cases h2;done)
        | ((repeat' split at hc) <;> first | (cases hc;done) | (simp only [Option.map_eq_some_iff] at hc;obtain ⟨_,_,h2⟩:=hc;cases h2;done))
   cases hc
 cases hc
theorem qhq {w1:World} {g1:G} {d:Nat} {ks:List Nat} {st:St} {Q:Exit->St->Prop} (h:Q .normal (St.keep ⟨(d,.v (.slice none 0 0))::st.fr,st.hp⟩ ks)):qcO P w1 g1 (.rgn [⟨none,[.mv d (.k (.sl true 0 []))]⟩] ks) st Q:=by
 intro N c a w g R ro n hf hr ht hs hl;cases c <;> first | exact hf.elim | skip
 rename_i id ops dd;obtain ⟨rfl,cl,hc,hg⟩:=hf;have hcl:cl=[(none,.mv d (.k (.sl true 0 [])))]:=by have:=Jn cl;rw [<-hg] at this;simpa [Q5] using this.symm
 subst hcl;refine wpIn_region ?_;rw [List.range_eq_range'];cases hl0:ops.toList with
 | nil=>rw [hl0] at hc;simp [zZ] at hc
 | cons o l =>
   rw [hl0] at hc;simp only [zZ] at hc;split at hc
   . rename_i ao gd cl' h1 h2 h3;simp only [Option.some.injEq,List.cons.injEq,Prod.mk.injEq] at hc;obtain ⟨⟨rfl,rfl⟩,rfl⟩:=hc
     have hln:l=[]:=by
      cases l with
      | nil=>rfl
      | cons o2 l2=>simp only [zZ] at h3;split at h3 <;> cases h3
     subst hln;have hsz:ops.size=1:=by rw [<-Array.length_toList,hl0];rfl
     have ho:ops[0]?=some o:=by rw [<-Array.getElem?_toList,hl0];rfl
     obtain ⟨hop,hd,hlt⟩:=qhK h1;rw [hsz];simp only [List.range'_succ,wpOpsIn,ho,List.range'_zero];rw [zP h2];simp only [zS,if_true];have hrun:OpRun ro n P o a w fun v w'=>v = .slice none 0 0/\w'=w:=by refine .of_value (by rcases hop with h | h <;> simp [h]) ⟨.slice none 0 0,w,?_,rfl,rfl⟩;rcases hop with h | h <;> (simp [execOp,h];rfl)
     refine hrun _ _ fun v w2 hv=>?_;obtain ⟨hv1,hv2⟩:=hv;subst hv1;subst hv2;have hs1:Sim N ⟨(d,.v (.slice none 0 0))::st.fr,st.hp⟩ (a.put o.dst (.slice none 0 0)) w2 g:=by have:=hs.step (d:=some d) (r := .v (.slice none 0 0)) (v := .slice none 0 0) (fun k e=>by cases e;exact hlt) (.refl _ _ _) (.v _ _) hs.2.2;rw [hd];exact this
     exact hl .normal _ _ _ g h (hs1.keep ks) (.refl _ _ _) (.nil (qV _ _ _))
   cases hc
end
def qnj (cl:List COp):Bool:=cl.all fun c=>match c.2 with
 | .mpe .. => false
 | _=>true
theorem qdr {cl:List COp} (h:qnj cl=true) {i k:Nat}:zy cl i k=false:=by
 unfold zy;split
 . rename_i h1 h2;have:=List.all_eq_true.1 h _ (List.mem_of_getElem? h2);simp at this
 rfl
def qpB : AOp -> Bool
 | .ld .. => true
 | _=>false
def chn (o:AOp):Bool:=o.touch && !qpB o
def X4 (un:List (Nat × Nat)) (cl:List COp) (i:Nat):Bool:=un.any fun q=>(q.1==i&&(match cl[q.2]? with | some c=>chn c.2 | none=>false)) || (q.2==i&&(match cl[q.1]? with | some c=>chn c.2 | none=>false))
def frA (Rs:List Rec) (fr:List (Nat × AV)) (i:Nat):Nat->AV:=qm (Rs.map Rec.F) (fun k=>decide (k<i)) (get fr)
structure Flo (P:Program) (E:HE) (un:List (Nat × Nat)) (cl:List COp) (fr0:List (Nat × AV)) (Rs:List Rec) (J:Nat->List HObj->Prop):Prop where
 len:Rs.length=cl.length
 gd:∀ i (h:i<cl.length),cl[i].1=none
 dst:∀ i (h:i<cl.length) (h':i<Rs.length),Rs[i].dst=cl[i].2.dst
 chain:∀ i (h:i<cl.length) (h':i<Rs.length),chn cl[i].2=true->∀ fr hq,(∀ x∈cl[i].2.opds,evF (get fr) x=evF (frA Rs fr0 i) x)->J i hq->aop P E cl[i].2 ⟨fr,hq⟩ fun s=>s.fr=qH fr Rs[i].dst Rs[i].r/\J (i+1) s.hp
 still:∀ i (h:i<cl.length),chn cl[i].2=false->∀ hq,J i hq↔J (i+1) hq
 look:∀ i (h:i<cl.length) (h':i<Rs.length),chn cl[i].2=false->∀ k,k<=cl.length->(cl[i].2.touch=true->X4 un cl i=false->k=i)->∀ fr hq,(∀ x∈cl[i].2.opds,evF (get fr) x=evF (frA Rs fr0 i) x)->J k hq->aop P E cl[i].2 ⟨fr,hq⟩ fun s=>s=⟨qH fr Rs[i].dst Rs[i].r,hq⟩
section
variable {P:Program} {E:HE} {w1:World} {g1:G}
theorem Flo.const {un cl fr0 Rs J} (f:Flo P E un cl fr0 Rs J) {a b:Nat} (hab:a<=b) (hb:b<=cl.length) (h:∀ t,a<=t->t<b->∀ (ht:t<cl.length),chn cl[t].2=false) (hq:List HObj):J a hq↔J b hq:=by
 induction b with
 | zero => have : a = 0 := by omega
           rw [this]
 | succ b ih =>
   by_cases e:a=b+1
   . rw [e]
   rw [ih (by omega) (by omega) (fun t h1 h2 ht=>h t h1 (by omega) ht)];exact f.still b (by omega) (h b (by omega) (by omega) (by omega)) hq
theorem qcS (hY : YS P E w1 g1) {gs : List Grp} {un : List (Nat × Nat)} {ks : List Nat} {st : St} {Q : Exit -> St -> Prop} {Rs : List Rec} {J : Nat -> List HObj -> Prop} (hno : qnj (Q5 gs) = true) (hcc : (un.all fun q => !((match (Q5 gs)[q.1]? with | some c => chn c.2 | none => false) && (match (Q5 gs)[q.2]? with | some c => chn c.2 | none => false))) = true) (f : Flo P E un (Q5 gs) st.fr Rs J) (h0 : J 0 st.hp)
 (hQ:∀ fr hq,get fr=frA Rs st.fr (Q5 gs).length->J (Q5 gs).length hq->Q .normal (St.keep ⟨fr,hq⟩ ks)):qcO P w1 g1 (.drw gs un ks) st Q:=by
 intro N c a w g R ro n hf hr ht hs hl;cases c <;> first | exact hf.elim | skip
 rename_i id ops dd;obtain ⟨rfl,hm,cl,pre,hc,hd,hg⟩:=hf;have hcl:Q5 gs=cl:=by rw [hg,Jn]
 rw [hcl] at hno f hQ hcc;have lsz:cl.length=ops.size:=by simpa using (qW hc).1
 have lR:=f.len;have noex:∀ i k,zy cl i k=false:=fun i k=>qdr hno
 have ord : ∀ i k (hik : i < k) (hk : k < cl.length),i ∉ pre.getD k [] -> ZU (cl[i]'(by omega)) cl[k] = true /\ ((cl[i]'(by omega)).2.touch = true -> cl[k].2.touch = true -> (i,k) ∈ un) := fun i k hik hk hp => by
  rcases jp hd hik (by omega) hk with h | ⟨h1,h2⟩
  . exact absurd h hp
  refine ⟨h1,?_⟩;rcases h2 with h2 | h2
  . rw [noex] at h2;cases h2
  exact h2
 have apart : ∀ i k (hik : i < k) (hk : k < cl.length),i ∉ pre.getD k [] -> (∀ d,(cl[i]'(by omega)).2.dst = some d -> d ∉ qK cl[k]) /\ (∀ d,cl[k].2.dst = some d -> d ∉ qK (cl[i]'(by omega))) /\ ∀ d,(cl[i]'(by omega)).2.dst = some d -> cl[k].2.dst ≠ some d := fun i k hik hk hp => by
  have h1:=(ord i k hik hk hp).1;simp only [ZU,Bool.and_eq_true] at h1;obtain ⟨⟨a1,a2⟩,a3⟩:=h1;refine ⟨fun d hd=>?_,fun d hd=>?_,fun d hd hd'=>?_⟩
  . rw [hd] at a1;simpa [Qm] using a1
  . rw [hd] at a2;simpa [Qm] using a2
  rw [hd,hd'] at a3;simp at a3
 have edp:=fun k (hk:k<ops.size)=>QV hd hk (by omega);have cmp:=fun i (hi:i<ops.size)=>(qW hc).2 i (by simpa using hi) (by omega);simp only [Array.getElem_toList] at cmp;have dstE:∀ i (h:i<cl.length) {d},(Rs[i]'(by omega)).F.on d=true->cl[i].2.dst=some d:=fun i h d hon=>by rw [<-f.dst i h (by omega)];exact QM hon
 have agree : ∀ (X : Nat -> Bool) (i : Nat) (hi : i < cl.length), Clo pre ops X -> X i = false -> (∀ j ∈ pre.getD i [], X j = true) -> ∀ fr, get fr = qm (Rs.map Rec.F) X (get st.fr) -> ∀ x ∈ cl[i].2.opds, evF (get fr) x = evF (frA Rs st.fr i) x := fun X i hi hX hx hr fr hfr x hx' => by
  refine ZV fun d hd=>?_;rw [hfr];have hd':d∈qK cl[i]:=by simp only [qK,List.mem_append,List.mem_flatMap];exact .inl ⟨x,hx',hd⟩
  refine qe rfl fun k hk hon=>?_;simp only [List.length_map] at hk;simp only [List.getElem_map] at hon;rcases Nat.lt_trichotomy k i with h | h | h
  . by_cases hp : k ∈ pre.getD i []
    . rw [hr k hp];simp [h]
    exact absurd hd' ((apart k i h hi hp).1 d (dstE k (by omega) hon))
  . subst h;rw [hx];simp
  cases e:X k with
  | false=>symm;simp;omega
  | true =>
    have hp:i∉pre.getD k []:=fun hp=>by have:=hX k (by omega) e i hp;rw [hx] at this;cases this
    exact absurd hd' ((apart i k h (by omega) hp).2.1 d (dstE k (by omega) hon))
 have next : ∀ (X : Nat -> Bool) (i : Nat) (hi : i < cl.length),Clo pre ops X -> X i = false -> qm (Rs.map Rec.F) (jO X i) (get st.fr) = (Rs[i]'(by omega)).F.app (qm (Rs.map Rec.F) X (get st.fr)) := fun X i hi hX hx => by
  have := zn (l := Rs.map Rec.F) (F := get st.fr) (X := X) (Y := jO X i) (i := i) (by simpa using (by omega : i < Rs.length)) hx (by simp [jO]) (fun j hj => by simp [jO,hj]) (fun k hk hlt hxk key hon => by
   simp only [List.length_map] at hk;simp only [List.getElem_map] at hon ⊢;have hp:i∉pre.getD k []:=fun hp=>by have:=hX k (by omega) hxk i hp;rw [hx] at this;cases this
   have a:=(apart i k hlt (by omega) hp).2.2 key (dstE i hi hon);rw [<-f.dst k (by omega) (by omega)] at a;simpa [Rec.F] using a)
  simpa using this
 refine wpIn_region_any hm (qd9 (pre := pre) (fun k hk => (edp k hk).1) (fun k hk => (edp k hk).2)
  (Inv:=fun X a' w'=>∃ fr hq g' k,k<=cl.length/\(∀ j (hj:j<cl.length),chn cl[j].2=true->(X j=true↔j<k))/\J k hq/\get fr=qm (Rs.map Rec.F) X (get st.fr)/\Sim N ⟨fr,hq⟩ a' w' g'/\Upd (hpf st.hp) g w (hpf hq) g' w'/\a'.defers=a.defers) ?_ ?_ ops.size _ a w.drew (by simp) (fun k hk hk1=>?_) ?_ ?_)
 . -- one operation
   intro X i a1 w2 next' hX hi hx hr ⟨fr,hq,g2,k,k1,k2,k3,k4,k5,k6,k7⟩ hnext
   have hic:i<cl.length:=by omega
   obtain ⟨c1,c2⟩:=cmp i hi;rw [f.gd i hic] at c2;unfold wpOpIn;simp only [Array.getElem?_eq_getElem hi];rw [zP c2];simp only [zS,if_true];have hag:=agree X i hic hX hx hr fr k4;have hnx:=next X i hic hX hx
   have before:∀ j (hj:j<cl.length),chn cl[j].2=true->j<i->k<=j->j∉pre.getD i []:=fun j hj hjc hji hkj hp=>by have:=(k2 j hj hjc).1 (hr j hp);omega
   have behind:∀ j (hj:j<cl.length),chn cl[j].2=true->i<j->j<k->i∉pre.getD j []:=fun j hj hjc hij hjk hp=>by have:=hX j (by omega) ((k2 j hj hjc).2 hjk) i hp;rw [hx] at this;cases this
   have two:∀ t u (h1:t<cl.length) (h2:u<cl.length),chn cl[t].2=true->chn cl[u].2=true->(t,u)∈un->False:=fun t u h1 h2 e1 e2 hun=>by have:=List.all_eq_true.1 hcc _ hun;simp [h1,h2,e1,e2] at this
   have tch:∀ t (h:t<cl.length),chn cl[t].2=true->cl[t].2.touch=true:=fun t h e=>by simp only [chn,Bool.and_eq_true] at e;exact e.1
   have htr:=ht.trans k6.tr;by_cases hch:chn cl[i].2=true
   . -- it changes objects: all that do so ahead of it are done, none behind it
     have hki:k<=i:=by
      rcases Nat.lt_or_ge i k with h | h
      . have:=(k2 i hic hch).2 h;rw [hx] at this;cases this
      exact h
     have none : ∀ t,k <= t -> t < i -> ∀ (ht : t < cl.length),chn cl[t].2 = false := fun t h1 h2 h3 => by
      cases e:chn cl[t].2 with
      | false=>rfl
      | true=>exact (two t i h3 hic e hch ((ord t i h2 hic (before t h3 e h2 h1)).2 (tch t h3 e) (tch i hic hch))).elim
     have hJ:=(f.const hki (by omega) none hq).1 k3;refine Zm c1 (f.chain i hic (by omega) hch fr hq hag hJ) hY htr k5 fun st' a' w' g' hK hs' hu hd=>hnext _ _ ⟨st'.fr,st'.hp,g',i+1,by omega,fun j hj hjc=>?_,hK.2,?_,hs',k6.trans hu,hd.trans k7⟩
     . by_cases e : j = i
       . subst e;simp [jO]
       simp only [jO,if_neg e];rw [k2 j hj hjc];constructor
       . intro h;omega
       intro h;rcases Nat.lt_or_ge j k with h2 | h2
       . exact h2
       have:=none j h2 (by omega) hj;rw [hjc] at this;cases this
     rw [hK.1,hnx,<-k4,Qg]
   -- it looks, or not even that
   have hch:chn cl[i].2=false:=by simpa using hch
   have go:∀ k',k'<=cl.length->(cl[i].2.touch=true->X4 un cl i=false->k'=i)->J k' hq->Oper.wpIn (W ro) n P ops[i] a1 w2 next' R:=fun k' h1 h2 h3 =>
    Zm c1 (f.look i hic (by omega) hch k' h1 h2 fr hq hag h3) hY htr k5 fun st' a' w' g' hK hs' hu hd => hnext _ _ ⟨st'.fr,st'.hp,g',k,k1,fun j hj hjc => by
     have e:j≠i:=fun e=>by subst e;rw [hch] at hjc;cases hjc
     simp only [jO,if_neg e];exact k2 j hj hjc,by rw [hK];exact k3,by rw [hK,hnx,<-k4,Qg],hs',k6.trans hu,hd.trans k7⟩
   by_cases hfr:cl[i].2.touch=true/\X4 un cl i=false
   . -- its Qp is that of the text
     have nofree : ∀ t (h : t < cl.length),chn cl[t].2 = true -> (i,t) ∉ un /\ (t,i) ∉ un := fun t h e => by
      constructor
      . intro hun;have:X4 un cl i=true:=List.any_eq_true.2 ⟨(i,t),hun,by simp [h,e]⟩;rw [hfr.2] at this;cases this
      intro hun;have:X4 un cl i=true:=List.any_eq_true.2 ⟨(t,i),hun,by simp [h,e]⟩;rw [hfr.2] at this;cases this
     rcases Nat.le_total k i with hki | hik
     . refine go i (by omega) (fun _ _ => rfl) ((f.const hki (by omega) (fun t h1 h2 h3 => ?_) hq).1 k3);cases e:chn cl[t].2 with
       | false=>rfl
       | true=>exact absurd ((ord t i h2 hic (before t h3 e h2 h1)).2 (tch t h3 e) hfr.1) (nofree t h3 e).2
     refine go i (by omega) (fun _ _=>rfl) ((f.const hik k1 (fun t h1 h2 h3=>?_) hq).2 k3);cases e:chn cl[t].2 with
     | false=>rfl
     | true =>
       have hne:i<t:=by
        rcases Nat.lt_or_eq_of_le h1 with h | h
        . exact h
        subst h;rw [hch] at e;cases e
       exact absurd ((ord i t hne h3 (behind t h3 e hne h2)).2 hfr.1 (tch t h3 e)) (nofree t h3 e).1
   exact go k k1 (fun h1 h2=>absurd ⟨h1,h2⟩ hfr) k3
 . -- the end
   intro X a1 w2 hall ⟨fr,hq,g2,k,k1,k2,k3,k4,k5,k6,k7⟩
   have hJ : J cl.length hq := (f.const k1 (Nat.le_refl _) (fun t h1 h2 h3 => by
    cases e:chn cl[t].2 with
    | false=>rfl
    | true =>have:=(k2 t h3 e).1 (hall t (by omega));omega) hq).1 k3
   refine hl .normal _ _ _ g2 (hQ fr hq ?_ hJ) (k5.keep ks) k6 (.nil k7);rw [k4];funext t;exact qe rfl fun k hk _=>by simp only [List.length_map] at hk;rw [hall k (by omega)];simp;omega
 . rw [zz _ k hk] at hk1;cases hk1
 . have : ∀ m,unl (lst (Array.replicate ops.size false)) m <= m := fun m => by
    induction m with
    | zero=>exact Nat.le_refl _
    | succ m ih=>simp only [unl];split <;> omega
   exact this _
 obtain ⟨hokd,hud⟩:=hs.2.2.drew;refine ⟨st.fr,st.hp,g,0,Nat.zero_le _,fun j hj _=>?_,h0,?_,⟨hs.1,hs.2.1.mono hud.tr,hokd⟩,hud,rfl⟩
 . rw [zz _ j (by omega)];simp
 have:qm (Rs.map Rec.F) (lst (Array.replicate ops.size false)) (get st.fr)=qm (Rs.map Rec.F) (fun _=>false) (get st.fr):=by funext t;exact qe rfl fun k hk _=>zz _ k (by simp at hk;omega)
 rw [this,qx (fun _=>rfl)]
end
theorem qdi {o:AOp} (h:o.touch=false) (F:Nat->AV) (H:Hp):o.foot F H=[]:=by cases o <;> first | rfl | (simp [AOp.touch,AOp.heapy] at h)
def qzO (a b:List AV):Bool:=eqL (eqA 6) a b
theorem qeU {a b:List AV} (h:qzO a b=true):a=b:=Yo (fun _ _ h=>Y8 6 h) h
def qpv (L:List (Nat × List AV)) (hp:List HObj) (k:Prop):Prop:=List.rec (motive:=fun _=>Prop) k (fun p _ ih=>Jl hp p.1 fun cs=>okP (qzO cs p.2) ih) L
theorem qa5 {hp : List HObj} {k : Prop} : ∀ {L : List (Nat × List AV)},qpv L hp k -> (∀ p ∈ L,hpf hp p.1 = some (.cells p.2)) /\ k
 | [],h=>⟨fun p hp=>(by cases hp),h⟩
 | p::L,h=>by
   obtain ⟨cs,h1,h2⟩:=zp (show Jl hp p.1 _ from h);obtain ⟨h3,h4⟩:=qj h2;obtain ⟨h5,h6⟩:=qa5 (show qpv L hp k from h4);refine ⟨fun q hq=>?_,h6⟩;rcases List.mem_cons.1 hq with e | e
   . subst e;rw [<-qeU h3];exact h1
   exact h5 q e
def qqg (PH:List (List HObj)) (id:Nat) (cs:List AV) (k:Prop):Prop:=List.rec (motive:=fun _=>Prop) k (fun hp _ ih=>Jl hp id fun cs'=>okP (qzO cs' cs) ih) PH
theorem qeF {id : Nat} {cs : List AV} {k : Prop} : ∀ {PH : List (List HObj)},qqg PH id cs k -> (∀ hp ∈ PH,hpf hp id = some (.cells cs)) /\ k
 | [],h=>⟨fun p hp=>(by cases hp),h⟩
 | hp::PH,h=>by
   obtain ⟨cs',h1,h2⟩:=zp (show Jl hp id _ from h);obtain ⟨h3,h4⟩:=qj h2;obtain ⟨h5,h6⟩:=qeF (show qqg PH id cs k from h4);refine ⟨fun q hq=>?_,h6⟩;rcases List.mem_cons.1 hq with e | e
   . subst e;rw [<-qeU h3];exact h1
   exact h5 q e
abbrev FLO:=AOp × Bool
def qaD : List FLO -> Hd -> K1 -> FrL -> List HObj -> List (Nat × List AV) -> List (List HObj) -> Prop
 | [],_,c,fr,hp,_,_=>c fr hp
 | (.call d f args,_)::os,H,c,fr,hp,L,PH=>QX args fr fun xs=>H.C f xs hp fun x hp1=>qpv L hp1 (qaD os H c ((d,x)::fr) hp1 L (hp::PH))
 | (.ld d agg sz x,b)::os,H,c,fr,hp,L,PH=>qt x fr fun v=>match v with
   | .ptr cs off=>ldP agg sz off cs fun y=>qaD os H c ((d,y)::fr) hp L PH
   | .ref id off=>Jl hp id fun cs=>ldP agg sz off cs fun y=>Bool.rec (motive:=fun _=>Prop) (qaD os H c ((d,y)::fr) hp L PH) (qqg PH id cs (qaD os H c ((d,y)::fr) hp ((id,cs)::L) PH)) b
   | _=>False
 | (o,_)::os,H,c,fr,hp,L,PH=>Bool.rec (motive:=fun _=>Prop) (cOp o (fun fr hp1=>qaD os H c fr hp L PH) fr hp) (qps o (fun fr1 hp1=>qpv L hp1 (qaD os H c fr1 hp1 L (hp::PH))) fr hp) o.touch
def qlw (P:Program) (S:YSp) (o:AOp) (F:Nat->AV) (hp:List HObj) (r:AV) (hp1:List HObj):Prop:=match o with
 | .call d f args=>∀ Y,Yk Y S->∀ Z hq,HR Z hp hq->jF P ⟨Y,RG P⟩ f (args.map (evF F)) hq (fun r1 h1=>r1=r/\HR Z hp1 h1)
 | .ld d agg sz x=>hp1=hp/\Q0 (hpf hp) r [] agg sz (evF F x)
 | o=>(o.touch=false/\hp1=hp/\o.sem P (evF F) (hpf hp) hp.length r [])\/(o.touch=true/\∀ Z hq,HR Z hp hq->∃ ws,o.sem P (evF F) (hpf hq) hq.length r ws/\HR Z hp1 (qc hq ws))
def LdF (o:AOp) (F:Nat->AV) (h:List HObj) (r:AV):Prop:=match o with
 | .ld d agg sz x=>Q0 (hpf h) r [] agg sz (evF F x)
 | _=>True
inductive FRun (P : Program) (S : YSp) : List FLO -> FrL -> List HObj -> List Rec -> List (List HObj) -> FrL -> List HObj -> Prop
 | nil (fr hp):FRun P S [] fr hp [] [] fr hp
 | cons {o b os fr hp r hp1 Rs hs fr' hp'}:qlw P S o (get fr) hp r hp1->FRun P S os (qH fr o.dst r) hp1 Rs hs fr' hp'->FRun P S ((o,b)::os) fr hp (⟨o.dst,r,[],[]⟩::Rs) (hp1::hs) fr' hp'
section
variable {P:Program} {S:YSp} {H:Hd}
theorem WU {R:Rec} {Rs:List Rec} {fr:FrL} {i:Nat}:frA (R::Rs) fr (i+1)=frA Rs (qH fr R.dst R.r) i:=by simp only [frA,List.map_cons,qm,Nat.zero_lt_succ,decide_true,if_true,Nat.add_lt_add_iff_right];rw [Qg]
theorem WV {Rs:List Rec} {fr:FrL}:frA Rs fr 0=get fr:=by unfold frA;rw [qx (fun i=>by simp)]
def qhd (os:List FLO) (fr:FrL) (Rs:List Rec) (hs:List (List HObj)):Prop:=∀ i (h:i<os.length) (h':i<Rs.length),os[i].2=true->∀ hp∈hs,LdF os[i].1 (frA Rs fr i) hp Rs[i].r
theorem qgu {hp:List HObj} {id off:Nat} {cs:List AV} {agg:Bool} {sz:Nat} {r:AV} (h1:hpf hp id=some (.cells cs)) (h2:match agg with | true=>off+sz<=cs.length/\r = .agg (qy cs off sz) | false=>∃ y,cs[off]?=some y/\r=y):Q0 (hpf hp) r [] agg sz (.ref id off):=by simp only [Q0,h1];exact ⟨trivial,h2⟩
theorem qe0 (ok : HzOK P S H) : ∀ {os : List FLO} {c : K1} {fr : FrL} {hp : List HObj} {L : List (Nat × List AV)} {PH : List (List HObj)}, qaD os H c fr hp L PH ->
 ∃ Rs hs fr' hp',FRun P S os fr hp Rs hs fr' hp'/\(∀ p∈L,hpf hp p.1=some (.cells p.2)->∀ h∈hs,hpf h p.1=some (.cells p.2))/\qhd os fr Rs (PH++hp::hs)/\c fr' hp'
 | [],c,fr,hp,L,PH,h=>⟨[],[],fr,hp,.nil fr hp,fun p _ _ h hh=>(by cases hh),fun i h=>by simp at h,h⟩
 | (o, b)::os, c, fr, hp, L, PH, h=>by
   have step : ∀ {r : AV} {hp1 : List HObj} {L1 : List (Nat × List AV)} {PH1 : List (List HObj)}, qlw P S o (get fr) hp r hp1 -> (∀ p ∈ L, p ∈ L1 /\ (hpf hp p.1 = some (.cells p.2) -> hpf hp1 p.1 = some (.cells p.2))) -> (∀ x, x ∈ PH ++ [hp, hp1] -> x ∈ PH1 ++ [hp1]) ->
    (b=true->∀ hs,(∀ p∈L1,hpf hp1 p.1=some (.cells p.2)->∀ h∈hs,hpf h p.1=some (.cells p.2))->∀ x∈PH++hp::hp1::hs,LdF o (get fr) x r)->qaD os H c (qH fr o.dst r) hp1 L1 PH1 ->
    ∃ Rs hs fr' hp',FRun P S ((o,b)::os) fr hp Rs hs fr' hp'/\(∀ p∈L,hpf hp p.1=some (.cells p.2)->∀ h∈hs,hpf h p.1=some (.cells p.2))/\qhd ((o,b)::os) fr Rs (PH++hp::hs)/\c fr' hp':=fun {r hp1 L1 PH1} hg hL hPH hb h=>by
    obtain ⟨Rs,hs,fr',hp',k1,k2,k3,k4⟩:=qe0 ok h;refine ⟨⟨o.dst,r,[],[]⟩::Rs,hp1::hs,fr',hp',.cons hg k1,fun p hp2 hc x hx=>?_,fun i hi hi' hf x hx=>?_,k4⟩
    . obtain ⟨q1,q2⟩ := hL p hp2;rcases List.mem_cons.1 hx with e | e
      . subst e;exact q2 hc
      exact k2 p q1 (q2 hc) x e
    cases i with
    | zero =>rw [WV];exact hb hf hs k2 x hx
    | succ i =>
      rw [WU];refine k3 i (by simpa using hi) (by simpa using hi') hf x ?_;rcases List.mem_append.1 hx with e | e
      . have := hPH x (by simp [e]);rcases List.mem_append.1 this with e | e
        . exact List.mem_append.2 (.inl e)
        simp at e;subst e;simp
      rcases List.mem_cons.1 e with e | e
      . have := hPH x (by simp [e]);rcases List.mem_append.1 this with e | e
        . exact List.mem_append.2 (.inl e)
        simp at e;subst e;simp
      exact List.mem_append.2 (.inr e)
   have quiet : (∀ d f as, o ≠ .call d f as) -> (∀ d a s x, o ≠ .ld d a s x) -> Bool.rec (motive := fun _ => Prop) (cOp o (fun fr hp1 => qaD os H c fr hp L PH) fr hp) (qps o (fun fr1 hp1 => qpv L hp1 (qaD os H c fr1 hp1 L (hp :: PH))) fr hp) o.touch -> ∃ Rs hs fr' hp', FRun P S ((o, b) :: os) fr hp Rs hs fr' hp' /\ (∀ p ∈ L, hpf hp p.1 = some (.cells p.2) -> ∀ h ∈ hs, hpf h p.1 = some (.cells p.2)) /\ qhd ((o, b) :: os) fr Rs (PH ++ hp :: hs) /\ c fr' hp' := fun n1 n2 h => by
    cases ht:o.touch with
    | true =>
      rw [ht] at h;obtain ⟨r,hp1,wi,h3,h4⟩:=WD (P:=P) o n1 _ _ _ h;obtain ⟨h5,h6⟩:=qa5 h4;refine step (r:=r) (hp1:=hp1) (L1:=L) (PH1:=hp::PH) ?_ (fun p hp2=>⟨hp2,fun _=>h5 p hp2⟩) (fun x hx=>by simp at hx ⊢;rcases hx with e | e | e <;> simp [e]) (fun _ hs _ x hx=>?_) h6
      . have hg:o.touch=true/\∀ Z hq,HR Z hp hq->∃ ws,o.sem P (evF (get fr)) (hpf hq) hq.length r ws/\HR Z hp1 (qc hq ws):=⟨ht,fun Z hq hr=>by obtain ⟨ws,q1,q2,_⟩:=h3 Z hq hr;exact ⟨ws,q1,q2⟩⟩;cases o <;> first | exact .inr hg | exact absurd rfl (n1 _ _ _) | exact absurd rfl (n2 _ _ _ _)
      cases o <;> first | trivial | exact absurd rfl (n2 _ _ _ _)
    | false =>
    rw [ht] at h;obtain ⟨r,ws,h3,h4⟩:=qeq (P:=P) o _ _ _ h;have hw:=VA ht h3;subst hw;refine step (hp1:=hp) (L1:=L) (PH1:=PH) ?_ (fun p hp2=>⟨hp2,id⟩) (fun x hx=>by simpa using hx) (fun _ hs _ x hx=>?_) h4
    . cases o <;> first | exact .inl ⟨ht,rfl,h3⟩ | exact absurd rfl (n1 _ _ _) | exact absurd rfl (n2 _ _ _ _)
    cases o <;> first | trivial | exact absurd rfl (n2 _ _ _ _)
   cases o with
   | call d f args =>have h:QX args fr (fun xs=>H.C f xs hp fun x hp1=>qpv L hp1 (qaD os H c ((d,x)::fr) hp1 L (hp::PH))):=h;rw [zF] at h;obtain ⟨r,hp1,h1,h2⟩:=ok.C _ _ _ _ h;obtain ⟨h3,h4⟩:=qa5 h2;exact step (r:=r) (hp1:=hp1) (L1:=L) (PH1:=hp::PH) h1 (fun p hp2=>⟨hp2,fun _=>h3 p hp2⟩) (fun x hx=>by simp at hx ⊢;rcases hx with e | e | e <;> simp [e]) (fun _ hs _ x hx=>trivial) h4
   | ld d agg sz x =>
     have h : qt x fr (fun v => match v with
      | .ptr cs off=>ldP agg sz off cs fun y=>qaD os H c ((d,y)::fr) hp L PH
      | .ref id off=>Jl hp id fun cs=>ldP agg sz off cs fun y=>Bool.rec (motive:=fun _=>Prop) (qaD os H c ((d,y)::fr) hp L PH) (qqg PH id cs (qaD os H c ((d,y)::fr) hp ((id,cs)::L) PH)) b
      | _=>False):=h
     rw [qa] at h;split at h
     . rename_i cs off hx;obtain ⟨r,h1,h2⟩:=Jt h;have sm:∀ hq:List HObj,Q0 (hpf hq) r [] agg sz (evF (get fr) x):=fun hq=>by rw [hx];exact ⟨rfl,h1⟩
       exact step (r:=r) (hp1:=hp) (L1:=L) (PH1:=PH) ⟨rfl,sm hp⟩ (fun p hp2=>⟨hp2,id⟩) (fun x hx=>by simpa using hx) (fun _ hs _ y hy=>sm y) h2
     . rename_i id off hx;obtain ⟨cs,h0,h⟩:=zp h;obtain ⟨r,h1,h2⟩:=Jt h;have sm:∀ hq:List HObj,hpf hq id=some (.cells cs)->Q0 (hpf hq) r [] agg sz (evF (get fr) x):=fun hq e=>by rw [hx];exact qgu e h1
       cases b with
       | false=>exact step (r:=r) (hp1:=hp) (L1:=L) (PH1:=PH) ⟨rfl,sm hp h0⟩ (fun p hp2=>⟨hp2,fun e=>e⟩) (fun x hx=>by simpa using hx) (fun q=>by cases q) h2
       | true =>
         obtain ⟨h3,h4⟩:=qeF (show qqg PH id cs _ from h2);refine step (r:=r) (hp1:=hp) (L1:=(id,cs)::L) (PH1:=PH) ⟨rfl,sm hp h0⟩ (fun p hp2=>⟨List.mem_cons_of_mem _ hp2,fun e=>e⟩) (fun x hx=>by simpa using hx) (fun _ hs k2 y hy=>?_) h4;rcases List.mem_append.1 hy with e | e
         . exact sm y (h3 y e)
         rcases List.mem_cons.1 e with e | e
         . subst e;exact sm _ h0
         rcases List.mem_cons.1 e with e | e
         . subst e;exact sm _ h0
         exact sm y (k2 (id,cs) (by simp) h0 y e)
     exact h.elim
   | _=>exact quiet (fun _ _ _ e=>by cases e) (fun _ _ _ _ e=>by cases e) h
theorem qia {os fr hp Rs hs fr' hp'} (h:FRun P S os fr hp Rs hs fr' hp'):Rs.length=os.length/\hs.length=os.length:=by
 induction h with
 | nil=>exact ⟨rfl,rfl⟩
 | cons _ _ ih=>simp [ih.1,ih.2]
theorem WX {os fr hp Rs hs fr' hp'} (h:FRun P S os fr hp Rs hs fr' hp'):∀ i (h1:i<os.length) (h2:i<Rs.length),Rs[i].dst=os[i].1.dst:=by
 induction h with
 | nil=>intro i h1;simp at h1
 | cons _ _ ih =>
   intro i h1 h2;cases i with
   | zero=>rfl
   | succ i=>simpa using ih i (by simpa using h1) (by simpa using h2)
theorem qbl {os fr hp Rs hs fr' hp'} (h:FRun P S os fr hp Rs hs fr' hp'):∀ i (h1:i<os.length) (h2:i<Rs.length),qlw P S os[i].1 (frA Rs fr i) ((hp::hs).getD i []) Rs[i].r ((hp::hs).getD (i+1) []):=by
 induction h with
 | nil=>intro i h1;simp at h1
 | cons hg _ ih =>
   intro i h1 h2;cases i with
   | zero=>rw [WV];exact hg
   | succ i =>rw [WU];have:=ih i (by simpa using h1) (by simpa using h2);simpa using this
theorem qh9 {os fr hp Rs hs fr' hp'} (h:FRun P S os fr hp Rs hs fr' hp'):get fr'=frA Rs fr os.length/\hp'=(hp::hs).getD os.length []:=by
 induction h with
 | nil=>exact ⟨by rw [List.length_nil,WV],rfl⟩
 | cons _ _ ih=>exact ⟨by rw [List.length_cons,WU];exact ih.1,by simpa using ih.2⟩
def qDK : AOp -> Bool
 | .call .. => true
 | _=>false
def qkx : AOp -> Bool
 | .call .. | .callv .. | .callx .. | .rng .. | .nxt .. | .ent .. | .isn .. => false
 | _=>true
def Jo (os:List FLO):List COp:=Q5 [⟨none,os.map (·.1)⟩]
theorem WS (os:List FLO):Jo os=os.map fun p=>(none,p.1):=by simp [Jo,Q5,Function.comp_def]
def qiP (os : List FLO) (un : List (Nat × Nat)) : Bool := qnj (Jo os) && (un.all fun q => !((match (Jo os)[q.1]? with | some c => chn c.2 | none => false) && (match (Jo os)[q.2]? with | some c => chn c.2 | none => false))) &&
 ((List.range os.length).all fun i => match os[i]? with
   | some p=>(p.2 || !X4 un (Jo os) i || !qpB p.1)&&(!chn p.1 || qDK p.1 || qkx p.1)
   | none=>true)
def qEb (os:List FLO) (ks:List Nat):CT:=fun H K fr hp=>qaD os H (Zq ks (K .normal)) fr hp [] []
theorem Xm {o:AOp} (h:chn o=false) (h2:qpB o=false):o.touch=false:=by simp only [chn,h2,Bool.not_false,Bool.and_true] at h;exact h
theorem qra {os : List FLO} {un : List (Nat × Nat)} (hk : qiP os un = true) {fr : FrL} {hp : List HObj} {Rs hs fr' hp'} (hrun : FRun P S os fr hp Rs hs fr' hp') (hfree : qhd os fr Rs (hp :: hs)) {Y : YF} (hY : Yk Y S) (Z : ZZ) :
 Flo P ⟨Y,RG P⟩ un (Jo os) fr Rs (fun i h=>HR Z ((hp::hs).getD i []) h):=by
 simp only [qiP,Bool.and_eq_true] at hk;obtain ⟨⟨k1,k2⟩,k3⟩:=hk;obtain ⟨l1,l2⟩:=qia hrun;have lc:(Jo os).length=os.length:=by rw [WS];simp
 have at':∀ i (h:i<(Jo os).length),(Jo os)[i]=(none,(os[i]'(by omega)).1):=fun i h=>by simp [WS]
 have fl:∀ i (h:i<os.length),(os[i].2=true\/X4 un (Jo os) i=false\/qpB os[i].1=false)/\(chn os[i].1=false\/qDK os[i].1=true\/qkx os[i].1=true):=fun i h=>by have:=List.all_eq_true.1 k3 i (List.mem_range.2 h);simp only [List.getElem?_eq_getElem h,Bool.and_eq_true,Bool.or_eq_true,Bool.not_eq_true'] at this;exact ⟨or_assoc.1 this.1,or_assoc.1 this.2⟩
 refine ⟨by omega,fun i h=>by rw [at' i h],fun i h h'=>by rw [at' i h];exact WX hrun i (by omega) h',fun i h h' hc fr2 hq hag hr=>?_,fun i h hc hq=>?_,fun i h h' hc k hk1 hk2 fr2 hq hag hr=>?_⟩
 . rw [at' i h] at hc hag ⊢;have hg:=qbl hrun i (by omega) h';have hd:=WX hrun i (by omega) h';rcases (fl i (by omega)).2 with e | e | e
   . rw [e] at hc;cases hc
   rotate_left
   . generalize (os[i]'(by omega)).1 = o at e hg hd hag hc ⊢;have ht:o.touch=true:=by simp only [chn,Bool.and_eq_true] at hc;exact hc.1
     have hl:qpB o=false:=by simp only [chn,Bool.and_eq_true,Bool.not_eq_true'] at hc;exact hc.2
     have gen:∀ {o':AOp},o'=o->(∃ ws,o'.sem P (evF (frA Rs fr i)) (hpf hq) hq.length Rs[i].r ws/\HR Z ((hp::hs).getD (i+1) []) (qc hq ws))->∃ r ws,o'.sem P (evF (get fr2)) (hpf hq) hq.length r ws/\((St.step ⟨fr2,hq⟩ o'.dst r ws).fr=qH fr2 Rs[i].dst Rs[i].r/\HR Z ((hp::hs).getD (i+1) []) (St.step ⟨fr2,hq⟩ o'.dst r ws).hp):=fun {o'} e ⟨ws,q1,q2⟩=>by subst e;exact ⟨Rs[i].r,ws,Q2 q1 hag (fun _ _=>rfl) (fun _=>rfl),by rw [hd];rfl,q2⟩
     have pick : ∀ {A B : Prop},((o.touch = false /\ A) \/ (o.touch = true /\ B)) -> B := fun h => by
      rcases h with h | h
      . rw [ht] at h;cases h.1
      exact h.2
     cases o <;> first
      | (cases e;done)
      | (cases hl;done)
      | (cases ht;done)
      | exact gen rfl (pick hg Z hq hr)
   generalize (os[i]'(by omega)).1=o at e hg hd hag ⊢;cases o with
   | call d f args =>have ea:args.map (evF (get fr2))=args.map (evF (frA Rs fr i)):=List.map_congr_left fun x hx=>hag x hx;show jF P _ f (args.map (evF (get fr2))) hq _;rw [ea];have hd:Rs[i].dst=some d:=hd;refine jm (fun r1 h1 ⟨e1,e2⟩=>⟨?_,e2⟩) (hg Y hY Z hq hr);rw [hd,e1];rfl
   | _=>cases e
 . rw [at' i h] at hc;have hg:=qbl hrun i (by omega) (by omega)
   have:(hp::hs).getD (i+1) []=(hp::hs).getD i []:=by
    generalize (os[i]'(by omega)).1=o at hc hg;cases o with
    | call=>cases hc
    | ld=>exact hg.1
    | _ =>
      rcases hg with hg | hg
      . exact hg.2.1
      rw [show _=false from Xm hc rfl] at hg;cases hg.1
   rw [this]
 rw [at' i h] at hc hag hk2 ⊢;have hg:=qbl hrun i (by omega) h';have hd:=WX hrun i (by omega) h';have hff:(os[i]'(by omega)).2=true->∀ h∈hp::hs,LdF (os[i]'(by omega)).1 (frA Rs fr i) h Rs[i].r:=fun hb=>hfree i (by omega) h' hb;have hf1:=(fl i (by omega)).1
 have hkm:(hp::hs).getD k []∈hp::hs:=by
  have:k<(hp::hs).length:=by simp;omega
  rw [List.getD_eq_getElem?_getD,List.getElem?_eq_getElem this];exact List.getElem_mem _
 generalize he:(os[i]'(by omega))=ob at hc hg hd hag hff hf1 hk2 ⊢;obtain ⟨o,b⟩:=ob;cases o with
 | call=>cases hc
 | ld d agg sz x =>
   have hd:Rs[i].dst=some d:=hd
   have hs:Q0 (hpf ((hp::hs).getD k [])) Rs[i].r [] agg sz (evF (frA Rs fr i) x):=by
    rcases hf1 with e | e | e
    . exact hff e _ hkm
    . rw [hk2 rfl e];exact hg.2
    cases e
   refine ⟨Rs[i].r,[],?_,by rw [hd];rfl⟩;simp only [AOp.sem];rw [hag x (by simp [AOp.opds])];simp only [Q0] at hs ⊢;split at hs
   . exact hs
   . split at hs
     . rename_i hc2;rw [(hr.cel hc2).1];exact hs
     exact hs.elim
   exact hs.elim
 | callx=>cases hc
 | callv=>cases hc
 | rng=>cases hc
 | nxt=>cases hc
 | ent=>cases hc
 | isn =>have ht:=Xm hc rfl;obtain ⟨_,_,h3⟩:=hg.resolve_right (fun h=>by rw [ht] at h;cases h.1);exact h3.elim
 | _ =>have ht:=Xm hc rfl;obtain ⟨_,_,h3⟩:=hg.resolve_right (fun h=>by rw [ht] at h;cases h.1);refine ⟨Rs[i].r,[],Q2 h3 hag (fun q hq=>by rw [qdi ht] at hq;cases hq) (fun hq=>by simp at hq),by rw [hd];rfl⟩
end
def qhV:AC := .loop (.seq (.rgn [⟨none,[.bin 10 .lss (.t 9) (.k (I 4096))]⟩] [0,1,5,9,10]) (.seq (.cond (.t 10) .skip (.exit 0)) (.seq (.block 1 (.seq (.rgn [⟨none,[.mv 11 (.t 9),.mv 6 (.t 11)]⟩] [0,1,5,6,9]) (.rgn [⟨none,[.mv 12 (.t 6),.iaa 13 4096 1 (.t 5) (.t 12),.st 1 (.t 13) (.k (I 1048576))]⟩] [0,1,5,9]))) (.rgn [⟨none,[.bin 14 .add (.t 9) (.k (I 1)),.mv 9 (.t 14)]⟩] [0,1,5,9]))))
def qiD:List AV:=List.replicate 4096 (I 1048576)
def XJ (cs:List AV) (i:Nat):List AV:=List.replicate i (I 1048576)++cs.drop i
theorem qhW {cs:List AV} (h:cs.length=4096) {i:Nat} (hi:i<=4096):(XJ cs i).length=4096:=by simp [XJ,h];omega
theorem qhX {cs:List AV} (h:cs.length=4096) {i:Nat} (hi:i<4096):(XJ cs i).take i++I 1048576::(XJ cs i).drop (i+1)=XJ cs (i+1):=by
 unfold XJ;have h1:(List.replicate i (I 1048576)).length=i:=by simp
 rw [List.take_left' h1,List.drop_append,List.drop_of_length_le (by simp),List.replicate_succ',List.append_assoc];congr 1;rw [h1,List.nil_append,List.drop_drop,show i+(i+1 - i)=i+1 by omega];rfl
theorem qq8 {P : Program} {E : HE} {x0 x1 : AV} {id : Nat} {hq : List HObj} {cs : List AV} (hc : qz hq id = some (.cells cs)) (hl : cs.length = 4096) {Q : Exit -> St -> Prop}
 (hQ:Q (.exit 0) ⟨[(0,x0),(1,x1),(5,.ref id 0),(9,I 4096),(10,B false)],hq.set id (.cells (XJ cs 4096))⟩) :
 AWP P E qhV ⟨[(0,x0),(1,x1),(5,.ref id 0),(9,I 0)],hq⟩ Q:=by
 have hlt:=qL hc;unfold qhV
 refine ZI (fun i : Nat => ⟨[(0,x0),(1,x1),(5,.ref id 0),(9,I (i : Int))],hq.set id (.cells (XJ cs i))⟩) (fun i => i <= 4096) (fun i => 4096 - i) 0 (Nat.zero_le _) (by
  have e0:hq.set id (.cells (XJ cs 0))=hq:=by
   have h1:XJ cs 0=cs:=by simp [XJ]
   rw [h1];rw [qk] at hc;obtain ⟨h2,h3⟩:=List.getElem?_eq_some_iff.1 hc;rw [<-h3,List.set_getElem_self]
  rw [e0];rfl) ?_
 intro i hi;refine Jq fun K0 hK0=>?_;have cA:qz (hq.set id (.cells (XJ cs i))) id=some (.cells (XJ cs i)):=by rw [qS hlt]
 have lF:=qhW hl hi;generalize hG:hq.set id (.cells (XJ cs i))=G at cA ⊢;simp -implicitDefEqProofs (disch:=omega)[qb];refine Zk (fun hc=>?_) (fun hc=>?_)
 . have hi2 : i < 4096 := by simp at hc; omega
   have ix:((i:Int)+1)=((i+1:Nat):Int):=by omega
   simp -implicitDefEqProofs (disch:=omega)[qb,cA,lF];have lG:id<G.length:=qL cA;refine ⟨by omega,by omega,?_⟩;rw [if_pos lG,qhX hl hi2,<-hG,List.set_set,hK0];exact J1 (i+1) (by omega) (by omega) (by simp only [ix])
 have hi2:i=4096:=by simp at hc;omega
 subst hi2;subst hK0;rw [<-hG];exact hQ
theorem zN {C:List (List Nat × Nat)} {l l':List Nat} {a:Nat}:VC ((l,a)::C) l'=(if l=l' then a else 0)+VC C l':=by
 unfold VC;by_cases h:l=l'
 . subst h;simp
 simp [h]
theorem qav {C:List (List Nat × Nat)} {l:List Nat} (h:l∉C.map (·.1)):VC C l=0:=by
 unfold VC;have:C.filter (fun p=>p.1==l)=[]:=by rw [List.filter_eq_nil_iff];intro p hp hq;exact h (List.mem_map.2 ⟨p,hp,eq_of_beq hq⟩)
 rw [this];rfl
theorem qjE (a b:Int):IntKind.i64.wrap (IntKind.i64.wrap a+b)=IntKind.i64.wrap (a+b):=by
 have e : ∀ n : Int,IntKind.i64.wrap n = if n % 18446744073709551616 ≥ 9223372036854775808 then n % 18446744073709551616 - 18446744073709551616 else n % 18446744073709551616 := fun n => by
  have:IntKind.i64.wrap n=if (true&&decide (n % 18446744073709551616≥9223372036854775808))=true then n % 18446744073709551616 - 18446744073709551616 else n % 18446744073709551616:=rfl
  rw [this];simp only [Bool.true_and,decide_eq_true_eq]
 simp only [e]
 repeat' split
 all_goals omega
theorem qgX:IntKind.i64.wrap 0=0:=by decide
theorem qzR {ks:KS} {l l':List Nat} (h:eqK ks (jt l) (jt l)=some true) (hl:l'.length=l.length):∃ t, eqK ks (jt l) (jt l')=some t:=by
 obtain ⟨b,ls⟩:=ks
 have go:∀ (ls:List Leaf) (l l':List Nat), qg ls (l.map qaE) (l.map qaE)=some true->l'.length=l.length->∃ t, qg ls (l.map qaE) (l'.map qaE)=some t:=by
  intro ls
  induction ls with
  | nil =>
    intro l l' h hl;cases l with
    | nil=>cases l' with
      | nil=>exact ⟨_,rfl⟩
      | cons=>simp at hl
    | cons=>simp [qg] at h
  | cons x ls ih =>
    intro l l' h hl;cases l with
    | nil=>simp [qg] at h
    | cons a l =>
      cases l' with
      | nil=>simp at hl
      | cons a' l' =>
        have hx:x = .int:=by
         cases x with
         | int=>rfl
         | bool=>simp [qg,zG,qaE] at h
         | str=>simp [qg,zG,qaE] at h
        subst hx;simp only [List.map_cons,qg,zG,qaE,if_true] at h ⊢;simp only [beq_self_eq_true] at h;cases e:((a:Int)==(a':Int)) with
        | false=>exact ⟨false,rfl⟩
        | true=>exact ih l l' h (by simpa using hl)
 cases b with
 | true =>simp only [jt,eqK,List.toList_toArray] at h ⊢;exact go ls l l' h hl
 | false =>
   exfalso
   match ls with
   | []=>simp [eqK] at h
   | [x]=>cases x <;> simp [eqK,zG,jt] at h
   | _::_::_=>simp [eqK] at h
theorem Shw.find {es' : List Ent} {clk : Nat} {C : List (List Nat × Nat)} (h : Shw es' clk C) {ks : KS} {l : List Nat} (hk : eqK ks (jt l) (jt l) = some true) (hw : ∀ p ∈ C,p.1.length = l.length) :
 (∃ i e,zi ks (jt l) es' 0=some (some i)/\es'[i]?=some e/\e.1=jt l/\e.2.2 = .v (.int .i64 (IntKind.i64.wrap (VC C l:Nat))))\/(zi ks (jt l) es' 0=some none/\VC C l=0/\∀ e∈es',e.1≠jt l):=by
 have cmp:∀ e∈es',∃ t,eqK ks (jt l) e.1=some t:=fun e he=>by obtain ⟨l',h1,h2,_⟩:=h.ent e he;obtain ⟨p,hp,rfl⟩:=List.mem_map.1 h1;rw [h2];exact qzR hk (hw p hp)
 by_cases hc:∃ e∈es',e.1=jt l
 . obtain ⟨e,he,hek⟩:=hc;obtain ⟨i,h1,h2⟩:=Xc (n:=0) cmp h.keys he hek;obtain ⟨l',_,h3,h4⟩:=h.ent e he;have:l'=l:=YL (h3.symm.trans hek);subst this;exact .inl ⟨i,e,by simpa using h2,h1,hek,h4⟩
 have hn:∀ e∈es',e.1≠jt l:=fun e he q=>hc ⟨e,he,q⟩;refine .inr ⟨Vm cmp hn,qav fun hl=>?_,hn⟩;obtain ⟨e,he,hek⟩:=h.all l hl;exact hn e he hek
theorem Shw.set {es':List Ent} {clk:Nat} {C:List (List Nat × Nat)} (h:Shw es' clk C) {l:List Nat} {a i:Nat} {e:Ent} (hi:es'[i]?=some e) (hek:e.1=jt l):Shw (es'.set i (e.1,e.2.1,.v (.int .i64 (IntKind.i64.wrap ((VC C l+a:Nat):Int))))) clk ((l,a)::C):=by
 have hlt:=(List.getElem?_eq_some_iff.1 hi).1;have hget:=(List.getElem?_eq_some_iff.1 hi).2;have hmem:e∈es':=List.mem_of_getElem? hi
 have k1:(es'.set i (e.1,e.2.1,AV.v (.int .i64 (IntKind.i64.wrap ((VC C l+a:Nat):Int))))).map (·.1)=es'.map (·.1):=by
  rw [List.map_set];have:(es'.map (·.1))[i]'(by simpa using hlt)=e.1:=by simp [hget]
  rw [<-this,List.set_getElem_self]
 have k2:(es'.set i (e.1,e.2.1,AV.v (.int .i64 (IntKind.i64.wrap ((VC C l+a:Nat):Int))))).map (·.2.1)=es'.map (·.2.1):=by
  rw [List.map_set];have:(es'.map (·.2.1))[i]'(by simpa using hlt)=e.2.1:=by simp [hget]
  rw [<-this,List.set_getElem_self]
 have lC:l∈C.map (·.1):=by obtain ⟨l',h1,h2,_⟩:=h.ent e hmem;rw [<-YL (h2.symm.trans hek)];exact h1
 refine ⟨by rw [k1];exact h.keys,by rw [k2];exact h.born,fun x hx=>?_,fun x hx=>?_,fun l' hl'=>?_⟩
 . have : x.2.1 ∈ es'.map (·.2.1) := by rw [<- k2]; exact List.mem_map.2 ⟨x,hx,rfl⟩
   obtain ⟨y,hy,e1⟩:=List.mem_map.1 this;rw [<-e1];exact h.clk y hy
 . obtain ⟨j,hj,ej⟩ := List.mem_iff_getElem.1 hx;rw [List.getElem_set] at ej;by_cases hij:i=j
   . rw [if_pos hij] at ej;subst ej;refine ⟨l,by simp,hek,?_⟩;rw [zN,if_pos rfl,Nat.add_comm a]
   rw [if_neg hij] at ej;have hx':x∈es':=by rw [<-ej];exact List.getElem_mem _
   obtain ⟨l',h1,h2,h3⟩:=h.ent x hx';refine ⟨l',by simp only [List.map_cons,List.mem_cons];exact .inr h1,h2,?_⟩
   have hne : l ≠ l' := fun q => by
    subst q;have hl2:j<es'.length:=by simpa using hj
    have e3:es'[j]'hl2=es'[i]'hlt:=by
     have a1:es'[j]∈es':=List.getElem_mem _;have a2:(es'[j]'hl2).1=(es'[i]'hlt).1:=by rw [ej,h2,hget,hek]
     exact qrB h.keys a1 (List.getElem_mem _) a2
    have a3:(es'.map fun x=>x.1)[j]'(by simpa using hl2)=(es'.map fun x=>x.1)[i]'(by simpa using hlt):=by simp [e3]
    exact hij ((List.getElem_inj h.keys).1 a3).symm
   rw [zN,if_neg hne,Nat.zero_add,h3]
 have:∃ e∈es',e.1=jt l':=by
  simp only [List.map_cons,List.mem_cons] at hl';rcases hl' with q | q
  . subst q;exact ⟨e,hmem,hek⟩
  exact h.all l' q
 obtain ⟨y,hy,ey⟩:=this;have:y.1∈(es'.set i (e.1,e.2.1,AV.v (.int .i64 (IntKind.i64.wrap ((VC C l+a:Nat):Int))))).map (·.1):=by rw [k1];exact List.mem_map.2 ⟨y,hy,rfl⟩
 obtain ⟨z,hz,ez⟩:=List.mem_map.1 this;exact ⟨z,hz,ez.trans ey⟩
theorem Shw.new {es':List Ent} {clk:Nat} {C:List (List Nat × Nat)} (h:Shw es' clk C) {l:List Nat} {a:Nat} (hs:VC C l=0) (hn:∀ e∈es',e.1≠jt l):Shw (es'++[(jt l,clk,.v (.int .i64 (IntKind.i64.wrap ((a:Nat):Int))))]) (clk+1) ((l,a)::C):=by
 refine ⟨?_,?_,fun x hx=>?_,fun x hx=>?_,fun l' hl'=>?_⟩
 . rw [List.map_append,List.nodup_append];refine ⟨h.keys,by simp,fun x hx y hy=>?_⟩;simp at hy;subst hy;obtain ⟨e,he,rfl⟩:=List.mem_map.1 hx;exact hn e he
 . rw [List.map_append,List.nodup_append];refine ⟨h.born,by simp,fun x hx y hy=>?_⟩;simp at hy;subst hy;obtain ⟨e,he,rfl⟩:=List.mem_map.1 hx;exact Nat.ne_of_lt (h.clk e he)
 . rcases List.mem_append.1 hx with q | q
   . have:=h.clk x q;omega
   simp at q;subst q;exact Nat.lt_succ_self _
 . rcases List.mem_append.1 hx with q | q
   . obtain ⟨l',h1,h2,h3⟩ := h.ent x q;refine ⟨l',by simp only [List.map_cons,List.mem_cons];exact .inr h1,h2,?_⟩;have hne:l≠l':=fun e=>by subst e;exact hn x q h2
     rw [zN,if_neg hne,Nat.zero_add,h3]
   simp at q;subst q;refine ⟨l,by simp,rfl,?_⟩;rw [zN,if_pos rfl,hs];rfl
 simp only [List.map_cons,List.mem_cons] at hl';rcases hl' with q | q
 . subst q;exact ⟨_,List.mem_append.2 (.inr (List.mem_singleton.2 rfl)),rfl⟩
 obtain ⟨e,he,hk⟩:=h.all l' q;exact ⟨e,List.mem_append.2 (.inl he),hk⟩
structure AccP where
 t1:Nat
 tm:Nat
 t2:Nat
 w:Nat
 tp:Nat
 t3:Nat
 ks:KS
 t4:Nat
 tv:Nat
 t5:Nat
 t6:Nat
 t7:Nat
def AccP.ops (a:AccP):List AOp:=[.mv a.t1 (.t a.tm),.ld a.t2 true a.w (.t a.tp),.lku a.t3 a.ks (I 0) false (.t a.t1) (.t a.t2),.mv a.t4 (.t a.tv),.bin a.t5 .add (.t a.t3) (.t a.t4),.mpe a.t6 a.ks (I 0) (.t a.t1) (.t a.t2),.ext a.t7 (.t a.t6) 1,.est (.t a.t1) (.t a.t7) (.t a.t5)]
def AccP.ac (a:AccP) (ks:List Nat):AC := .drw [⟨none,a.ops⟩] [] ks
def AccP.ok (a:AccP) (ks:List Nat):Bool:=decide ([a.tm,a.tp,a.tv,a.t1,a.t2,a.t3,a.t4,a.t5,a.t6,a.t7].Nodup)&&ks.all fun t => ![a.t1,a.t2,a.t3,a.t4,a.t5,a.t6,a.t7].contains t
def qiJ (v:Value) (k:Nat->Prop):Prop:=match v with
 | .int .i64 (.ofNat n)=>k n
 | _=>False
theorem qiK {v:Value} {k:Nat->Prop} (h:qiJ v k):∃ n,v=qaE n/\k n:=by
 unfold qiJ at h;split at h
 . exact ⟨_,rfl,h⟩
 exact h.elim
def qnf (vs:List Value) (k:List Nat->Prop):Prop:=List.rec (motive:=fun _=>(List Nat->Prop)->Prop) (fun k=>k []) (fun v _ ih k=>qiJ v fun n=>fnP n fun n=>ih fun t=>k (n::t)) vs k
theorem qce : ∀ {vs : List Value} {k : List Nat -> Prop},qnf vs k -> ∃ l,vs = l.map qaE /\ k l
 | [],k,h=>⟨[],rfl,h⟩
 | v::vs,k,h=>by obtain ⟨n,h0,h⟩:=qiK (show qiJ v (fun n=>fnP n fun n=>qnf vs fun t=>k (n::t)) from h);rw [qo] at h;obtain ⟨l,h1,h2⟩:=qce h;exact ⟨n::l,by rw [h0,h1];rfl,h2⟩
def qm5 (kv:Value) (k:List Nat->Prop):Prop:=match kv with
 | .agg as=>qnf as.toList k
 | _=>False
theorem qiw {kv:Value} {k:List Nat->Prop} (h:qm5 kv k):∃ l,kv=jt l/\k l:=by
 unfold qm5 at h;split at h
 . rename_i as;obtain ⟨l,h1,h2⟩:=qce h;refine ⟨l,?_,h2⟩;unfold jt;rw [<-h1]
 exact h.elim
def itP (hp:List HObj) (q:Nat) (k:Nat->Nat->List Nat->Nat->Prop):Prop:=YN hp q fun o=>match o with
 | .it w c seen s=>k w c seen s
 | _=>False
theorem qkg {hp:List HObj} {q:Nat} {k:Nat->Nat->List Nat->Nat->Prop} (h:itP hp q k):∃ w c seen s,hpf hp q=some (.it w c seen s)/\k w c seen s:=by
 obtain ⟨o,h1,h2⟩:=zr h;split at h2
 . exact ⟨_,_,_,_,h1,h2⟩
 exact h2.elim
def qy2 (a:AccP) (ks:List Nat):CT:=fun H K fr hp=>VN fr a.tm fun u=>match u with
 | .mp q => VN fr a.tp fun v => (match v with
   | .ref id off => Jl hp id fun cs => ldP true a.w off cs fun x => qha a.ks x fun kv => qm5 kv fun l => VN fr a.tv fun y => (match y with
     | .v (.int .i64 (.ofNat n))=>itP hp q fun w c seen s=>qdU l fun ll=>okP (Nat.beq w ll) (fnP n fun n=>foP (.it w (Nat.succ c) (n::(l++seen)) s) fun o=>Q6 hp q o fun hp=>jH ks fr fun fr=>K .normal fr hp)
     | _=>False)
   | _=>False)
 | _=>False
theorem HR.it {Z:ZZ} {hp hq:List HObj} (h:HR Z hp hq) {q w c s:Nat} {seen:List Nat} (hi:hpf hp q=some (.it w c seen s)):∃ B es' clk,Z q=some (.add B)/\hpf hq q=some (.mp es' clk)/\Shw es' clk (JG w c seen++B)/\∀ p∈JG w c seen++B,p.1.length=w:=by
 obtain ⟨o',h1,h2⟩:=h.at hi;cases hz:Z q with
 | none=>rw [hz] at h2;exact h2.elim
 | some z =>
   rw [hz] at h2;cases z with
   | ex z=>cases h2.1
   | pin E c V E0=>obtain ⟨_,_,_,h3,_⟩:=h2;cases h3
   | add B =>obtain ⟨es',clk,rfl,h3⟩:=h2;exact ⟨B,es',clk,rfl,h1,h3⟩
section
variable {κ:Option Nat} {P:Program} {S:YSp} {H:Hd}
theorem qpQ {a:AccP} {ks:List Nat} (ha:a.ok ks=true) {K:KE} {fr:FrL} {hp:List HObj} (h:qy2 a ks H K fr hp):∃ hp', Go2 κ P S (a.ac ks) fr hp .normal (ks.map fun t=>(t, get fr t)) hp'/\K .normal (ks.map fun t=>(t, get fr t)) hp':=by
 unfold qy2 at h;rw [zq] at h;split at h
 . rename_i q hq0;rw [zq] at h;split at h
   . rename_i id off hp0;obtain ⟨cs,hc,h⟩:=zp h;obtain ⟨x,hx,h⟩:=Jt h;obtain ⟨kv,hk1,hk2,h⟩:=JX h;obtain ⟨l,ek,h3⟩:=qiw h;clear h;subst ek;have h:=h3;clear h3;rw [zq] at h;split at h
     . rename_i n hv0;obtain ⟨w,c,seen,s,hi,h⟩:=qkg h;rw [ZG] at h;obtain ⟨hw,h⟩:=qj h;have hw:=Nat.eq_of_beq_eq_true hw;rw [qo,qj9] at h;have h:=qB h;rw [za] at h;refine ⟨_,fun Y hY Z hq hr w1 g1 hS=>jQ hS (VO Y) rfl ?_,h⟩;obtain ⟨B,es',clk,hZ,hm,hsh,hwid⟩:=hr.it hi;have hcq:=(hr.cel hc).1;have hlt:=qq hm;simp only [AccP.ok,Bool.and_eq_true,decide_eq_true_eq] at ha;obtain ⟨hnd,hks⟩:=ha;simp only [List.nodup_cons,List.mem_cons,List.not_mem_nil,or_false,not_or,List.nodup_nil,and_true] at hnd;obtain ⟨⟨d1,d2,d3,d4,d5,d6,d7,d8,d9⟩,⟨e1,e2,e3,e4,e5,e6,e7,e8⟩,⟨f1,f2,f3,f4,f5,f6,f7⟩,⟨g1,g2,g3,g4,g5,g6⟩,⟨i1,i2,i3,i4,i5⟩,⟨j1,j2,j3,j4⟩,⟨k1,k2,k3⟩,⟨l1,l2⟩,m1,_⟩:=hnd
       have fresh : ∀ (u : FrL),(∀ p ∈ u,p.1 ∈ [a.t1,a.t2,a.t3,a.t4,a.t5,a.t6,a.t7]) -> (ks.map fun t => (t,get (u ++ fr) t)) = ks.map fun t => (t,get fr t) := fun u hu => List.map_congr_left fun t ht => by
        have h1:=List.all_eq_true.1 hks t ht;rw [jY]
        have:(u.map (·.1)).contains t=false:=by
         cases e:(u.map (·.1)).contains t with
         | false=>rfl
         | true =>rw [List.contains_iff_mem] at e;obtain ⟨p,hp,rfl⟩:=List.mem_map.1 e;have:=hu p hp;rw [<-List.contains_iff_mem] at this;rw [this] at h1;cases h1
        rw [this];rfl
       obtain ⟨hx1,hx2⟩:=hx;have hdec:JG w (c+1) (n::(l++seen))=(l,n)::JG w c seen:=by show ((l++seen).take w,n)::JG w c ((l++seen).drop w)=_;rw [List.take_left' hw.symm,List.drop_left' hw.symm]
       have put : ∀ {es2 : List Ent} {clk2 : Nat},Shw es2 clk2 ((l,n) :: (JG w c seen ++ B)) -> HR Z (qc hp [(q,.it w (Nat.succ c) (n :: (l ++ seen)) s)]) (qn hq q (.mp es2 clk2)) := fun {es2 clk2} h2 => by
        refine hr.set (Nat.le_of_lt (qq hi)) ?_;rw [hZ];refine ⟨es2,clk2,rfl,?_,?_⟩
        . show Shw es2 clk2 (JG w (c+1) _++B);rw [hdec];exact h2
        show ∀ p∈JG w (c+1) _++B,_;rw [hdec];intro p hp;rcases List.mem_cons.1 hp with rfl | hp
        . exact hw.symm
        exact hwid p hp
       have w0:IntKind.i64.wrap ((0:Nat):Int)=0:=qgX
       have ent : ∃ v0 hq2 b, (∃ r, (AOp.lku a.t3 a.ks (I 0) false (.t a.t1) (.t a.t2)).sem P (evF (get ((a.t2, x) :: (a.t1, .mp q) :: fr))) (hpf hq) hq.length r [] /\ r = .v (.int .i64 v0)) /\
        qpk a.ks (jt l) (.v (.int .i64 (IntKind.i64.wrap (v0+(n:Int))))) q hq es' clk b hq2/\HR Z (qc hp [(q,.it w (Nat.succ c) (n::(l++seen)) s)]) hq2:=by
        have ev1:evF (get ((a.t2,x)::(a.t1,.mp q)::fr)) (.t a.t1) = .mp q:=by simp [evF,get,Ne.symm g1]
        have ev2:evF (get ((a.t2,x)::(a.t1,.mp q)::fr)) (.t a.t2)=x:=by simp [evF,get]
        rcases hsh.find hk2 (fun p hp=>(hwid p hp).trans hw) with ⟨i,e,q1,q2,q3,q4⟩ | ⟨q1,q2,q3⟩
        . refine ⟨IntKind.i64.wrap ((VC (JG w c seen ++ B) l : Nat) : Int),qn hq q (.mp (es'.set i (e.1,e.2.1,.v (.int .i64 (IntKind.i64.wrap (IntKind.i64.wrap ((VC (JG w c seen ++ B) l : Nat) : Int) + (n : Int)))))) clk),true,⟨.v (.int .i64 (IntKind.i64.wrap ((VC (JG w c seen ++ B) l : Nat) : Int))),?_,rfl⟩,.inl ⟨rfl,i,e,q1,q2,rfl⟩,?_⟩
          . simp only [AOp.sem,ev1,ev2,hm];exact ⟨jt l,hk1,hk2,trivial,.inl ⟨i,e,q1,q2,q4.symm⟩⟩
          rw [qjE,<-Int.natCast_add];exact put (hsh.set q2 q3)
        refine ⟨0,qn hq q (.mp (es'++[(jt l,clk,.v (.int .i64 (IntKind.i64.wrap (0+(n:Int)))))]) (clk+1)),false,⟨I 0,?_,rfl⟩,.inr ⟨rfl,q1,rfl⟩,?_⟩
        . simp only [AOp.sem,ev1,ev2,hm];exact ⟨jt l,hk1,hk2,trivial,.inr ⟨q1,rfl⟩⟩
        rw [Int.zero_add];exact put (hsh.new q2 q3)
       obtain ⟨v0,hq2,b,⟨r0,hlk,rfl⟩,hset,hfinal⟩:=ent;let vb:AV := .v (.int .i64 (IntKind.i64.wrap (v0+(n:Int))));let f5:FrL:=(a.t5,vb)::(a.t4,.v (.int .i64 (.ofNat n)))::(a.t3,.v (.int .i64 v0))::(a.t2,x)::(a.t1,.mp q)::fr;have hJ:(XO.ups a.t6 a.ks (I 0) (.t a.t1) (.t a.t2) a.t7 (.t a.t5)).off [a.t6,a.t7]=true:=by simp [XO.off,YG,Opd.tmp,m1,i4,i5,g5,g6,l1,l2]
       obtain ⟨xx,nn,ws1,ws3,s1,s2,s3,_,_,_,_⟩:=XF (P:=P) (fr:=f5) hJ (by simp [f5,evF,get,Ne.symm g1,Ne.symm g2,Ne.symm g3,Ne.symm g4]) (by simp [f5,evF,get,Ne.symm i1,Ne.symm i2,Ne.symm i3];exact hk1) hk2 hm hsh.born hsh.clk (show qpk a.ks (jt l) (evF (get f5) (.t a.t5)) q hq es' clk b hq2 from by simp only [f5,evF,get,if_true];exact hset);refine ⟨.mp q,[],⟨?_,rfl⟩,x,[],?_,.v (.int .i64 v0),[],hlk,.v (.int .i64 (.ofNat n)),[],⟨?_,rfl⟩,vb,[],?_,.tup [xx,I nn],ws1,s1,I nn,[],?_,.any,ws3,s2,?_⟩
       . exact hq0.symm
       . have : evF (get ((a.t1,AV.mp q) :: fr)) (.t a.tp) = .ref id off := by simp [evF,get,Ne.symm e2]; exact hp0
         show (AOp.ld a.t2 true a.w (.t a.tp)).sem P (evF (get ((a.t1,AV.mp q)::fr))) (hpf hq) hq.length x [];simp only [AOp.sem,Q0,this,hcq];exact ⟨trivial,hx1,hx2⟩
       . show _=get ((a.t3,AV.v (.int .i64 v0))::(a.t2,x)::(a.t1,AV.mp q)::fr) a.tv;simp [get,Ne.symm f1,Ne.symm f2,Ne.symm f3,hv0]
       . show (AOp.bin a.t5 .add (.t a.t3) (.t a.t4)).sem P (evF (get ((a.t4,AV.v (.int .i64 (.ofNat n)))::(a.t3,AV.v (.int .i64 v0))::(a.t2,x)::(a.t1,AV.mp q)::fr))) (hpf hq) hq.length vb [];simp only [AOp.sem,evF,get,if_true,if_neg (Ne.symm j1)];exact ⟨_,rfl,rfl,trivial⟩
       . show (AOp.ext a.t7 (.t a.t6) 1).sem P (evF (get ((a.t6,AV.tup [xx,I nn])::f5))) _ _ (I nn) [];simp only [AOp.sem,evF,get,if_true];exact ⟨I nn,rfl,rfl,trivial⟩
       refine ⟨rfl,rfl,?_,?_⟩
       . exact fresh [(a.t7,I nn),(a.t6,.tup [xx,I nn]),(a.t5,vb),(a.t4,.v (.int .i64 (.ofNat n))),(a.t3,.v (.int .i64 v0)),(a.t2,x),(a.t1,.mp q)] (fun p hp=>by simp only [List.mem_cons,List.not_mem_nil,or_false] at hp ⊢;rcases hp with rfl | rfl | rfl | rfl | rfl | rfl | rfl <;> simp)
       show HR Z _ (qc (qc hq ws1) ws3);rw [s3];exact hfinal
     exact h.elim
   exact h.elim
 exact h.elim
end
def eqN (a b:List Nat):Bool:=eqL Nat.beq a b
theorem qbf : ∀ {a b : List Nat},eqN a b = true ↔ a = b
 | [],[]=>by simp [eqN,eqL]
 | x::a,y::b=>by
   have:=qbf (a:=a) (b:=b);unfold eqN at this ⊢;simp only [eqL,Bool.and_eq_true,this,List.cons.injEq];constructor
   . rintro ⟨h1,h2⟩;exact ⟨Nat.eq_of_beq_eq_true h1,h2⟩
   rintro ⟨rfl,h2⟩;exact ⟨Nat.beq_refl x,h2⟩
 | [],_::_=>by simp [eqN,eqL]
 | _::_,[]=>by simp [eqN,eqL]
def qpF (l : List Nat) (a : Nat) : List (List Nat × Nat) -> List (List Nat × Nat)
 | []=>[(l,a)]
 | p::t=>bif eqN l p.1 then (p.1,p.2+a)::t else p::qpF l a t
def mrg : List (List Nat × Nat) -> List (List Nat × Nat)
 | []=>[]
 | p::t=>qpF p.1 p.2 (mrg t)
theorem Wc {l : List Nat} {a : Nat} : ∀ M : List (List Nat × Nat),(∃ M1 a' M2,M = M1 ++ (l,a') :: M2 /\ qpF l a M = M1 ++ (l,a' + a) :: M2) \/ (l ∉ M.map (·.1) /\ qpF l a M = M ++ [(l,a)])
 | [] => .inr ⟨by simp,rfl⟩
 | (l',a')::M=>by
   unfold qpF;cases e:eqN l l' with
   | true =>have:=qbf.1 e;subst this;exact .inl ⟨[],a',M,rfl,by simp [e]⟩
   | false =>
     have hne:l≠l':=fun h=>by rw [qbf.2 h] at e;cases e
     rcases Wc (l:=l) (a:=a) M with ⟨M1,b,M2,rfl,h2⟩ | ⟨h1,h2⟩
     . exact .inl ⟨(l',a')::M1,b,M2,rfl,by simp [e,h2]⟩
     refine .inr ⟨by simp [hne];simpa using h1,by simp [e,h2]⟩
theorem qgK {C C':List (List Nat × Nat)} (h:C.Perm C') (l:List Nat):VC C l=VC C' l:=by
 induction h with
 | nil=>rfl
 | cons p h ih=>obtain ⟨a,b⟩:=p;rw [zN,zN,ih]
 | swap p p' C=>obtain ⟨a,b⟩:=p;obtain ⟨a',b'⟩:=p';simp only [zN];omega
 | trans h1 h2 ih1 ih2=>exact ih1.trans ih2
structure Mg (M C:List (List Nat × Nat)):Prop where
 nd:(M.map (·.1)).Nodup
 val:∀ p∈M,p.2=VC C p.1
 mem:∀ l,l∈M.map (·.1)↔l∈C.map (·.1)
theorem Mg.ins {M C:List (List Nat × Nat)} (h:Mg M C) (l:List Nat) (a:Nat):Mg (qpF l a M) ((l,a)::C):=by
 rcases Wc (l:=l) (a:=a) M with ⟨M1,b,M2,rfl,h2⟩ | ⟨h1,h2⟩
 . rw [h2];have hk:((M1++(l,b+a)::M2).map (·.1))=(M1++(l,b)::M2).map (·.1):=by simp
   have hnd:=h.nd;rw [List.map_append,List.map_cons] at hnd;have hnd2:=(List.perm_middle).nodup_iff.1 hnd;rw [List.nodup_cons] at hnd2;have hb:=h.val (l,b) (by simp);refine ⟨by rw [hk];exact h.nd,fun p hp=>?_,fun x=>?_⟩
   . have other : p ∈ M1 ++ M2 -> p.2 = VC ((l,a) :: C) p.1 := fun hp => by have hne:l≠p.1:=fun e=>hnd2.1 (by rw [e,<-List.map_append];exact List.mem_map.2 ⟨p,hp,rfl⟩);rw [zN,if_neg hne,Nat.zero_add];exact h.val p (by rcases List.mem_append.1 hp with q | q <;> simp [q])
     rcases List.mem_append.1 hp with q | q
     . exact other (List.mem_append.2 (.inl q))
     rcases List.mem_cons.1 q with rfl | q
     . rw [zN,if_pos rfl];have:b=VC C l:=hb;show b+a=a+VC C l;omega
     exact other (List.mem_append.2 (.inr q))
   rw [hk,h.mem x];have hl:l∈C.map (·.1):=(h.mem l).1 (by simp);simp only [List.map_cons,List.mem_cons];constructor
   . exact .inr
   rintro (rfl | q)
   . exact hl
   exact q
 rw [h2];have hl:l∉C.map (·.1):=fun q=>h1 ((h.mem l).2 q);refine ⟨?_,fun p hp=>?_,fun x=>?_⟩
 . rw [List.map_append,List.nodup_append];exact ⟨h.nd,by simp,fun x hx y hy=>by simp at hy;subst hy;exact fun e=>h1 (by rw [<-e];exact hx)⟩
 . rcases List.mem_append.1 hp with q | q
   . have hne:l≠p.1:=fun e=>h1 (by rw [e];exact List.mem_map.2 ⟨p,q,rfl⟩);rw [zN,if_neg hne,Nat.zero_add];exact h.val p q
   simp at q;subst q;rw [zN,if_pos rfl,qav hl];rfl
 simp only [List.map_append,List.mem_append,List.map_cons,List.map_nil,List.mem_singleton,List.mem_cons];have:=h.mem x;simp only [this,List.not_mem_nil,or_false];exact Or.comm
theorem qkn : ∀ C : List (List Nat × Nat),Mg (mrg C) C
 | []=>⟨by simp [mrg],fun p h=>by simp [mrg] at h,fun l=>by simp [mrg]⟩
 | (l,a)::C=>(qkn C).ins l a
theorem qdM {n:Nat} (h:n<4611686018427387904):IntKind.i64.wrap (n:Int)=n:=by
 have e:IntKind.i64.wrap (n:Int)=if (true&&decide ((n:Int) % 18446744073709551616≥9223372036854775808))=true then (n:Int) % 18446744073709551616 - 18446744073709551616 else (n:Int) % 18446744073709551616:=rfl
 rw [e];simp only [Bool.true_and,decide_eq_true_eq];split <;> omega
theorem qck {α : Type} : ∀ {l l' : List α}, l.Nodup -> l'.Nodup -> (∀ a, a ∈ l ↔ a ∈ l') -> l.Perm l'
 | [],l',_,_,h=>by
   have:l'=[]:=List.eq_nil_iff_forall_not_mem.2 fun a ha=>by have:=(h a).2 ha;cases this
   rw [this]
 | x::l, l', h1, h2, h=>by
   obtain ⟨A,B,rfl⟩:=List.append_of_mem ((h x).1 (by simp));rw [List.nodup_cons] at h1;have h2':(x::(A++B)).Nodup:=(List.perm_middle).nodup_iff.1 h2;rw [List.nodup_cons] at h2'
   have : l.Perm (A ++ B) := qck h1.2 h2'.2 fun a => by
    have:=h a;simp only [List.mem_cons,List.mem_append] at this ⊢;constructor
    . intro ha;rcases this.1 (.inr ha) with h3 | h3 | h3
      . exact .inl h3
      . subst h3;exact absurd ha h1.1
      exact .inr h3
    intro ha;rcases this.2 (by rcases ha with h3 | h3 <;> simp [h3]) with h3 | h3
    . subst h3;exact absurd (by rcases ha with h3 | h3 <;> simp [h3]) h2'.1
    exact h3
   exact (this.cons x).trans List.perm_middle.symm
def qpz (p:List Nat × Nat):Ent:=(jt p.1,0,.v (.int .i64 (.ofNat p.2)))
theorem Shw.sh {es':List Ent} {clk:Nat} {C CT M:List (List Nat × Nat)} (h:Shw es' clk C) (hp:C.Perm CT) (hm:Mg M CT) (hb:∀ p∈M,p.2<4611686018427387904):Sh (M.map qpz) es' clk:=by
 have nd1:((M.map qpz).map (·.1)).Nodup:=by have h1:=hm.nd;rw [List.Nodup,List.pairwise_map] at h1;rw [List.Nodup,List.pairwise_map,List.pairwise_map];exact h1.imp fun h e=>h (YL e)
 have kv:∀ {l:List Ent},(l.map (·.1)).Nodup->(l.map kvE).Nodup:=fun {l} h=>by rw [List.Nodup,List.pairwise_map] at h ⊢;exact h.imp fun {a b} h (e:kvE a=kvE b)=>h (congrArg (fun p:Value × AV=>p.1) e)
 refine ⟨qck (kv nd1) (kv h.keys) fun x=>?_,h.keys,h.born,h.clk⟩;have val:∀ p∈M,AV.v (.int .i64 (IntKind.i64.wrap (VC C p.1:Nat))) = .v (.int .i64 (.ofNat p.2)):=fun p hp'=>by rw [qgK hp,<-hm.val p hp',qdM (hb p hp')];rfl
 constructor
 . intro hx;obtain ⟨e,he,rfl⟩:=List.mem_map.1 hx;obtain ⟨p,hpM,rfl⟩:=List.mem_map.1 he;have hl:p.1∈C.map (·.1):=by have:=(hm.mem p.1).1 (List.mem_map.2 ⟨p,hpM,rfl⟩);exact ((hp.map (·.1)).mem_iff).2 this
   obtain ⟨e',he',hk⟩:=h.all _ hl;obtain ⟨l',_,h2,h3⟩:=h.ent e' he';have:l'=p.1:=YL (h2.symm.trans hk);subst this;refine List.mem_map.2 ⟨e',he',?_⟩;show (e'.1,e'.2.2)=(jt p.1,_);rw [hk,h3,val p hpM];rfl
 intro hx;obtain ⟨e',he',rfl⟩:=List.mem_map.1 hx;obtain ⟨l,h1,h2,h3⟩:=h.ent e' he';have hl:l∈M.map (·.1):=(hm.mem l).2 (((hp.map (·.1)).mem_iff).1 h1);obtain ⟨p,hpM,rfl⟩:=List.mem_map.1 hl;refine List.mem_map.2 ⟨qpz p,List.mem_map.2 ⟨p,hpM,rfl⟩,?_⟩;show (jt p.1,_)=(e'.1,e'.2.2);rw [h2,h3,val p hpM];rfl
def Zc (Z:ZZ) (q:Nat) (C:List (List Nat × Nat)):ZZ:=fun i=>if i=q then some (.add C) else Z i
theorem qDs {Z:ZZ} {m n q:Nat} {C E c0 V E0 seen} (hm:q≠m) (hn:q≠n):Zp (Zc Z q C) m n E c0 V E0 seen q=some (.add C):=by simp [Zp,Zc,hm,hn]
theorem qD5 {Z:ZZ} {m n q i:Nat} {C C' E c0 V E0 seen} (hi:i≠q):Zp (Zc Z q C) m n E c0 V E0 seen i=Zp (Zc Z q C') m n E c0 V E0 seen i:=by simp [Zp,Zc,hi]
theorem qd3 {Z:ZZ} {m n q:Nat} {C E c0 V E0 seen} {hp hq:List HObj} (h:HR (Zp (Zc Z q C) m n E c0 V E0 seen) hp hq) (hm:q≠m) (hn:q≠n) {w c s:Nat} {l:List Nat} (hi:hpf hp q=some (.it w c l s)):HR (Zp (Zc Z q (JG w c l++C)) m n E c0 V E0 seen) (qn hp q (.it w 0 [] 0)) hq:=by
 have hlt:=qq hi;simp only [qn,if_pos hlt];refine ⟨by simp [h.len],fun i hi'=>?_,fun i o o' h1 h2=>?_⟩
 . have hne : i ≠ q := by simp at hi'; omega
   rw [qD5 hne];exact h.new i (by simpa using hi')
 by_cases e:i=q
 . subst e;rw [List.getElem?_set_self hlt] at h1;cases h1;have:=h.obj i _ _ hi h2;rw [qDs hm hn] at this;obtain ⟨es',clk,rfl,h3,h4⟩:=this;rw [qDs hm hn];exact ⟨es',clk,rfl,h3,h4⟩
 rw [List.getElem?_set_ne (Ne.symm e)] at h1;rw [qD5 e];exact h.obj i o o' h1 h2
section
variable {κ:Option Nat} {P:Program} {S:YSp} {Y:YF} {w1:World} {g1:G} {r:RMd}
def qpw (w:Nat) (D:Ent->Nat × List Nat) (e:Ent):List (List Nat × Nat):=JG w (D e).1 (D e).2
def qyI (κ:Option Nat) (P:Program) (S:YSp) (r:RMd) (m n q w:Nat) (fr:FrL) (H:List HObj) (e:Ent) (d:Nat × List Nat):Prop :=
 ∃ hp',(∃ es,hpf H m=some (.mp es 1)/\r.Bd κ P S e fr (qn H m (.mp es e.2.1)) .normal fr hp')/\∃ es1 k1 s,hpf hp' m=some (.mp es1 k1)/\hpf (qn hp' m (.mp es1 1)) q=some (.it w d.1 d.2 s)/\HT (n+1) fr (qn (qn hp' m (.mp es1 1)) q (.it w 0 [] 0)) H
theorem qiB (hS : YS P ⟨Y, RG P⟩ w1 g1) (hY : Yk Y S) (hr : r.ok = true) {Z : ZZ} {m n q w c0 : Nat} {E E0 : List Ent} (hmn : m ≠ n) (hmlt : m < n) (hqm : q ≠ m) (hqn : q ≠ n) (hqlt : q < n) (hZ : ∀ i, n + 1 <= i -> Z i = none)
 (Eb:(E.map (·.2.1)).Nodup) (Ek:(E.map (·.1)).Nodup) (Ec:∀ e∈E,e.2.1<c0) (E0b:(E0.map (·.2.1)).Nodup) (E2:∀ e∈E0,2<=e.2.1)
 {fr:FrL} {H:List HObj} {D:Ent->Nat × List Nat} (hit:get fr r.it = .ref n 0) (hround:∀ e∈E0,qyI κ P S r m n q w fr H e (D e))
 {Q:Exit->St->Prop} (hQ:∀ hq C V seen,C.Perm (E0.flatMap (qpw w D))->HR (Zp (Zc Z q C) m n E c0 V E0 seen) H hq->Q (.exit r.eb) ⟨r.enFr fr,hq⟩)
 {hq:List HObj} (hlen:hq.length=n+1) (hE:(E0.map kvE).Perm (E.map kvE)) (hh:HR (Zp (Zc Z q []) m n E c0 [] E0 []) H hq):QK κ P w1 g1 (.loop r.rd) ⟨fr,hq⟩ Q:=by
 have hh0:=hh
 refine VS (α := St × Nat) (·.1) (fun b => b.1.fr = fr /\ ∃ rem W0 U W C,rem.length = b.2 /\ E.Perm (U ++ W) /\ (rem.map kvE).Perm (U.map kvE) /\ E0.Perm (rem ++ W0) /\ C.Perm (W0.flatMap (qpw w D)) /\ HR (Zp (Zc Z q C) m n E c0 (W.map (·.1)) E0 (W.map (·.2.1))) H b.1.hp) (·.2) (⟨fr,hq⟩,E0.length)
  ⟨rfl,E0,[],E,[],[],rfl,by simp,hE,by simp,.nil,hh⟩ rfl fun its b hb=>?_
 have zX : ∀ i z,Z i = some (.ex z) -> i ≠ m -> i ≠ n -> i ≠ q -> ltO (n + 1) z = true := fun i z hz h1 h2 h4 => by
  have hi:i<n+1:=Nat.lt_of_not_le fun h=>by rw [hZ i h] at hz;cases hz
  have hi':i<H.length:=by rw [<-hh0.len,hlen];exact hi
  have hiq:i<hq.length:=by rw [hlen];exact hi
  have:=hh0.obj i _ _ (List.getElem?_eq_getElem hi') (List.getElem?_eq_getElem hiq);simp only [Zp,Zc,if_neg h1,if_neg h2,if_neg h4,hz] at this;obtain ⟨_,q2,q3⟩:=this;cases z with
  | it m1 c s t =>have:=its i m1 c s t (by show hq[i]?=_;rw [List.getElem?_eq_getElem hiq,q2]);rw [hlen] at this;exact Nat.ble_eq_true_of_le this
  | _=>cases q3
 rw [hlen];clear hlen hh hh0 its;obtain ⟨⟨frb,hq⟩,N⟩:=b;obtain ⟨efr,rem,W0,U,W,C,hN,hU,hrem,hE0,hC,hh⟩:=hb;simp only at efr hN hh;subst efr;obtain ⟨hml,hnl⟩:=ju hh;obtain ⟨om,hom⟩:∃ o,H[m]?=some o:=⟨_,List.getElem?_eq_getElem hml⟩;obtain ⟨om',hom',hx⟩:=hh.at hom;simp only [Zp,if_true] at hx;obtain ⟨es,k,es',rfl,hk0,rfl,hsh,hpin⟩:=hx;have kU:∀ u∈U,u.1∉W.map (·.1)/\u.2.1∉W.map (·.2.1):=fun u hu=>by have n1:=(hU.map (·.1)).nodup_iff.1 Ek;have n2:=(hU.map (·.2.1)).nodup_iff.1 Eb;rw [List.map_append,List.nodup_append] at n1 n2;exact ⟨fun q=>n1.2.2 _ (List.mem_map.2 ⟨u,hu,rfl⟩) _ q rfl,fun q=>n2.2.2 _ (List.mem_map.2 ⟨u,hu,rfl⟩) _ q rfl⟩
 have lenU:rem.length=U.length:=by simpa using hrem.length_eq
 refine qr0 hS hr (m:=m) (n:=n) (c0:=c0) (seen:=W.map (·.2.1)) (es':=es') hit hom' (itZ hh hmn hnl) hsh.clk (fun hall=>?_) (fun e' he' hs=>?_)
 . have hU0:U=[]:=by
    cases U with
    | nil=>rfl
    | cons u U =>have huE:u∈E:=hU.mem_iff.2 (by simp);have:=hall u (hpin.stay u huE (kU u (by simp)).1);exact absurd this (kU u (by simp)).2
   have hrem0:rem=[]:=List.eq_nil_of_length_eq_zero (by rw [lenU,hU0];rfl);subst hrem0;exact hQ _ C _ _ (hC.trans (List.Perm.flatMap_right _ hE0.symm)) hh
 have he'E:e'∈E:=hpin.sub.subset he'
 have he'U:e'∈U:=by
  rcases List.mem_append.1 (hU.mem_iff.1 he'E) with q | q
  . exact q
  exact absurd (List.mem_map.2 ⟨e',q,rfl⟩) hs
 obtain ⟨e,heR,hkv⟩:=List.mem_map.1 (hrem.mem_iff.2 (List.mem_map.2 ⟨e',he'U,rfl⟩));obtain ⟨r1,r2,hsplit⟩:=List.append_of_mem heR;have heE0:e∈E0:=hE0.mem_iff.2 (List.mem_append.2 (.inl heR));obtain ⟨hp',⟨es2,hes2,hB⟩,es1,k1,s,k2,kq,k3⟩:=hround e heE0;rw [show hpf H m=some (.mp es k) from hom] at hes2;cases hes2;have he2:=E2 e heE0;have hh1:HR (Zp (Zc Z q C) m n E c0 ((W++[e']).map (·.1)) E0 ((W++[e']).map (·.2.1))) (qn H m (.mp es e.2.1)) (qn hq n (.it m c0 ((W++[e']).map (·.2.1)) c0)):=by refine YQ hh hmn hom (by omega) fun es' _ hq4=>⟨hq4.sub,fun q hq hv=>hq4.stay q hq (fun hv'=>hv (by rw [List.map_append];exact List.mem_append.2 (.inl hv'))),hq4.old,fun _ q hq hb=>?_⟩;have:=qaR E0b (hq4.old q hq) heE0 hb;subst this;have ek:q.1=e'.1:=congrArg (fun p:Value × AV=>p.1) hkv;rw [ek];simp
 have hbd:r.bdFr e frb=r.bdFr e' frb:=by simp only [RMd.bdFr,qgP hkv]
 simp only [RMd.ok,Bool.and_eq_true,List.contains_iff_mem,Bool.not_eq_true'] at hr;obtain ⟨⟨⟨_,hi⟩,ha⟩,hb⟩:=hr;have nb:∀ {x y:Nat},Nat.beq x y=false->x≠y:=fun h e=>by rw [e,Nat.beq_refl] at h;cases h
 have hit1:get (r.bdFr e frb) r.it = .ref n 0:=by rw [RMd.bdFr,Zv hi];simp [get,nb ha,nb hb,hit]
 have hnq:n<hq.length:=by rw [hh.len];exact hnl
 have hW:(W++[e']).map (·.2.1)=W.map (·.2.1)++[e'.2.1]:=by simp
 have hn1:hpf (qn hq n (.it m c0 (W.map (·.2.1)++[e'.2.1]) c0)) n=some (.it m c0 (W.map (·.2.1)++[e'.2.1]) c0):=Jr hnq;have hm1:hpf (qn hq n (.it m c0 (W.map (·.2.1)++[e'.2.1]) c0)) m=some (.mp es' c0):=by simp only [hpf,qn,if_pos hnq];rw [List.getElem?_set_ne (Ne.symm hmn)];exact hom'
 rw [hW] at hh1;rw [<-hbd];refine zc (fun e1 s1 ⟨q1,q2,q3⟩=>?_) (qpT hS hY hB hh1 hkv.symm hit1 hn1 hm1 he' hsh.born);subst q1;obtain ⟨u1,u2,hu⟩:=List.append_of_mem he'U;have perm1:((r1++r2).map kvE).Perm ((u1++u2).map kvE):=by refine YP (a:=e) (a':=e') ?_ hkv;rw [<-hsplit,<-hu];exact hrem
 have perm2:E.Perm ((u1++u2)++(W++[e'])):=by
  refine hU.trans ?_;rw [hu];have p1:(u1++e'::u2++W).Perm (e'::(u1++u2)++W):=List.perm_middle.append_right W;refine p1.trans ?_;have p2:(e'::(u1++u2)++W).Perm ((u1++u2++W)++[e']):=by rw [List.cons_append];exact (List.perm_append_comm (l₁:=[e']) (l₂:=u1++u2++W))
  rwa [List.append_assoc (u1++u2) W [e']] at p2
 have perm3:E0.Perm ((r1++r2)++(e::W0)):=by refine hE0.trans ?_;rw [hsplit];have p1:(r1++e::r2++W0).Perm (e::(r1++r2)++W0):=List.perm_middle.append_right W0;refine p1.trans ?_;exact (List.perm_middle (l₁:=r1++r2) (a:=e) (l₂:=W0)).symm
 have hh2:HR (Zp (Zc Z q C) m n E c0 ((W++[e']).map (·.1)) E0 ((W++[e']).map (·.2.1))) (qn hp' m (.mp es1 1)) s1.hp:=by rw [hW];have hn2:=itZ q3 hmn (ju q3).2;have:=YQ (seen':=W.map (·.2.1)++[e'.2.1]) (V':=(W++[e']).map (·.1)) q3 hmn k2 (k':=1) (by decide) fun es' _ hq4=>⟨hq4.sub,hq4.stay,hq4.old,fun h=>absurd rfl h⟩;rwa [Wm hn2] at this
 have hh3:=qd3 hh2 hqm hqn kq;have e0:s1=⟨frb,s1.hp⟩:=by rw [<-q2]
 have znone : ∀ i,n + 1 <= i -> Zp (Zc Z q (JG w (D e).1 (D e).2 ++ C)) m n E c0 ((W ++ [e']).map (·.1)) E0 ((W ++ [e']).map (·.2.1)) i = none := fun i hi => by
  have h1:i≠m:=by omega
  have h2:i≠n:=by omega
  have h4:i≠q:=by omega
  simp only [Zp,Zc,if_neg h1,if_neg h2,if_neg h4];exact hZ i hi
 have zex : ∀ i z, Zp (Zc Z q (JG w (D e).1 (D e).2 ++ C)) m n E c0 ((W ++ [e']).map (·.1)) E0 ((W ++ [e']).map (·.2.1)) i = some (.ex z) -> ltO (n + 1) z = true := fun i z hz => by
  by_cases h1:i=m
  . simp [Zp,h1] at hz
  by_cases h2:i=n
  . simp only [Zp,if_neg h1,if_pos h2,Option.some.injEq,PK.ex.injEq] at hz;subst hz;exact Nat.ble_eq_true_of_le (by omega:m+1<=n+1)
  by_cases h4:i=q
  . simp only [Zp,Zc,if_neg h1,if_neg h2,if_pos h4] at hz;cases hz
  simp only [Zp,Zc,if_neg h1,if_neg h2,if_neg h4] at hz;exact zX i z hz h1 h2 h4
 have step:∃ hq2,LeT (n+1) ⟨frb,s1.hp⟩ ⟨frb,hq2⟩/\HR (Zp (Zc Z q (JG w (D e).1 (D e).2++C)) m n E c0 ((W++[e']).map (·.1)) E0 ((W++[e']).map (·.2.1))) H hq2:=by
  obtain ⟨b,d,t1,t2,t3⟩:=k3;have hb:=t1 _ _ hh3;rcases t2 with rfl | ⟨nn,t4,t5,rfl,t6,t7⟩
  . exact ⟨s1.hp,.of (St.le.rfl' _),t3 _ _ hb⟩
  obtain ⟨a1,a2⟩:=hb.trunc t4 t5 znone zex t7 t6;exact ⟨_,a2,t3 _ _ a1⟩
 obtain ⟨hq2,hle2,hh4⟩:=step;rw [e0];refine ⟨(⟨frb,hq2⟩,(r1++r2).length),⟨rfl,r1++r2,e::W0,u1++u2,W++[e'],JG w (D e).1 (D e).2++C,rfl,perm2,perm1,perm3,?_,hh4⟩,?_,hle2⟩
 . rw [List.flatMap_cons];exact hC.append_left _
 simp only;rw [<-hN,hsplit];simp
theorem qd4 {Z:ZZ} {m n q w:Nat} {E c0 V E0 seen} {hp hq:List HObj} (h:HR (Zp Z m n E c0 V E0 seen) hp hq) (hm:q≠m) (hn:q≠n) (hi:hpf hp q=some (.mp [] 0)):Z q=none/\HR (Zp (Zc Z q []) m n E c0 V E0 seen) (qn hp q (.it w 0 [] 0)) hq:=by
 have hlt:=qq hi;obtain ⟨es',c,h1,h2,h3⟩:=h.mp hi
 have hz:Z q=none:=by
  rcases h3 with ⟨h3,_⟩ | ⟨_,_,_,_,h3,_⟩
  . simpa [Zp,hm,hn] using h3
  exact absurd rfl h3
 refine ⟨hz,?_⟩;simp only [qn,if_pos hlt];refine ⟨by simp [h.len],fun i hi'=>?_,fun i o o' g1 g2=>?_⟩
 . have hne : i ≠ q := by simp at hi'; omega
   have:=h.new i (by simpa using hi');simp only [Zp,Zc,if_neg hne] at this ⊢;exact this
 by_cases e:i=q
 . subst e;rw [List.getElem?_set_self hlt] at g1;cases g1;have e2:o' = .mp es' c:=by rw [show hq[i]?=some (.mp es' c) from h1] at g2;cases g2;rfl
   subst e2;rw [qDs hm hn];have e3:es'=[]:=List.eq_nil_of_length_eq_zero h2.len;subst e3;exact ⟨[],c,rfl,⟨by simp,by simp,fun e he=>(by cases he),fun e he=>(by cases he),fun l hl=>by simp [JG] at hl⟩,fun p hp=>by simp [JG] at hp⟩
 rw [List.getElem?_set_ne (Ne.symm e)] at g1;have:=h.obj i o o' g1 g2;simp only [Zp,Zc,if_neg e] at this ⊢;exact this
theorem qlB {Z:ZZ} {q w:Nat} {C CT M:List (List Nat × Nat)} {hp hq:List HObj} (h:HR (Zc Z q C) hp hq) (hz:Z q=none) (hi:hpf hp q=some (.it w 0 [] 0)) (hc:C.Perm CT) (hm:Mg M CT) (hb:∀ p∈M,p.2<4611686018427387904):HR Z (qn hp q (.mp (M.map qpz) 0)) hq:=by
 have hlt:=qq hi;simp only [qn,if_pos hlt];refine ⟨by simp [h.len],fun i hi'=>?_,fun i o o' g1 g2=>?_⟩
 . have hne : i ≠ q := by simp at hi'; omega
   have:=h.new i (by simpa using hi');simpa [Zc,hne] using this
 by_cases e:i=q
 . subst e;rw [List.getElem?_set_self hlt] at g1;cases g1;have:=h.obj i _ _ hi g2;simp only [Zc,if_true] at this;obtain ⟨es',clk,rfl,h3,_⟩:=this;rw [hz];exact ⟨rfl,es',clk,rfl,Shw.sh (C:=C) (by simpa [JG] using h3) hc hm hb⟩
 rw [List.getElem?_set_ne (Ne.symm e)] at g1;have:=h.obj i o o' g1 g2;simpa only [Zc,if_neg e] using this
theorem qgw {l:List HObj} {i j:Nat} {o:HObj} (hj:j<l.length) (h:j≠i):hpf (qn l j o) i=hpf l i:=by simp only [hpf,qn,if_pos hj];exact List.getElem?_set_ne h
theorem qr3 (hY : Yk Y S) (hr : r.ok = true) {os : List AOp} {x : Opd} {ks : List Nat} {fr fr1 : FrL} {hp hp1 : List HObj} {m : Nat} {es : List Ent} (h1 : Stp P S [] os fr hp fr1 hp1) (hx : evF (get fr1) x = .mp m) (hm : hpf hp1 m = some (.mp es 0)) {q w : Nat} {frK : FrL} {H0 : List HObj} (efr : frK = ks.map fun t => (t,get ((r.it,.ref hp1.length 0) :: fr1) t)) (eH : H0 = qn (hp1 ++ [.gone]) m (.mp (jv 2 es) 1))
 (hqm:q≠m) (hqn:q≠hp1.length) (hq0:hpf H0 q=some (.mp [] 0)) (hit:get frK r.it = .ref hp1.length 0) {D:Ent->Nat × List Nat} (hround:∀ e∈jv 2 es,qyI κ P S r m hp1.length q w frK (qn H0 q (.it w 0 [] 0)) e (D e)) {M:List (List Nat × Nat)} (hM:Mg M ((jv 2 es).flatMap (qpw w D))) (hb:∀ p∈M,p.2<4611686018427387904)
 {Z:ZZ} {hq:List HObj} (hh:HR Z hp hq):AGk κ P Y (r.rm os x ks) ⟨fr,hq⟩ fun e s=>e = .normal/\s.fr=r.enFr frK/\HR Z (qn (qn (qn H0 q (.it w 0 [] 0)) m (.mp (jv 2 es) 0)) q (.mp (M.map qpz) 0)) s.hp:=fun w1 g1 hS=>by
 refine qkA hS hY h1 hx hm hh fun es' c0 hq1 k3 hz' hZ hml k2 hlen hh0=>?_;rw [<-efr];rw [<-eH] at hh0;have hmn:m≠hp1.length:=Nat.ne_of_lt hml;have hlH:H0.length=hp1.length+1:=by rw [<-hh0.len,hlen]
 have hqlt:q<hp1.length:=by have:=qq hq0;omega
 obtain ⟨hzq,hh1⟩:=qd4 (w:=w) hh0 hqm hqn hq0;refine qiB hS hY hr hmn hml hqm hqn hqlt hZ k2.born k2.keys k2.clk (jw _ _) (fun e he=>Xf e he) hit hround (fun hq C V seen hC hh2=>?_) hlen (by rw [Xg];exact k2.perm) hh1;have em:hpf (qn H0 q (.it w 0 [] 0)) m=some (.mp (jv 2 es) 1):=by rw [qgw (qq hq0) hqm,eH];exact Jr (by simp;omega)
 have hh3:=qvf hh2 (by simp only [Zc,if_neg (Ne.symm hqm)];exact k3) (by simp only [Zc,if_neg (Ne.symm hqn)];exact hz') hmn em;have hq3:hpf (qn (qn H0 q (.it w 0 [] 0)) m (.mp (jv 2 es) 0)) q=some (.it w 0 [] 0):=by rw [qgw (qq em) (Ne.symm hqm)];exact Jr (qq hq0)
 have hh4:=qlB hh3 hzq hq3 hC hM hb;simp only [Exit.blk,if_true];exact ⟨trivial,trivial,hh4⟩
end
def qBV (bc : BC) (m n q w : Nat) (fr : FrL) (H : List HObj) (l : List Ent) (k : List (List Nat × Nat) -> Prop) : Prop := List.rec (motive := fun _ => (List (List Nat × Nat) -> Prop) -> Prop) (fun k => k [])
 (fun e _ ih k => qcl H m fun es c => okP (Nat.beq c 1) (Q6 H m (.mp es e.2.1) fun hp0 => bc e (fun ex fr' hp' => match ex with
  | .normal=>okP (qxZ fr' fr) (qcl hp' m fun es1 _=>Q6 hp' m (.mp es1 1) fun hp1=>itP hp1 q fun w' c seen _=>okP (Nat.beq w' w) (Q6 hp1 q (.it w 0 [] 0) fun hp2=>gcP n (Vd fr) hp2 fun hp3=>quZ (Nat.succ n) fr hp3 fun hp4=>okP (Z3 hp4 H) (ih fun CT=>k (JG w c seen++CT))))
  | _=>False) fr hp0)) l k
section
variable {κ:Option Nat} {P:Program} {S:YSp} {r:RMd} {bc:BC} {m n q w:Nat} {fr:FrL} {H:List HObj}
theorem qga (hb : qg3 κ P S r bc) : ∀ {l : List Ent} {k : List (List Nat × Nat) -> Prop},qBV bc m n q w fr H l k -> ∃ ds : List (Nat × List Nat),ds.length = l.length /\ (∀ (i : Nat) (e : Ent) (d : Nat × List Nat),l[i]? = some e -> ds[i]? = some d -> qyI κ P S r m n q w fr H e d) /\ k (ds.flatMap fun d => JG w d.1 d.2)
 | [],k,h=>⟨[],rfl,fun i e d h=>by simp at h,h⟩
 | e::l, k, h=>by
   obtain ⟨es,c,h1,h⟩:=ZK (show qcl H m _ from h);obtain ⟨h2,h⟩:=qj h;have h2:=Nat.eq_of_beq_eq_true h2;subst h2;obtain ⟨ex,fr',hp',h3,h⟩:=hb _ _ _ _ (qB h);cases ex with
   | normal =>
     obtain ⟨h4,h⟩:=qj h;rw [WQ h4] at h3;obtain ⟨es1,k1,h5,h⟩:=ZK h;obtain ⟨w',c,seen,s,h6,h⟩:=qkg (qB h);obtain ⟨h7,h⟩:=qj h;rw [Nat.eq_of_beq_eq_true h7] at h6;obtain ⟨hp3,h,h8⟩:=Yr (qB h);obtain ⟨hp4,h,h9⟩:=qbK h;obtain ⟨h10,h⟩:=qj h;obtain ⟨ds,g1,g2,g3⟩:=qga hb (show qBV bc m n q w fr H l _ from h);refine ⟨(c,seen)::ds,by simp [g1],fun i e' d he hd=>?_,g3⟩;cases i with
     | zero =>simp at he hd;subst he hd;exact ⟨hp',⟨es,h1,h3⟩,es1,k1,s,h5,h6,⟨hp3,hp4,h8,h9,YV h10⟩⟩
     | succ i=>exact g2 i e' d (by simpa using he) (by simpa using hd)
   | _=>exact (show False from h).elim
end
def mgP (M:List (List Nat × Nat)) (k:List (List Nat × Nat)->Prop):Prop:=fmP (fun p k=>fmP fnP p.1 fun l=>fnP p.2 fun n=>k (l,n)) M k
theorem qrL (M:List (List Nat × Nat)) (k:List (List Nat × Nat)->Prop):mgP M k=k M:=by unfold mgP;rw [Qb (fun p k=>by rw [Qb qo,qo])]
def ofL (E:List Ent) (ds:List (Nat × List Nat)) (e:Ent):Nat × List Nat:=(ds[(e.2.1 - 2)]?).getD (0,[])
theorem qci {w : Nat} : ∀ (es : List Ent) (n : Nat) (ds dt : List (Nat × List Nat)),ds.length = es.length -> dt.length + 2 = n -> (jv n es).flatMap (qpw w (ofL [] (dt ++ ds))) = ds.flatMap fun d => JG w d.1 d.2
 | [],n,[],dt,_,_=>rfl
 | e::es, n, d::ds, dt, hl, hn=>by
   simp only [jv,List.flatMap_cons]
   have e1:qpw w (ofL [] (dt++d::ds)) (e.1,n,e.2.2)=JG w d.1 d.2:=by
    unfold qpw ofL;have:(dt++d::ds)[n - 2]?=some d:=by rw [List.getElem?_append_right (by omega),show n - 2 - dt.length=0 by omega];rfl
    simp only [this,Option.getD_some]
   have e2:=qci (w:=w) es (n+1) ds (dt++[d]) (by simpa using hl) (by simp;omega);rw [List.append_assoc] at e2;rw [e1];congr 1
theorem qfY : ∀ (es : List Ent) (n : Nat) (e : Ent),e ∈ jv n es -> ∃ i,(jv n es)[i]? = some e /\ e.2.1 = n + i
 | [],n,e,h=>by cases h
 | x::es, n, e, h=>by
   rcases List.mem_cons.1 h with h1 | h1
   . subst h1;exact ⟨0,rfl,rfl⟩
   obtain ⟨i,h2,h3⟩:=qfY es (n+1) e h1;exact ⟨i+1,by simpa [jv] using h2,by omega⟩
theorem qcg : ∀ (es : List Ent) (n : Nat),(jv n es).length = es.length
 | [],n=>rfl
 | x::es,n=>by simp [jv,qcg es]
structure RMz where
 it:Nat
 a:Nat
 b:Nat
 c:Nat
 eb:Nat
 bb:Nat
 ks1:List Nat
 ks2:List Nat
 os2:List XO
 gs2:List XG
def RMz.md (z:RMz) (rest:AC):RMd:=⟨z.it,z.a,z.b,z.c,z.eb,z.bb,z.ks1,z.ks2,z.os2.flatMap XO.ops,z.gs2.map XG.grp,rest⟩
inductive CZ where
 | skip
 | rgn (gs:List XG) (ks:List Nat)
 | rgnF (ins:List Nat) (dss:List (List Nat)) (gs:List XG) (ks:List Nat)
 | drwF (st:Bool) (ins:List Nat) (dss:List (List Nat)) (gs:List XG) (un:List (Nat × Nat)) (ks:List Nat)
 | drw (gs:List XG) (un:List (Nat × Nat)) (ks:List Nat)
 | piv (gs:List XG) (un:List (Nat × Nat)) (ks:List Nat) (p:Nat)
 | seq (x y:CZ)
 | cond (c:Opd) (x y:CZ)
 | block (id:Nat) (x:CZ)
 | loop (x:CZ)
 | exit (id:Nat)
 | ret
 | label (l:Nat)
 | scope (x:CZ)
 | rf (g:Opd) (ps:List Nat) (x y:CZ) (ks:List Nat)
 | rm (os:List XO) (x:Opd) (ks:List Nat) (z:RMz) (rest:CZ)
 | rmt (os:List XO) (x:Opd) (ks:List Nat) (z:RMz) (rest tl:CZ)
 | frz (t:Nat) (x:CZ)
 | nlr (d:Nat)
 | fil
 | flt (os:List FLO) (un:List (Nat × Nat)) (ks:List Nat)
 | acc (a:AccP) (ks:List Nat)
 | rma (os:List XO) (x:Opd) (ks:List Nat) (z:RMz) (rest:CZ) (tq w:Nat)
 | dead
def CZ.ac : CZ -> AC
 | .skip => .skip
 | .rgn gs ks => .rgn (gs.map XG.grp) ks
 | .rgnF _ _ gs ks => .rgn (gs.map XG.grp) ks
 | .drwF _ _ _ gs un ks => .drw (gs.map XG.grp) un ks
 | .drw gs un ks => .drw (gs.map XG.grp) un ks
 | .piv gs un ks _ => .drw (gs.map XG.grp) un ks
 | .seq x y => .seq x.ac y.ac
 | .cond c x y => .cond c x.ac y.ac
 | .block id x => .block id x.ac
 | .loop x => .loop x.ac
 | .exit id => .exit id
 | .ret => .ret
 | .label l => .label l
 | .scope x => .scope x.ac
 | .rf g ps x y ks => .rf g ps x.ac y.ac ks
 | .rm os x ks z rest=>(z.md rest.ac).rm (os.flatMap XO.ops) x ks
 | .rmt os x ks z rest tl => .seq ((z.md rest.ac).rm (os.flatMap XO.ops) x ks) tl.ac
 | .frz _ x=>x.ac
 | .nlr d => .rgn [⟨none,[.mv d (.k (.sl true 0 []))]⟩] [d]
 | .fil=>qhV
 | .flt os un ks => .drw [⟨none,os.map (·.1)⟩] un ks
 | .acc a ks=>a.ac ks
 | .rma os x ks z rest _ _=>(z.md rest.ac).rm (os.flatMap XO.ops) x ks
 | .dead => .dead
def pvA (gs:List XG) (p:Nat):List XG:=(grp ((Q5 (gs.map XG.grp)).take p)).map Xj
def pvB (gs:List XG) (p:Nat):List XG:=(grp ((Q5 (gs.map XG.grp)).drop (p+1))).map Xj
def qex : AOp -> Bool
 | .call .. => true
 | .callv .. => true
 | _=>false
def qiQ (gs : List XG) (un : List (Nat × Nat)) (ks : List Nat) (p : Nat) : Bool := okR gs ks && qdu (Q5 (gs.map XG.grp)) un p && (pvA gs p).all (XG.off (jOf gs)) && (pvB gs p).all (XG.off (jOf gs)) && (match (Q5 (gs.map XG.grp))[p]? with
 | some (gd,oc) => qex oc && oc.opds.all (YG (jOf gs)) && (match gd with
   | some (j,_) => !(jOf gs).contains j
   | none=>true)
 | none=>false)
def RMz.ok (z:RMz) (os:List XO):Bool:=os.all (XO.off [])&&okR (⟨none,z.os2⟩::z.gs2) z.ks2&&(z.md .skip).ok
def CZ.ok : CZ -> Bool
 | .rgn gs ks=>okR gs ks
 | .rgnF ins dss gs ks=>okF ins dss gs ks
 | .drwF st ins dss gs un ks=>okD st ins dss gs un ks
 | .drw gs _ ks=>okR gs ks
 | .piv gs un ks p=>qiQ gs un ks p
 | .seq x y=>x.ok&&y.ok
 | .cond _ x y=>x.ok&&y.ok
 | .block _ x=>x.ok
 | .loop x=>x.ok
 | .scope x=>x.ok
 | .rf _ _ x y _=>x.ok&&y.ok
 | .rm os _ _ z rest=>z.ok os&&rest.ok
 | .rmt os _ _ z rest tl=>z.ok os&&rest.ok&&tl.ok
 | .frz _ x=>x.ok
 | .flt os un _=>qiP os un
 | .acc a ks=>a.ok ks
 | .rma os _ _ z rest _ _=>z.ok os&&rest.ok
 | _=>true
def qAb (κ:Option Nat) (hp:List HObj) (k:Prop):Prop:=match κ with
 | none=>k
 | some m=>YN hp m fun o=>match o with
   | .lp .. => k
   | _=>False
theorem qm3 {κ:Option Nat} {hp:List HObj} {k:Prop} (h:qAb κ hp k):k/\∀ m,κ=some m->∃ s mk,hpf hp m=some (.lp s mk):=by
 unfold qAb at h;split at h
 . exact ⟨h,fun m e=>by cases e⟩
 obtain ⟨o,h1,h2⟩:=zr h;split at h2
 . exact ⟨h2,fun m e=>by cases e;exact ⟨_,_,h1⟩⟩
 exact h2.elim
def qDA (g:Op1) (ps:List Nat) (X Y:CT) (ks:List Nat):CT:=fun H K fr hp=>qAb H.kap hp (g fr fun v=>fnP hp.length fun m=>H.R v hp (qDS ps X Y { H with kap:=some m } fr m) fun hp=>qDP m fr ks K hp)
def cPv (gs:List XG) (un:List (Nat × Nat)) (ks:List Nat) (p:Nat):CT:=match (Q5 (gs.map XG.grp))[p]? with
 | some (gd,oc)=>qEd (dXG (pvA gs p)) (dXG (pvB gs p)) (dXG gs) gd (ql7 oc) (un.filter fun q=>decide (q.2<p)) un (List.replicate (p+1) ([],[])) ks
 | none=>WC
def qpx (ks:List Nat) (e:Exit) (fr:FrL) (k:FrL->Prop):Prop:=match e with
 | .normal=>jH ks fr k
 | _=>k fr
def qek (ks:List Nat) (z:RMz) (G:X1) (R:CT) (H:Hd):BC:=fun e K fr hp=>faP 6 (qu0 e) fun t3=>faP 6 (qpJ e) fun t2=>jH z.ks1 ((z.b,B true)::(z.a,t3)::fr) fun fr1=>G H (Zq z.ks2 (R H (qlI z.bb fun e fr hp=>qpx ks e fr fun fr=>K e fr hp))) ((z.c,t2)::fr1) hp
def qAx (es:List Ent) (k:List Ent->Prop):Prop:=List.rec (motive:=fun _=>Nat->(List Ent->Prop)->Prop) (fun _ k=>k []) (fun e _ ih n k=>Prod.rec (motive:=fun _=>Prop) (fun ky bx=>Prod.rec (motive:=fun _=>Prop) (fun _ x=>fnP n fun n=>ih (Nat.succ n) fun t=>k ((ky,n,x)::t)) bx) e) es 2 k
theorem qch : ∀ (es : List Ent) (n : Nat) (k : List Ent -> Prop),(List.rec (motive := fun _ => Nat -> (List Ent -> Prop) -> Prop) (fun _ k => k []) (fun e _ ih n k => Prod.rec (motive := fun _ => Prop) (fun ky bx => Prod.rec (motive := fun _ => Prop) (fun _ x => fnP n fun n => ih (Nat.succ n) fun t => k ((ky,n,x) :: t)) bx) e) es n k : Prop) = k (jv n es)
 | [],n,k=>rfl
 | (ky,b,x)::es,n,k=>by show fnP n (fun n=>(List.rec (motive:=fun _=>Nat->(List Ent->Prop)->Prop) (fun _ k=>k []) (fun e _ ih n k=>Prod.rec (motive:=fun _=>Prop) (fun ky bx=>Prod.rec (motive:=fun _=>Prop) (fun _ x=>fnP n fun n=>ih (Nat.succ n) fun t=>k ((ky,n,x)::t)) bx) e) es (Nat.succ n) fun t=>k ((ky,n,x)::t):Prop))=_;rw [qo,qch es];rfl
theorem qfZ (es:List Ent) (k:List Ent->Prop):qAx es k=k (jv 2 es):=qch es 2 k
def rmP (os:List XO) (x:Opd) (ks:List Nat) (z:RMz) (G:X1) (R:CT) (H:Hd) (fr:FrL) (hp:List HObj) (k:List Ou->Nat->Prop):Prop :=
 cXs os H (fun fr1 hp1 => qt x fr1 fun v => mpP v hp1 fun m es cl => frP cl (Z4 hp1 .gone fun n hp2 => jH ks ((z.it,.ref n 0) :: fr1) fun fr2 => qAx es fun E0 => qdU E0 fun N => Q6 hp2 m (.mp E0 1) fun hp3 =>
  qp2 (z.md .skip) (qek ks z G R H) m n n (Bool.rec (motive:=fun _=>Nat) 20 3 (Nat.ble N 4)) E0 N fr2 hp3 (fun fins=>k fins n) (qAu (z.md .skip) (qek ks z G R H) m n n N [⟨E0,fr2,hp3⟩] [] fun fins=>k fins n))) fr hp
def cRm (os:List XO) (x:Opd) (ks:List Nat) (z:RMz) (G:X1) (R:CT):CT:=fun H K fr hp=>rmP os x ks z G R H fr hp fun fins _=>match fins with
 | [(e,fr',hp')]=>qlI z.eb K e fr' hp'
 | _=>False
def tlP (ks0 : List Nat) (eb : Nat) (T : CT) (H : Hd) (base : Nat) (o : Ou) (k : Ou -> Prop) : Prop := Prod.rec (motive := fun _ => Prop) (fun e q => Prod.rec (motive := fun _ => Prop) (fun fr hp =>
 qlI eb (thE (T H fun e fr hp=>qpx ks0 e fr fun fr=>gcP base (Vd fr) hp fun hp=>k (e,fr,hp)) fun e fr hp=>k (e,fr,hp)) e fr hp) q) o
def qCg (ks0:List Nat) (eb:Nat) (T:CT) (H:Hd) (base:Nat) (o1:Ou) (l:List Ou) (k:Prop):Prop:=List.rec (motive:=fun _=>Prop) k (fun o _ ih=>tlP ks0 eb T H base o fun o2=>okP (QS o2 o1) ih) l
def qEf (os:List XO) (x:Opd) (ks:List Nat) (z:RMz) (G:X1) (R T:CT):CT:=fun H K fr hp=>rmP os x ks z G R H fr hp fun fins base=>match fins with
 | o::l=>fmP fnP (fr.map (·.1)) fun ks0=>tlP ks0 z.eb T H base o fun o1=>qCg ks0 z.eb T H base o1 l (Prod.rec (motive:=fun _=>Prop) (fun e q=>Prod.rec (motive:=fun _=>Prop) (fun fr hp=>K e fr hp) q) o1)
 | []=>False
def qzh (t:Nat) (X:CT):CT:=fun H K fr hp=>VN fr t fun v=>match v with
 | .ref id _ => Jl hp id fun cs => (match zD (hpf hp) cs with
   | some (cs',is)=>okP (!is.contains id) (fmP (faP 6) cs' fun cs'=>fmP fnP is fun is=>wsP (gones is++[(id,.cells cs')]) hp fun hp=>X H K fr hp)
   | none=>X H K fr hp)
 | v=>qky hp v (fun y ids=>qkf ids hp fun hp=>X H K ((t,y)::fr) hp) (X H K fr hp)
def qEc (d:Nat):CT:=fun _ K _ hp=>K .normal [(d,.v (.slice none 0 0))] hp
def qzf:CT:=fun _ K fr hp=>match fr with
 | [(a0,x0),(a1,x1),(a5,.ref id 0),(a9,.v (.int .i64 (.ofNat z)))]=>okP (Nat.beq a0 0&&Nat.beq a1 1&&Nat.beq a5 5&&Nat.beq a9 9&&Nat.beq z 0) (Jl hp id fun cs=>qdU cs fun n=>okP (Nat.beq n 4096) (flP qiD fun cs=>Q6 hp id (.cells cs) fun hp=>K (.exit 0) [(0,x0),(1,x1),(5,.ref id 0),(9,I 4096),(10,B false)] hp))
 | _=>False
def vsP (l:List Nat) (k:List Value->Prop):Prop:=List.rec (motive:=fun _=>(List Value->Prop)->Prop) (fun k=>k []) (fun n _ ih k=>ih fun t=>k (.int .i64 (.ofNat n)::t)) l k
theorem qlp : ∀ (l : List Nat) (k : List Value -> Prop),vsP l k = k (l.map qaE)
 | [],k=>rfl
 | n::l,k=>by show vsP l (fun t=>k (.int .i64 (.ofNat n)::t))=_;rw [qlp l];rfl
def enP (M:List (List Nat × Nat)) (k:List Ent->Prop):Prop:=List.rec (motive:=fun _=>(List Ent->Prop)->Prop) (fun k=>k []) (fun p _ ih k=>Prod.rec (motive:=fun _=>Prop) (fun l n=>vsP l fun vs=>ih fun t=>k ((.agg ⟨vs⟩,0,.v (.int .i64 (.ofNat n)))::t)) p) M k
theorem qj6 : ∀ (M : List (List Nat × Nat)) (k : List Ent -> Prop),enP M k = k (M.map qpz)
 | [],k=>rfl
 | (l,n)::M,k=>by show vsP l (fun vs=>enP M fun t=>k ((.agg ⟨vs⟩,0,.v (.int .i64 (.ofNat n)))::t))=_;rw [qlp,qj6 M];rfl
def qzs (os:List XO) (x:Opd) (ks:List Nat) (z:RMz) (tq w:Nat) (G:X1) (R:CT):CT:=fun H K fr hp =>
 cXs os H (fun fr1 hp1 => qt x fr1 fun v => mpP v hp1 fun m es cl => frP cl (Z4 hp1 .gone fun n hp2 => jH ks ((z.it,.ref n 0) :: fr1) fun fr2 => qAx es fun E0 => Q6 hp2 m (.mp E0 1) fun hp3 =>
  VN fr2 tq fun u=>match u with
  | .mp q => okP (!Nat.beq q m && !Nat.beq q n) (YN hp3 q fun o => match o with
    | .mp [] 0=>Q6 hp3 q (.it w 0 [] 0) fun hp4=>qdW fr2 z.it n (qBV (qek ks z G R H) m n q w fr2 hp4 E0 fun CT=>mgP (mrg CT) fun M=>okP (M.all fun p=>Nat.blt p.2 4611686018427387904) (Q6 hp4 m (.mp E0 0) fun hp5=>enP M fun es=>Q6 hp5 q (.mp es 0) fun hp6=>jH z.ks1 ((z.b,B false)::(z.a,.tup [B false])::fr2) fun fr'=>K .normal fr' hp6))
    | _=>False)
  | _=>False)) fr hp
def cCZ : CZ -> CT
 | .skip=>qp6
 | .rgn gs ks=>qDB (cXG gs) ks
 | .rgnF ins dss gs ks=>qhC ins dss gs ks
 | .drwF st ins dss gs un ks=>qhy st ins dss gs ks
 | .drw gs un ks=>qzb (dXG gs) un ks
 | .piv gs un ks p=>cPv gs un ks p
 | .seq x y=>qEg (cCZ x) (cCZ y)
 | .cond c x y=>qlS (qt c) (cCZ x) (cCZ y)
 | .block id x=>qEa id (cCZ x)
 | .loop x=>qp1 (cCZ x)
 | .exit id=>qzd id
 | .ret=>qEe
 | .label _=>qp6
 | .scope x=>qp5 (cCZ x)
 | .rf g ps x y ks=>qDA (qt g) ps (cCZ x) (cCZ y) ks
 | .rm os x ks z rest=>cRm os x ks z (cXG (⟨none,z.os2⟩::z.gs2)) (cCZ rest)
 | .rmt os x ks z rest tl=>qEf os x ks z (cXG (⟨none,z.os2⟩::z.gs2)) (cCZ rest) (cCZ tl)
 | .frz t x=>qzh t (cCZ x)
 | .nlr d=>qEc d
 | .fil=>qzf
 | .flt os _ ks=>qEb os ks
 | .acc a ks=>qy2 a ks
 | .rma os x ks z rest tq w=>qzs os x ks z tq w (cXG (⟨none,z.os2⟩::z.gs2)) (cCZ rest)
 | .dead=>WC
section
variable {κ:Option Nat} {P:Program} {S:YSp} {H:Hd}
def At2 (κ:Option Nat) (P:Program) (S:YSp) (ac:AC) (K:KE) (fr:FrL) (hp:List HObj):Prop:=∃ e fr' hp',Go2 κ P S ac fr hp e fr' hp'/\K e fr' hp'
theorem WZ {ac:AC} (hn:ac.noRf=true) {fr fr':FrL} {hp hp':List HObj} {e:Exit} (h:∀ Y,Yk Y S->∀ Z hq,HR Z hp hq->AWP P ⟨Y,RG P⟩ ac ⟨fr,hq⟩ (fun e1 s1=>e1=e/\s1.fr=fr'/\HR Z hp' s1.hp)):Go2 κ P S ac fr hp e fr' hp':=fun Y hY Z hq hr w1 g1 hS=>jQ hS (VO Y) hn (h Y hY Z hq hr)
theorem qr2 (ok:HzOK P S H) {gs:List XG} {ks:List Nat} (hk:okR gs ks=true) {K:KE} {fr:FrL} {hp:List HObj} (h:qDB (cXG gs) ks H K fr hp):At2 κ P S (.rgn (gs.map XG.grp) ks) K fr hp:=by simp only [okR,Bool.and_eq_true] at hk;obtain ⟨fr1,hp1,h1,h2⟩:=XS ok hk.1 (show cXG gs H (Zq ks (K .normal)) fr hp from h);unfold Zq at h2;rw [za] at h2;refine ⟨.normal,_,hp1,WZ rfl fun Y hY Z hq hr=>?_,h2⟩;exact zQ (fun s ⟨q1,q2⟩=>⟨rfl,q1.keep hk.2,q2⟩) (h1 Y hY Z hq fr hr .refl)
theorem qnx (ok:HzOK P S H) {ins:List Nat} {dss:List (List Nat)} {gs:List XG} {ks:List Nat} (hk:okF ins dss gs ks=true) {K:KE} {fr:FrL} {hp:List HObj} (h:qhC ins dss gs ks H K fr hp):At2 κ P S (.rgn (gs.map XG.grp) ks) K fr hp:=by simp only [okF,okR,Bool.and_eq_true,decide_eq_true_eq] at hk;obtain ⟨⟨hk1,hk3⟩,hk2⟩:=hk;subst hk3;have hk:=And.intro hk1 hk2;unfold qhC box at h;rw [qbb _ _ fr fr hp hk.1 (fun _ _=>rfl)] at h;obtain ⟨fr1,hp1,h1,h2⟩:=qbV ok hk.2.1 h;unfold Zq at h2;rw [za] at h2;refine ⟨.normal,_,hp1,WZ rfl fun Y hY Z hq hr=>?_,h2⟩;exact zQ (fun s ⟨q1,q2⟩=>⟨rfl,q1.keep hk.2.2,q2⟩) (h1 Y hY Z hq fr hr (FJ.kn ins fr))
theorem qmj (ok:HzOK P S H) {st:Bool} {ins:List Nat} {dss:List (List Nat)} {gs:List XG} {un:List (Nat × Nat)} {ks:List Nat} (hk:okD st ins dss gs un ks=true) {K:KE} {fr:FrL} {hp:List HObj} (h:qhy st ins dss gs ks H K fr hp):At2 κ P S (.drw (gs.map XG.grp) un ks) K fr hp:=by simp only [okD,okF,okR,Bool.and_eq_true,decide_eq_true_eq] at hk;obtain ⟨⟨⟨hk1,hk3⟩,hk2⟩,hk4⟩:=hk;subst hk3;have hk:=And.intro (And.intro hk1 hk2) hk4;unfold qhy box at h;rw [qbb _ _ fr fr hp hk.1.1 (fun _ _=>rfl)] at h;obtain ⟨fr1,hp1,h1,h2⟩:=WO ok hk.1.2.1 h;unfold Zq at h2;rw [za] at h2;refine ⟨.normal,_,hp1,WZ rfl fun Y hY Z hq hr=>?_,h2⟩;exact zf (fun s t ⟨q1,q2,ex,q3,q4⟩=>⟨by rw [q4,List.nil_append];exact XM q3 hk.2,rfl,q1.keep hk.1.2.2,q2⟩) (h1 Z hq fr hr (FJ.kn ins fr) [])
theorem qeQ (ok:HzOK P S H) {gs:List XG} {un:List (Nat × Nat)} {ks:List Nat} (hk:okR gs ks=true) {K:KE} {fr:FrL} {hp:List HObj} (h:qzb (dXG gs) un ks H K fr hp):At2 κ P S (.drw (gs.map XG.grp) un ks) K fr hp:=by simp only [okR,Bool.and_eq_true] at hk;obtain ⟨fr1,hp1,tr1,h1,h2⟩:=V2 ok hk.1 (show dXG gs H (fun fr hp tr=>okP (zJ tr un) (Zq ks (K .normal) fr hp)) fr hp [] from h);obtain ⟨h3,h4⟩:=qj h2;unfold Zq at h4;rw [za] at h4;refine ⟨.normal,_,hp1,WZ rfl fun Y hY Z hq hr=>?_,h4⟩;exact zf (fun s t ⟨q1,q2,q3⟩=>⟨by rw [q3];exact h3,rfl,q1.keep hk.2,q2⟩) (h1 Z hq fr hr .refl)
theorem qnr (gs:List XG) (p:Nat):(pvA gs p).map XG.grp=grp ((Q5 (gs.map XG.grp)).take p):=qcn _
theorem qns (gs:List XG) (p:Nat):(pvB gs p).map XG.grp=grp ((Q5 (gs.map XG.grp)).drop (p+1)):=qcn _
theorem qno (ok:HzOK P S H) {gs:List XG} {un:List (Nat × Nat)} {ks:List Nat} {p:Nat} (hk:qiQ gs un ks p=true) {K:KE} {fr:FrL} {hp:List HObj} (h:cPv gs un ks p H K fr hp):At2 κ P S (.drw (gs.map XG.grp) un ks) K fr hp:=by
 simp only [qiQ,Bool.and_eq_true] at hk;obtain ⟨⟨⟨⟨hR,hpv⟩,hA⟩,hB⟩,hO⟩:=hk;unfold cPv at h;cases hp0:(Q5 (gs.map XG.grp))[p]? with
 | none=>rw [hp0] at h;exact (show False from h).elim
 | some c =>
   obtain ⟨gd,oc⟩:=c;rw [hp0] at hO h;simp only [Bool.and_eq_true] at hO;obtain ⟨⟨hc,ho⟩,hg⟩:=hO;have hR2:=hR;simp only [okR,Bool.and_eq_true] at hR2;obtain ⟨fr1,hp1,tr1,h1,h2⟩:=V2 ok hA (show dXG (pvA gs p) H _ fr hp [] from h);rcases qrh h2 with ⟨hgd,h2⟩ | h2
   . obtain ⟨h3,h4⟩ := qj h2;obtain ⟨fr2,hp2,h5,h6⟩:=qbU ok ho h4;obtain ⟨fr3,hp3,tr3,h7,h8⟩:=V2 ok hB (show dXG (pvB gs p) H _ fr2 hp2 _ from h6);obtain ⟨h9,h10⟩:=qj h8;unfold Zq at h10;rw [za] at h10;refine ⟨.normal,_,hp3,fun Y hY Z hq hr w1 g1 hS=>?_,h10⟩;have hlt:p<(Q5 (gs.map XG.grp)).length:=(List.getElem?_eq_some_iff.1 hp0).1
     have hoc':(∃ d f as,oc = .call d f as)\/∃ d x as,oc = .callv d x as:=by
      cases oc with
      | call d f as=>exact .inl ⟨d,f,as,rfl⟩
      | callv d x as=>exact .inr ⟨d,x,as,rfl⟩
      | _=>simp [qex] at hc
     refine Jj rfl (qaP hS (grp ((Q5 (gs.map XG.grp)).take p)) (grp ((Q5 (gs.map XG.grp)).drop (p+1))) (un.filter fun q=>decide (q.2<p)) p (List.replicate (p+1) ([],[])) gd oc (by simp;omega) ?_ hpv rfl rfl ?_ rfl hoc' ?_)
     . have:=(List.getElem?_eq_some_iff.1 hp0).2;rw [<-this,List.getElem_cons_drop,List.take_append_drop]
     . refine List.all_eq_true.2 fun q hq => ?_;by_cases hc:q.2<p
       . simp [hq,hc]
       simp [Nat.le_of_not_lt hc]
     have h1:=h1 Z hq fr hr .refl;rw [qnr] at h1;refine zf (fun sA tr ⟨q1,q2,q3⟩=>?_) h1;rw [q3];have hgd':qg8 gd (get sA.fr):=(jr fun j b e=>by subst e;exact q1 j (by simpa using hg)).1 hgd;refine ⟨h3,hgd',?_⟩;have fin:∀ s:St,FJ (jOf gs) fr2 s.fr/\HR Z hp2 s.hp->qZ P (grp ((Q5 (gs.map XG.grp)).drop (p+1))) s (List.replicate (p+1) ([],[])) fun st' tr=>zJ tr un=true/\Exit.normal=Exit.normal/\(St.keep st' ks).fr=_/\HR Z hp3 (St.keep st' ks).hp:=fun s ⟨k1,k2⟩=>by have h7:=h7 Z s.hp s.fr k2 k1;rw [qns] at h7;exact zf (fun s t ⟨q1,q2,q3⟩=>⟨by rw [q3];exact h9,rfl,q1.keep hR2.2,q2⟩) h7
     have h5:=h5 Y hY Z sA.hp sA.fr q2 q1;cases oc with
     | call d f as=>exact VV (fun r hp' e=>fin _ e) ((show jF P _ f _ _ _ from h5) w1 g1 hS)
     | _=>exact ZC (fun s _ e=>fin s e) h5
   exact qeQ ok hR h2
theorem qrk {x y:AC} {fr fr1 fr2:FrL} {hp hp1 hp2:List HObj} {e:Exit} (h1:Go2 κ P S x fr hp .normal fr1 hp1) (h2:Go2 κ P S y fr1 hp1 e fr2 hp2):Go2 κ P S (.seq x y) fr hp e fr2 hp2:=fun Y hY Z hq hr w1 g1 hS =>
 Q8 (zc (fun e1 s1 ⟨q1,q2,q3⟩ => by
  subst q1;have e0:s1=⟨fr1,s1.hp⟩:=by rw [<-q2]
  show QK κ P w1 g1 y s1 _;rw [e0];exact h2 Y hY Z s1.hp q3 w1 g1 hS) (h1 Y hY Z hq hr w1 g1 hS))
theorem qmx {x y:AC} {fr fr1:FrL} {hp hp1:List HObj} {e:Exit} (hne:e≠.normal) (h1:Go2 κ P S x fr hp e fr1 hp1):Go2 κ P S (.seq x y) fr hp e fr1 hp1:=fun Y hY Z hq hr w1 g1 hS =>
 Q8 (zc (fun e1 s1 ⟨q1,q2,q3⟩=>by subst q1;cases e1 <;> first | exact absurd rfl hne | exact ⟨rfl,q2,q3⟩) (h1 Y hY Z hq hr w1 g1 hS))
theorem qq7 {K:KE} {fr:FrL} {hp:List HObj} (h:qzf H K fr hp):At2 κ P S qhV K fr hp:=by
 unfold qzf at h;split at h
 . rename_i a0 x0 a1 x1 a5 id a9 z;obtain ⟨h1,h⟩:=qj h;simp only [Bool.and_eq_true] at h1;obtain ⟨⟨⟨⟨e0,e1⟩,e5⟩,e9⟩,ez⟩:=h1;have e0:=Nat.eq_of_beq_eq_true e0;have e1:=Nat.eq_of_beq_eq_true e1;have e5:=Nat.eq_of_beq_eq_true e5;have e9:=Nat.eq_of_beq_eq_true e9;have ez:=Nat.eq_of_beq_eq_true ez;subst e0 e1 e5 e9 ez;obtain ⟨cs,hc,h⟩:=zp h;rw [ZG] at h;obtain ⟨hl,h⟩:=qj h;have hl:=Nat.eq_of_beq_eq_true hl;rw [zg] at h;refine ⟨.exit 0,_,_,WZ rfl fun Y hY Z hq hr=>?_,qB h⟩;have hcq:=(hr.cel hc).1;have hlt:=qq hcq;refine qq8 (id:=id) (cs:=cs) (by rw [qk];exact hcq) hl ⟨rfl,rfl,?_⟩;have e2:XJ cs 4096=qiD:=by unfold XJ qiD;rw [List.drop_of_length_le (by omega),List.append_nil]
   have e3:hq.set id (.cells (XJ cs 4096))=qn hq id (.cells qiD):=by unfold qn;rw [if_pos hlt,e2]
   show HR Z _ (hq.set id (.cells (XJ cs 4096)));rw [e3];exact hr.set (Nat.le_of_lt (qq hc)) (by rw [(hr.cel hc).2];rfl)
 exact h.elim
def qhg (κ : Option Nat) (P : Program) (S : YSp) (x : AC) : Nat -> FrL -> List HObj -> Exit -> FrL -> List HObj -> Prop
 | 0,fr,hp,e,fr',hp'=>e≠.normal/\Go2 κ P S x fr hp e fr' hp'
 | n+1,fr,hp,e,fr',hp'=>∃ fr1 hp1,Go2 κ P S x fr hp .normal fr1 hp1/\qhg κ P S x n fr1 hp1 e fr' hp'
theorem qgc {x:AC} {n:Nat} {fr fr':FrL} {hp hp':List HObj} {e:Exit} (h:qhg κ P S x n fr hp e fr' hp'):Go2 κ P S (.loop x) fr hp e fr' hp':=fun Y hY Z hq hr w1 g1 hS=>by
 refine qef (α:=St × Nat) (·.1) (fun b=>∃ hp,HR Z hp b.1.hp/\qhg κ P S x b.2 b.1.fr hp e fr' hp') (·.2) (⟨fr,hq⟩,n) ⟨hp,hr,h⟩ (St.le.rfl' _) fun b hb=>?_;obtain ⟨s,m⟩:=b;obtain ⟨hp0,hr0,hb⟩:=hb;cases m with
 | zero =>obtain ⟨hne,h1⟩:=hb;refine zc (fun e1 s1 ⟨q1,q2,q3⟩=>?_) (h1 Y hY Z s.hp hr0 w1 g1 hS);subst q1;cases e1 <;> first | exact absurd rfl hne | exact ⟨rfl,q2,q3⟩
 | succ m =>obtain ⟨fr1,hp1,h1,h2⟩:=hb;refine zc (fun e1 s1 ⟨q1,q2,q3⟩=>?_) (h1 Y hY Z s.hp hr0 w1 g1 hS);subst q1;exact ⟨(s1,m),⟨hp1,q3,by simp only;rw [q2];exact h2⟩,Nat.lt_succ_self _,St.le.rfl' _⟩
theorem Wz {eb:Nat} {K:KE} {e:Exit} {fr:FrL} {hp:List HObj} (h:qlI eb K e fr hp):K (bkE eb e) fr hp:=by
 cases e with
 | exit id =>
   have h:(Bool.rec (motive:=fun _=>K1) (K (.exit id)) (K .normal) (Nat.beq id eb):K1) fr hp:=h;simp only [bkE];cases q:Nat.beq id eb with
   | true=>rw [q] at h;rw [if_pos (Nat.eq_of_beq_eq_true q)];exact h
   | false=>rw [q] at h;rw [if_neg (fun e=>by rw [e,Nat.beq_refl] at q;cases q)];exact h
 | _=>exact h
theorem qfp {ac:AC} {fr fr':FrL} {hp hp':List HObj} {e:Exit} (ks:List Nat) (h:Go2 κ P S ac fr hp e fr' hp'):Go2 κ P S ac fr hp e (ks.map fun t=>(t,get fr' t)) hp':=fun Y hY Z hq hr w1 g1 hS N c a w g R ro n hf hro ht hs hl =>
 h Y hY Z hq hr w1 g1 hS N c a w g R ro n hf hro ht hs fun e2 st2 a2 w2 g2 ⟨q1,q2,q3⟩ s2 u2 d2=>hl e2 (st2.keep ks) a2 w2 g2 ⟨q1,by rw [<-q2];rfl,q3⟩ (s2.keep ks) u2 d2
theorem qeR {ks:List Nat} {e:Exit} {fr:FrL} {k:FrL->Prop} (h:qpx ks e fr k):k fr\/k (ks.map fun t=>(t,get fr t)):=by
 unfold qpx at h;split at h
 . rw [za] at h;exact .inr h
 exact .inl h
theorem WA (ok:HzOK P S H) {ks:List Nat} {z:RMz} {rest:AC} {R:CT} (hz:okR (⟨none,z.os2⟩::z.gs2) z.ks2=true) (hR:∀ K fr hp,R H K fr hp->At2 κ P S rest K fr hp):qg3 κ P S (z.md rest) (qek ks z (cXG (⟨none,z.os2⟩::z.gs2)) R H):=fun e K fr hp h=>by
 unfold qek at h;rw [Qj,Qj,za] at h;simp only [okR,Bool.and_eq_true] at hz;obtain ⟨fr2,hp2,h1,h2⟩:=XS ok hz.1 h;unfold Zq at h2;rw [za] at h2;obtain ⟨e3,fr3,hp3,h3,h4⟩:=hR _ _ _ h2;have h5:=Wz h4;rcases qeR (show qpx ks (bkE z.bb e3) fr3 (fun fr=>K (bkE z.bb e3) fr hp3) from h5) with h5 | h5
 . exact ⟨bkE z.bb e3,fr3,hp3,⟨_,hp2,e3,fun Y hY Z hq hr=>zQ (fun s ⟨q1,q2⟩=>⟨q1.keep hz.2,q2⟩) (h1 Y hY Z hq _ hr .refl),h3,rfl⟩,h5⟩
 exact ⟨bkE z.bb e3,_,hp3,⟨_,hp2,e3,fun Y hY Z hq hr=>zQ (fun s ⟨q1,q2⟩=>⟨q1.keep hz.2,q2⟩) (h1 Y hY Z hq _ hr .refl),qfp ks h3,rfl⟩,h5⟩
theorem qkz (ok : HzOK P S H) {os : List XO} {x : Opd} {ks : List Nat} {z : RMz} {rest : AC} {R : CT} (hz : z.ok os = true) (hR : ∀ K fr hp,R H K fr hp -> At2 κ P S rest K fr hp) {fr : FrL} {hp : List HObj} {k : List Ou -> Nat -> Prop} (h : rmP os x ks z (cXG (⟨none,z.os2⟩ :: z.gs2)) R H fr hp k) :
 ∃ fins n,k fins n/\∀ Y,Yk Y S->∀ Z hq,HR Z hp hq->AGk κ P Y ((z.md rest).rm (os.flatMap XO.ops) x ks) ⟨fr,hq⟩ fun e s=>∃ o∈fins,e=bkE z.eb o.1/\s.fr=o.2.1/\HR Z o.2.2 s.hp:=by
 simp only [RMz.ok,Bool.and_eq_true] at hz;unfold rmP at h;obtain ⟨fr1,hp1,h1,h⟩:=XT (J:=[]) ok hz.1.1 h;rw [qa] at h;obtain ⟨m,es,cl,hx,hm,h⟩:=Jw h;obtain ⟨rfl,h⟩:=qb6 h;have h:=zj h;rw [za,qfZ,ZG] at h;have h:=qB h;have hr2:(z.md rest).ok=true:=hz.2;have hg:qc hp1 [(hp1.length,.gone)]=hp1++[.gone]:=by show qn hp1 hp1.length .gone=_;simp [qn]
 rw [hg] at h
 have num:∀ (es:List Ent) (n a:Nat) (e:Ent), (jv n es)[a]?=some e->e.2.1=a+n:=by
  intro es
  induction es with
  | nil=>intro n a e h;simp [jv] at h
  | cons x es ih =>
    intro n a e h;cases a with
    | zero=>simp [jv] at h;subst h;simp
    | succ a =>have:=ih (n+1) a e (by simpa [jv] using h);omega
 have both : ∃ fins,k fins hp1.length /\ (z.md rest).Runs κ P S m hp1.length (FO m fins) (jv 2 es).length (jv 2 es) (ks.map fun t => (t,get ((z.it,.ref hp1.length 0) :: fr1) t)) (qn (hp1 ++ [.gone]) m (.mp (jv 2 es) 1)) := by
  rcases qhz (r:=z.md rest) (κ:=κ) (P:=P) (S:=S) (WA ok hz.1.2 hR) (num es 2) rfl h with q | q
  . obtain ⟨fins,h3,_,h4⟩:=qfL (r:=z.md rest) (κ:=κ) (P:=P) (S:=S) (WA ok hz.1.2 hR) (jw es 2) (fun nd hnd=>by simp at hnd;subst hnd;exact ⟨rfl,fun e he=>he⟩) q;exact ⟨fins,h3,h4 _ (List.mem_singleton.2 rfl)⟩
  exact q
 obtain ⟨fins,h3,h4⟩:=both;refine ⟨fins,hp1.length,h3,fun Y hY Z hq hr=>?_⟩;refine YH (fun e s ⟨ex,fr',hp',_,hf,e1,e2,e3⟩=>?_) (qBU hY hr2 h1 hx hm h4 hr);obtain ⟨f,q1,q2,q3,es2,k2,q4,q5⟩:=hf;exact ⟨f,q1,by rw [q2];exact e1,by rw [q3];exact e2,q5 _ _ (e3 _ _ q4)⟩
theorem qr4 (ok : HzOK P S H) {os : List XO} {x : Opd} {ks : List Nat} {z : RMz} {rest : AC} {R : CT} (hz : z.ok os = true) (hR : ∀ K fr hp,R H K fr hp -> At2 κ P S rest K fr hp) {tq w : Nat} {K : KE} {fr : FrL} {hp : List HObj} (h : qzs os x ks z tq w (cXG (⟨none,z.os2⟩ :: z.gs2)) R H K fr hp) :
 At2 κ P S ((z.md rest).rm (os.flatMap XO.ops) x ks) K fr hp:=by
 simp only [RMz.ok,Bool.and_eq_true] at hz;unfold qzs at h;obtain ⟨fr1,hp1,h1,h⟩:=XT (J:=[]) ok hz.1.1 h;rw [qa] at h;obtain ⟨m,es,cl,hx,hm,h⟩:=Jw h;obtain ⟨rfl,h⟩:=qb6 h;have h:=zj h;rw [za,qfZ] at h;have h:=qB h;have hg:qc hp1 [(hp1.length,.gone)]=hp1++[.gone]:=by show qn hp1 hp1.length .gone=_;simp [qn]
 rw [hg,zq] at h;split at h
 . rename_i q hq;obtain ⟨hne,h⟩:=qj h;simp only [Bool.and_eq_true,Bool.not_eq_true'] at hne;have nb:∀ {x y:Nat},Nat.beq x y=false->x≠y:=fun h e=>by rw [e,Nat.beq_refl] at h;cases h
   obtain ⟨o,ho,h⟩:=zr h;split at h
   . obtain ⟨hit,h⟩ := Yd (qB h);obtain ⟨ds,g1,g2,h⟩:=qga (κ:=κ) (P:=P) (S:=S) (r:=z.md rest) (WA ok hz.1.2 hR) h;rw [qrL] at h;obtain ⟨hb,h⟩:=qj h;have h:=qB h;rw [qj6] at h;have h:=qB h;rw [za] at h;have hflat:=qci (w:=w) es 2 ds [] (by rw [g1,qcg]) rfl;rw [List.nil_append] at hflat;refine ⟨.normal,_,_,fun Y hY Z hq hr=>qr3 (r:=z.md rest) hY hz.2 h1 hx hm rfl rfl (nb hne.1) (nb hne.2) ho hit (D:=ofL [] ds) (M:=mrg (ds.flatMap fun d=>JG w d.1 d.2)) (fun e he=>?_) (by rw [hflat];exact qkn _) (fun p hp'=>Nat.le_of_ble_eq_true (List.all_eq_true.1 hb p hp')) hr,h⟩;obtain ⟨i,h3,h4⟩:=qfY es 2 e he;have hil:i<ds.length:=by rw [g1];exact (List.getElem?_eq_some_iff.1 h3).1
     have h5:=g2 i e ds[i] h3 (List.getElem?_eq_getElem hil);have h6:ofL [] ds e=ds[i]:=by unfold ofL;rw [show e.2.1 - 2=i by omega,List.getElem?_eq_getElem hil];rfl
     rw [h6];exact h5
   exact h.elim
 exact h.elim
theorem qk3 {ks0 : List Nat} {eb : Nat} {T : CT} {tl : AC} (hT : ∀ K fr hp,T H K fr hp -> At2 κ P S tl K fr hp) {base : Nat} {o : Ou} {k : Ou -> Prop} (h : tlP ks0 eb T H base o k) :
 ∃ o2:Ou,k o2/\((bkE eb o.1 = .normal/\∃ hp2,Go2 κ P S tl o.2.1 o.2.2 o2.1 o2.2.1 hp2/\HM hp2 o2.2.2)\/(bkE eb o.1≠.normal/\o2=(bkE eb o.1,o.2))):=by
 obtain ⟨e,fr,hp⟩:=o;have h:=Wz (show qlI eb (thE (T H fun e fr hp=>qpx ks0 e fr fun fr=>gcP base (Vd fr) hp fun hp=>k (e,fr,hp)) fun e fr hp=>k (e,fr,hp)) e fr hp from h);simp only;generalize bkE eb e=e1 at h;by_cases hn:e1 = .normal
 . subst hn;obtain ⟨e2,fr2,hp2,h1,h2⟩:=hT _ _ _ (show T H _ fr hp from h);rcases qeR h2 with h2 | h2
   . obtain ⟨hp3,h3,h4⟩:=Yr h2;exact ⟨_,h3,.inl ⟨rfl,hp2,h1,h4⟩⟩
   obtain ⟨hp3,h3,h4⟩:=Yr h2;exact ⟨_,h3,.inl ⟨rfl,hp2,qfp ks0 h1,h4⟩⟩
 refine ⟨(e1,fr,hp),?_,.inr ⟨hn,rfl⟩⟩;cases e1 <;> first | exact absurd rfl hn | exact h
theorem qgN {ks0 : List Nat} {eb : Nat} {T : CT} {tl : AC} (hT : ∀ K fr hp,T H K fr hp -> At2 κ P S tl K fr hp) {base : Nat} {o1 : Ou} : ∀ {l : List Ou} {k : Prop},qCg ks0 eb T H base o1 l k ->
 k/\∀ o∈l,∃ o2:Ou,QS o2 o1=true/\((bkE eb o.1 = .normal/\∃ hp2,Go2 κ P S tl o.2.1 o.2.2 o2.1 o2.2.1 hp2/\HM hp2 o2.2.2)\/(bkE eb o.1≠.normal/\o2=(bkE eb o.1,o.2)))
 | [],k,h=>⟨h,fun o ho=>by cases ho⟩
 | o::l,k,h=>by
   obtain ⟨o2,h1,h2⟩:=qk3 hT (show tlP ks0 eb T H base o (fun o2=>okP (QS o2 o1) (qCg ks0 eb T H base o1 l k)) from h);obtain ⟨h3,h4⟩:=qj h1;obtain ⟨h5,h6⟩:=qgN hT h4;refine ⟨h5,fun x hx=>?_⟩;rcases List.mem_cons.1 hx with q | q
   . subst q;exact ⟨o2,h3,h2⟩
   exact h6 x q
end
theorem qbI {es es':List Ent} {c:Nat}:shP es es' c↔Sh es es' c:=⟨fun h=>⟨h.1,h.2.1,h.2.2.1,h.2.2.2⟩,fun h=>⟨h.perm,h.keys,h.born,h.clk⟩⟩
theorem qc4 {P:Program} {f:FuncId} {xs ys:List AV} {hp:List HObj} {Φ:List (Value × Nat × AV)->Nat->Prop} {KC:AV->List HObj->Prop} (h1:qh (hpf hp) xs=some (ys,[])) (h2:Wt P f ys Φ) (h3:∀ es clk,Φ es clk->KC (.mp hp.length) (hp++[.mp es clk])):qw P f xs hp KC:=by
 have h:=qew (KC:=fun x H=>x = .mp hp.length/\H=hp++[.mpp Φ]) h1 h2 ⟨rfl,by simp [gones,qc,qn]⟩;intro ro n w g vs hok hvs hrep;refine (h ro n w g vs hok hvs hrep).mono ?_;rintro e w' ⟨v,x,H,g',rfl,⟨rfl,rfl⟩,hx,hok',hu⟩;have atn:∀ o:HObj,hpf (hp++[o]) hp.length=some o:=fun o=>by simp [hpf]
 obtain ⟨l,hl,hr⟩:=hok'.rep hp.length (.mpp Φ) (atn _);cases l with
 | virg=>exact hr.elim
 | base L=>exact hr.elim
 | blk c d =>
   obtain ⟨es,clk,hΦ,hrest⟩:=hr
   have dif : ∀ o : HObj,∀ id,id ≠ hp.length -> hpf (hp ++ [o]) id = hpf hp id := fun o id hne => by
    simp only [hpf];rcases Nat.lt_or_ge id hp.length with hlt | hge
    . rw [List.getElem?_append_left hlt]
    rw [List.getElem?_eq_none (by simp;omega),List.getElem?_eq_none hge]
   have conv : ∀ id o,hpf (hp ++ [.mp es clk]) id = some o -> ∃ o',hpf (hp ++ [.mpp Φ]) id = some o' /\ o'.live = o.live := fun id o ho => by
    by_cases e:id=hp.length
    . subst e;rw [atn] at ho;cases ho;exact ⟨_,atn _,rfl⟩
    rw [dif _ _ e] at ho;exact ⟨o,(dif _ _ e).trans ho,rfl⟩
   refine ⟨v,_,_,g',rfl,h3 es clk hΦ,hx,⟨fun id hid=>?_,fun id o ho=>?_,fun id id' o o' c c2 d' ho ho' hl1 hl2 hr1 hr2=>?_,hok'.ex,hok'.tab⟩,hu.tr,?_,hu.S,hu.keep⟩
   . refine hok'.dom id ?_;by_cases e:id=hp.length
     . subst e;rw [atn] at hid;cases hid
     rw [dif _ _ e] at hid ⊢;exact hid
   . by_cases e : id = hp.length
     . subst e;rw [atn] at ho;cases ho;exact ⟨_,hl,hrest⟩
     rw [dif _ _ e] at ho;exact hok'.rep id o ((dif _ _ e).trans ho)
   . obtain ⟨a,ha,ea⟩ := conv _ _ ho
     obtain ⟨b,hb,eb⟩:=conv _ _ ho'
     exact hok'.inj id id' a b c c2 d' ha hb (ea.trans hl1) (eb.trans hl2) hr1 hr2
   rintro c ⟨id,o,d,ho,hlv,hr1⟩;obtain ⟨a,ha,ea⟩:=conv _ _ ho
   exact hu.live c ⟨id,a,d,ha,ea.trans hlv,hr1⟩
theorem Sh.pc {es es':List Ent} {c:Nat} (h:Sh es es' c) (hp:(es.all fun e=>AV.isPC e.2.2)=true):(es'.all fun e=>AV.isPC e.2.2)=true:=by rw [List.all_eq_true] at hp ⊢;intro e he;obtain ⟨e',h1,h2,h3⟩:=h.back he;rw [<-h3];exact hp e' h1
theorem Sh.zero {es es':List Ent} {c:Nat} (h:Sh es es' c):Sh (es.map fun e=>(e.1,0,e.2.2)) es' c:=by refine ⟨?_,h.keys,h.born,h.clk⟩;rw [List.map_map];exact h.perm
theorem HR.app1 {Z:ZZ} {hp hq:List HObj} (h:HR Z hp hq) {o o':HObj} (ho:HR1 none o o'):HR Z (hp++[o]) (hq++[o']):=by
 have:=h.set (id:=hp.length) (o:=o) (o':=o') (Nat.le_refl _) (by rw [h.new _ (Nat.le_refl _)];exact ho);have e1:qn hp hp.length o=hp++[o]:=by simp [qn]
 have e2:qn hq hp.length o'=hq++[o']:=by rw [<-h.len];simp [qn]
 rwa [e1,e2] at this
theorem VX {P:Program} {f:FuncId} {xs ys:List AV} {Z:ZZ} {hp hq:List HObj} (hz:HR Z hp hq) {es:List Ent} (h1:qh (hpf hp) xs=some (ys,[])) (h2:Wt P f ys (shP es)):qw P f xs hq fun r1 h1=>r1 = .mp hp.length/\HR Z (hp++[.mp es 0]) h1 :=
 qc4 (hz.purA h1) h2 fun es' clk h=>⟨by rw [hz.len],hz.app1 ⟨rfl,es',clk,rfl,qbI.1 h⟩⟩
section
variable {P:Program} {S:YSp} {H:Hd}
def RdG (P:Program) (Y:YF) (x y:AC) (ps:List Nat) (m:Nat) (fr:FrL):List AV->List HObj->(AV->List HObj->Prop)->Prop:=fun xs hp1 K' =>
 hpf hp1 m = some (.lp .ready (m + 1)) /\ xs.length = ps.length /\ AGk (some m) P Y x { fr := putPs ps xs fr,hp := hp1 } (Exit.th (fun st1 => hpf st1.hp m = some (.lp .ready (m + 1)) /\
  AGk (some m) P Y y { fr:=st1.fr,hp:=qn st1.hp m (.lp .busy (m+1)) } (ZT m K')) (fun _ _=>False))
theorem VB {Z:ZZ} {hp hq:List HObj} (h:HR Z hp hq) {m:Nat} {s mk o} (hm:hpf hp m=some (.lp s mk)) (ho:o.self=true):HR Z (qn hp m o) (qn hq m o):=by have:=(h.lp hm).2;exact h.set (Nat.le_of_lt (qq hm)) (by rw [this];exact Vf ho)
theorem qr1 (ok : HzOK P S H) {X Yc : CT} {x y : AC} (ih1 : ∀ H,HzOK P S H -> ∀ K fr hp,X H K fr hp -> At2 H.kap P S x K fr hp) (ih2 : ∀ H,HzOK P S H -> ∀ K fr hp,Yc H K fr hp -> At2 H.kap P S y K fr hp) {g : Opd} {ps ks : List Nat} {K : KE} {fr : FrL} {hp : List HObj}
 (h:qDA (qt g) ps X Yc ks H K fr hp):At2 H.kap P S (.rf g ps x y ks) K fr hp:=by
 obtain ⟨h,hkap⟩:=qm3 h;rw [qa,qo] at h;have okM:HzOK P S { H with kap:=some hp.length }:=⟨ok.C,ok.C0,ok.D,ok.Y,ok.R,ok.ok⟩
 obtain ⟨hp',h1,h2⟩ := ok.R _ _ _ _ h (fun xs hp1 r hp2 => ∀ Y,Yk Y S -> ∀ Z hq1,HR Z hp1 hq1 -> RdG P Y x y ps hp.length fr xs hq1 (fun r1 h1 => r1 = r /\ HR Z hp2 h1)) (fun xs hp1 kk hG => by
  unfold qDS at hG;obtain ⟨g1,hG⟩:=qf8 hG;obtain ⟨g2,hG⟩:=qj hG;rw [zg] at hG;obtain ⟨e1,fr1,hp1',g3,g4⟩:=ih1 _ okM _ _ _ hG;cases e1 with
  | normal =>
    have g4:qyj hp1' hp.length (Q6 hp1' hp.length (.lp .busy (hp.length+1)) fun hp2=>Yc { H with kap:=some hp.length } (qDR hp.length kk) fr1 hp2):=g4;obtain ⟨g5,g6⟩:=qf8 g4;have g7:=qB g6;obtain ⟨e2,fr2,hp2,g8,g9⟩:=ih2 _ okM _ _ _ g7
    have fin : ∀ {r : AV} {o : HObj},o.self = true -> (∀ {K' : AV -> List HObj -> Prop} {s : St},hpf s.hp hp.length = some (.lp .busy (hp.length + 1)) -> K' r (qn s.hp hp.length o) -> ZT hp.length K' e2 s) ->
     qpU hp2 hp.length (Q6 hp2 hp.length o fun hp=>kk r hp)->∃ r hp3,(∀ Y,Yk Y S->∀ Z hq1,HR Z hp1 hq1->RdG P Y x y ps hp.length fr xs hq1 (fun r1 h1=>r1=r/\HR Z hp3 h1))/\kk r hp3:=fun {r o} ho hq q=>by
     obtain ⟨q1,q2⟩:=qlJ q;refine ⟨r,qn hp2 hp.length o,fun Y hY Z hq1 hr=>⟨(hr.lp g1).1,Nat.eq_of_beq_eq_true g2,YH (fun e s ⟨k1,k2,k3⟩=>?_) (g3 Y hY Z hq1 hr)⟩,qB q2⟩;subst k1;refine ⟨(k3.lp g5).1,?_⟩;rw [k2];exact YH (fun e s ⟨k4,k5,k6⟩=>by subst k4;exact hq (k6.lp q1).1 ⟨rfl,VB k6 q1 ho⟩) (g8 Y hY Z _ (VB k3 g5 rfl))
    cases e2 with
    | normal=>exact fin (r:=B true) rfl (fun a b=>⟨a,b⟩) g9
    | ret=>exact fin (r:=B false) rfl (fun a b=>⟨a,b⟩) g9
    | exit l=>exact fin (r:=B false) rfl (fun a b=>⟨a,b⟩) g9
    | _=>exact (show False from g9).elim
  | _=>exact (show False from g4).elim)
 have fin : ∃ e fr' hp'',(∀ Z h,HR Z hp' h -> Jf hp.length fr ks (fun e1 s1 => e1 = e /\ s1.fr = fr' /\ HR Z hp'' s1.hp) h) /\ K e fr' hp'' := by
  unfold qDP at h2;obtain ⟨o,k1,k2⟩:=zr h2;have k1:hpf hp' hp.length=some o:=k1;split at k2
  . have:=qB k2;rw [za] at this;refine ⟨_,_,_,fun Z h hr=>?_,this⟩;simp only [Jf,(hr.lp k1).1];exact ⟨by trivial,by trivial,VB hr k1 rfl⟩
  . refine ⟨_,_,_,fun Z h hr=>?_,qB k2⟩;simp only [Jf,(hr.lp k1).1];exact ⟨by trivial,by trivial,VB hr k1 rfl⟩
  . refine ⟨_,_,_,fun Z h hr=>?_,qB k2⟩;simp only [Jf,(hr.lp k1).1];exact ⟨by trivial,by trivial,VB hr k1 rfl⟩
  exact k2.elim
 obtain ⟨e,fr',hp'',f1,f2⟩:=fin;refine ⟨e,fr',hp'',fun Y hY Z hq hr w1 g1 hS=>?_,f2⟩;have hl:=hr.len;have hrg:=h1 Z hq hr (RdG P Y x y ps hp.length fr) (fun Z1 xs hp1 r hp2 hG hq1 hr1=>hG Y hY Z1 hq1 hr1)
 have prem : ∃ K0,RG P (evF (get fr) g) hq (fun xs hp' K' => hpf hp' hq.length = some (.lp .ready (hq.length + 1)) /\ xs.length = ps.length /\
  QK (some hq.length) P w1 g1 x { fr:=putPs ps xs fr,hp:=hp' } (Exit.th (fun st1=>hpf st1.hp hq.length=some (.lp .ready (hq.length+1))/\QK (some hq.length) P w1 g1 y { fr:=st1.fr,hp:=qn st1.hp hq.length (.lp .busy (hq.length+1)) } (ZT hq.length K')) (fun _ _=>False))) K0 /\
  ∀ hp',K0 hp'->Jf hq.length fr ks (fun e1 s1=>e1=e/\s1.fr=fr'/\HR Z hp'' s1.hp) hp':=by
  rw [hl];refine ⟨_,qnw (fun xs hp1 K' ⟨q1,q2,q3⟩=>?_) hrg,fun h hh=>f1 Z h hh⟩;refine ⟨q1,q2,zc (fun e s q=>?_) (q3 w1 g1 hS)⟩;cases e with
  | normal=>exact ⟨q.1,q.2 w1 g1 hS⟩
  | _=>exact q
 cases hk:H.kap with
 | none=>exact qaQ (E:=⟨Y,RG P⟩) (VO Y) prem
 | some m0 =>obtain ⟨s0,mk0,hlp⟩:=hkap m0 hk;exact qcU (E:=⟨Y,RG P⟩) (VO Y) (hr.lp hlp).1 prem
theorem qee {κ:Option Nat} {w1:World} {g1:G} {ac:AC} {st st':St} {Q:Exit->St->Prop} (hle:St.le st st') (h:QK κ P w1 g1 ac st' Q):QK κ P w1 g1 ac st Q:=fun N c a w g R ro n hf hr ht hs hl=>by obtain ⟨g2,hs2,hu2⟩:=hle N a w g hs;exact h _ _ _ _ _ _ _ _ hf (hr.mono hu2.tr) (ht.trans hu2.tr) hs2 fun e st2 a2 w2 g3 q2 s2 u2 d2=>hl e st2 a2 w2 g3 q2 s2 (hu2.trans u2) d2
theorem qrc {X:CT} {x:AC} (ih:∀ H, HzOK P S H->∀ K fr hp, X H K fr hp->At2 H.kap P S x K fr hp) (ok:HzOK P S H) {t:Nat} {K:KE} {fr:FrL} {hp:List HObj} (h:qzh t X H K fr hp):At2 H.kap P S x K fr hp:=by
 unfold qzh at h;rw [zq] at h;split at h
 . rename_i id off _;obtain ⟨cs,hc,h⟩:=zp h;split at h
   . rename_i cs' is hpl;obtain ⟨hid,h⟩:=qj h;rw [Qb (Qj 6),Qb qo,jl] at h;obtain ⟨e,fr',hp',g1,g2⟩:=ih H ok _ _ _ h;refine ⟨e,fr',hp',fun Y hY Z hq hr w1 g0 hS=>?_,g2⟩
     have hz : ∀ p ∈ gones is ++ [(id,HObj.cells cs')],Z p.1 = none /\ p.1 <= hp.length /\ p.2.self = true := fun p hp1 => by
      rcases List.mem_append.1 hp1 with k | k
      . simp only [gones,List.mem_map] at k;obtain ⟨i,hi,rfl⟩:=k;obtain ⟨cs2,hcs⟩:=ZL hpl i hi;exact ⟨(hr.cel hcs).2,Nat.le_of_lt (qq hcs),rfl⟩
      simp at k;subst k;exact ⟨(hr.cel hc).2,Nat.le_of_lt (qq hc),rfl⟩
     have hq1:zD (hpf hq) cs=some (cs',is):=by
      have h1:qv (hpf hp) (.agg cs)=some (.agg cs',is):=by simp only [qv,hpl,Option.map_some]
      have h2:=hr.pur h1;simp only [qv,Option.map_eq_some_iff] at h2;obtain ⟨⟨a,b⟩,k1,k2⟩:=h2;simp only [Prod.mk.injEq,AV.agg.injEq] at k2;rw [k1,k2.1,k2.2]
     exact qee (Xa (fr':=fr) (by rw [qk];exact (hr.cel hc).1) hq1 (by simpa using hid) fun t => .inl rfl) (g1 Y hY Z _ (hr.write hz) w1 g0 hS)
   exact ih H ok _ _ _ h
 rcases qbx h with ⟨y,ids,hp1,h⟩ | h
 . rw [W2] at h;obtain ⟨e,fr',hp',g1,g2⟩:=ih H ok _ _ _ h;refine ⟨e,fr',hp',fun Y hY Z hq hr w1 g0 hS=>?_,g2⟩;have hz : ∀ p ∈ gones ids,Z p.1 = none /\ p.1 <= hp.length /\ p.2.self = true := fun p hp2 => by simp only [gones,List.mem_map] at hp2;obtain ⟨i,hi,rfl⟩:=hp2;obtain ⟨cs2,hcs⟩:=Zy hp1 i hi;exact ⟨(hr.cel hcs).2,Nat.le_of_lt (qq hcs),rfl⟩
   have hq1:=hr.pur hp1;refine qee (qfH (fr':=(t,y)::fr) (fun t'=>?_) (Zy hq1)) (g1 Y hY Z _ (hr.write hz) w1 g0 hS);by_cases e:t=t'
   . subst e;exact .inr ⟨ids,by rw [hq1];simp [get],fun i hi=>hi⟩
   exact .inl (by simp [get,e])
 exact ih H ok _ _ _ h
theorem qmg {cz:CZ}:cz.ok=true->∀ (H:Hd), HzOK P S H->∀ (K:KE) (fr:FrL) (hp:List HObj), cCZ cz H K fr hp->At2 H.kap P S cz.ac K fr hp:=by
 induction cz with
 | skip=>intro _ H ok K fr hp h;exact ⟨.normal,fr,hp,WZ rfl fun Y hY Z hq hr=>⟨rfl,rfl,hr⟩,h⟩
 | rgn gs ks=>intro hk H ok K fr hp h;exact qr2 ok hk h
 | rgnF ins dss gs ks=>intro hk H ok K fr hp h;exact qnx ok hk h
 | drwF st ins dss gs un ks=>intro hk H ok K fr hp h;exact qmj ok hk h
 | drw gs un ks=>intro hk H ok K fr hp h;exact qeQ ok hk h
 | piv gs un ks p=>intro hk H ok K fr hp h;exact qno ok hk h
 | seq x y ih1 ih2 =>
   intro hk H ok K fr hp h;simp only [CZ.ok,Bool.and_eq_true] at hk;obtain ⟨e1,fr1,hp1,h1,h2⟩:=ih1 hk.1 H ok _ _ _ (show cCZ x H (thE (cCZ y H K) K) fr hp from h);by_cases hn:e1 = .normal
   . subst hn;obtain ⟨e2,fr2,hp2,h3,h4⟩:=ih2 hk.2 H ok _ _ _ (show cCZ y H K fr1 hp1 from h2);exact ⟨e2,fr2,hp2,qrk h1 h3,h4⟩
   refine ⟨e1,fr1,hp1,qmx hn h1,?_⟩;cases e1 <;> first | exact absurd rfl hn | exact h2
 | cond c x y ih1 ih2 =>
   intro hk H ok K fr hp h;simp only [CZ.ok,Bool.and_eq_true] at hk;have h:qlS (qt c) (cCZ x) (cCZ y) H K fr hp:=h;unfold qlS at h;rw [qa] at h;split at h
   . rename_i t ht;cases t with
     | true =>obtain ⟨e,fr1,hp1,h1,h2⟩:=ih1 hk.1 H ok _ _ _ (show cCZ x H K fr hp from h);exact ⟨e,fr1,hp1,fun Y hY Z hq hr w1 g1 hS=>Ji ht (fun _=>h1 Y hY Z hq hr w1 g1 hS) (fun q=>by cases q),h2⟩
     | false =>obtain ⟨e,fr1,hp1,h1,h2⟩:=ih2 hk.2 H ok _ _ _ (show cCZ y H K fr hp from h);exact ⟨e,fr1,hp1,fun Y hY Z hq hr w1 g1 hS=>Ji ht (fun q=>by cases q) (fun _=>h1 Y hY Z hq hr w1 g1 hS),h2⟩
   exact h.elim
 | block id x ih =>intro hk H ok K fr hp h;obtain ⟨e1,fr1,hp1,h1,h2⟩:=ih hk H ok _ _ _ (show cCZ x H (qlI id K) fr hp from h);refine ⟨bkE id e1,fr1,hp1,fun Y hY Z hq hr w1 g1 hS=>JJ (zc (fun e s ⟨q1,q2,q3⟩=>qej ?_) (h1 Y hY Z hq hr w1 g1 hS)),Wz h2⟩;subst q1;exact ⟨rfl,q2,q3⟩
 | loop x ih =>
   intro hk H ok K fr hp h
   have key : ∀ (n : Nat) (fr : FrL) (hp : List HObj), qm7 (fun ih => cCZ x H (thE ih K)) n fr hp -> ∃ m e fr' hp', qhg H.kap P S x.ac m fr hp e fr' hp' /\ K e fr' hp' := by
    intro n
    induction n with
    | zero=>intro fr hp h;exact h.elim
    | succ n ihn =>
      intro fr hp h;obtain ⟨e1,fr1,hp1,h1,h2⟩:=ih hk H ok _ _ _ (show cCZ x H (thE (qm7 (fun ih=>cCZ x H (thE ih K)) n) K) fr hp from h);by_cases hn:e1 = .normal
      . subst hn;obtain ⟨m,e2,fr2,hp2,h3,h4⟩:=ihn fr1 hp1 h2;exact ⟨m+1,e2,fr2,hp2,⟨fr1,hp1,h1,h3⟩,h4⟩
      refine ⟨0,e1,fr1,hp1,⟨hn,h1⟩,?_⟩;cases e1 <;> first | exact absurd rfl hn | exact h2
   obtain ⟨m,e,fr',hp',h1,h2⟩:=key 1000000 fr hp (show qp1 (cCZ x) H K fr hp from h);exact ⟨e,fr',hp',qgc h1,h2⟩
 | exit id=>intro _ H ok K fr hp h;exact ⟨.exit id,fr,hp,WZ rfl fun Y hY Z hq hr=>⟨rfl,rfl,hr⟩,h⟩
 | ret=>intro _ H ok K fr hp h;exact ⟨.ret,fr,hp,WZ rfl fun Y hY Z hq hr=>⟨rfl,rfl,hr⟩,h⟩
 | label l=>intro _ H ok K fr hp h;exact ⟨.normal,fr,hp,WZ rfl fun Y hY Z hq hr=>⟨rfl,rfl,hr⟩,h⟩
 | scope x ih =>
   intro hk H ok K fr hp h;obtain ⟨e1,fr1,hp1,h1,h2⟩:=ih hk H ok _ _ _ (show cCZ x H (ngE K) fr hp from h);have go:∀ {e:Exit},Go2 H.kap P S x.ac fr hp e fr1 hp1->(∀ (Q:Exit->St->Prop) s,Q e s->Exit.ng Q e s)->Go2 H.kap P S (.scope x.ac) fr hp e fr1 hp1:=fun {e} h1 hng Y hY Z hq hr w1 g1 hS=>qcV (zc (fun e s ⟨q1,q2,q3⟩=>by subst q1;exact hng _ _ ⟨rfl,q2,q3⟩) (h1 Y hY Z hq hr w1 g1 hS));cases e1 with
   | goto l=>exact (show False from h2).elim
   | _=>exact ⟨_,fr1,hp1,go h1 (fun Q s q=>q),h2⟩
 | rf g ps x y ks ih1 ih2 =>intro hk H ok K fr hp h;simp only [CZ.ok,Bool.and_eq_true] at hk;exact qr1 ok (fun H ok=>ih1 hk.1 H ok) (fun H ok=>ih2 hk.2 H ok) h
 | rm os x ks z rest ih =>
   intro hk H ok K fr hp h;simp only [CZ.ok,Bool.and_eq_true] at hk;obtain ⟨fins,n,h1,h2⟩:=qkz ok hk.1 (ih hk.2 H ok) (show rmP os x ks z _ (cCZ rest) H fr hp _ from h);split at h1
   . rename_i e fr' hp';refine ⟨bkE z.eb e,fr',hp',fun Y hY Z hq hr=>YH (fun e1 s1 ⟨o,q1,q2,q3,q4⟩=>?_) (h2 Y hY Z hq hr),Wz h1⟩;simp at q1;subst q1;exact ⟨q2,q3,q4⟩
   exact h1.elim
 | rmt os x ks z rest tl ih iht =>
   intro hk H ok K fr hp h;simp only [CZ.ok,Bool.and_eq_true] at hk;obtain ⟨fins,n,h1,h2⟩:=qkz ok hk.1.1 (ih hk.1.2 H ok) (show rmP os x ks z _ (cCZ rest) H fr hp _ from h);split at h1
   . rename_i o l;rw [Qb qo] at h1;obtain ⟨o1,h3,h4⟩:=qk3 (iht hk.2 H ok) h1;obtain ⟨h5,h6⟩:=qgN (iht hk.2 H ok) h3;obtain ⟨e1,fr1,hp1⟩:=o1;refine ⟨e1,fr1,hp1,fun Y hY Z hq hr w1 g1 hS=>?_,h5⟩;refine Q8 (zc (fun e s ⟨o',q1,q2,q3,q4⟩=>?_) (h2 Y hY Z hq hr w1 g1 hS))
     have all:∃ o2:Ou,(o2.1=e1/\o2.2.1=fr1/\HM o2.2.2 hp1)/\((bkE z.eb o'.1 = .normal/\∃ hp2,Go2 H.kap P S tl.ac o'.2.1 o'.2.2 o2.1 o2.2.1 hp2/\HM hp2 o2.2.2)\/(bkE z.eb o'.1≠.normal/\o2=(bkE z.eb o'.1,o'.2))):=by
      rcases List.mem_cons.1 q1 with k | k
      . subst k;exact ⟨_,⟨rfl,rfl,.refl⟩,h4⟩
      obtain ⟨o2,k1,k2⟩:=h6 o' k;exact ⟨o2,Xu k1,k2⟩
     obtain ⟨o2,⟨a1,a2,a3⟩,a4⟩:=all;rcases a4 with ⟨k1,hp2,k2,k3⟩ | ⟨k1,k2⟩
     . rw [k1] at q2; subst q2;show QK H.kap P w1 g1 tl.ac s _;have e0:s=⟨o'.2.1,s.hp⟩:=by rw [<-q3]
       rw [e0];exact zc (fun e s ⟨b1,b2,b3⟩=>⟨b1.trans a1,b2.trans a2,a3 _ _ (k3 _ _ b3)⟩) (k2 Y hY Z s.hp q4 w1 g1 hS)
     have:e=e1/\s.fr=fr1/\HR Z hp1 s.hp:=by rw [k2] at a1 a2 a3;exact ⟨q2.trans a1,q3.trans a2,a3 _ _ q4⟩
     rw [<-q2] at k1;cases e <;> first | exact absurd rfl k1 | exact this
   exact h1.elim
 | frz t x ih=>intro hk H ok K fr hp h;exact qrc (fun H ok=>ih hk H ok) ok h
 | fil=>intro _ H ok K fr hp h;exact qq7 h
 | acc a ks =>intro hk H ok K fr hp h;obtain ⟨hp',h1,h2⟩:=qpQ (κ:=H.kap) (P:=P) (S:=S) hk h;exact ⟨.normal,_,hp',h1,h2⟩
 | rma os x ks z rest tq w ih =>intro hk H ok K fr hp h;simp only [CZ.ok,Bool.and_eq_true] at hk;exact qr4 ok hk.1 (ih hk.2 H ok) h
 | nlr d =>intro _ H ok K fr hp h;exact ⟨.normal,_,hp,fun Y hY Z hq hr w1 g1 hS=>Jj rfl (qhq ⟨rfl,by simp [St.keep,get],hr⟩),(show K .normal [(d,.v (.slice none 0 0))] hp from h)⟩
 | flt os un ks =>
   intro hk H ok K fr hp h;obtain ⟨Rs,hs,fr',hp',k1,_,k3,k4⟩:=qe0 ok (show qaD os H (Zq ks (K .normal)) fr hp [] [] from h);unfold Zq at k4;rw [za] at k4;have hk2:=hk;simp only [CZ.ok,qiP,Bool.and_eq_true] at hk2;have lc:(Jo os).length=os.length:=by rw [WS];simp
   obtain ⟨e1,e2⟩:=qh9 k1;refine ⟨.normal,_,hp',fun Y hY Z hq hr w1 g1 hS=>Jj rfl (qcS (E:=⟨Y,RG P⟩) (un:=un) (Rs:=Rs) (J:=fun i h=>HR Z ((hp::hs).getD i []) h) hS hk2.1.1 hk2.1.2 (qra hk k1 k3 hY Z) hr fun fr2 hq2 h1 h2=>⟨rfl,?_,?_⟩),k4⟩
   . have h3 : get fr2 = get fr' := by rw [e1,h1]; show frA Rs fr (Jo os).length = _; rw [lc]
     simp only [St.keep,h3]
   have h4:HR Z ((hp::hs).getD (Jo os).length []) hq2:=h2;rw [lc,<-e2] at h4;exact h4
 | dead=>intro _ H ok K fr hp h;exact (show False from h).elim
end
def noS:YSp:=fun _ _ _ _ _=>False
theorem qDa:Yk noY noS:=fun _ _ _ _ _ _ h=>h.elim
theorem YU {fr : FrL} {hp : List HObj} : ∀ {rc : RC} {k : List AV -> Prop},qf9 rc fr hp k -> ∃ xs,(∀ Z hq,HR Z hp hq -> qak (hpf hq) fr rc xs) /\ k xs
 | [],k,h=>⟨[],fun _ _ _=>trivial,h⟩
 | (t,none)::r,k,h=>by unfold qf9 at h;rw [zq] at h;obtain ⟨xs,h1,h2⟩:=YU h;exact ⟨get fr t::xs,fun Z hq hr=>⟨rfl,h1 Z hq hr⟩,h2⟩
 | (a, some (agg, sz))::r, k, h=>by
   unfold qf9 at h;rw [zq] at h
   have fin : ∀ {v : AV},get fr a = v -> (match v with
    | .ptr cs off=>ldP agg sz off cs fun x=>qf9 r fr hp fun xs=>k (x::xs)
    | .ref id off=>Jl hp id fun cs=>ldP agg sz off cs fun x=>qf9 r fr hp fun xs=>k (x::xs)
    | _=>False)->∃ xs,(∀ Z hq,HR Z hp hq->qak (hpf hq) fr ((a,some (agg,sz))::r) xs)/\k xs:=fun {v} e h=>by
    split at h
    . obtain ⟨x,h1,h2⟩:=Jt h;obtain ⟨xs,h3,h4⟩:=YU h2;refine ⟨x::xs,fun Z hq hr=>⟨?_,h3 Z hq hr⟩,h4⟩;rw [e];exact ⟨rfl,h1⟩
    . obtain ⟨cs,h0,h⟩:=zp h;obtain ⟨x,h1,h2⟩:=Jt h;obtain ⟨xs,h3,h4⟩:=YU h2;refine ⟨x::xs,fun Z hq hr=>⟨?_,h3 Z hq hr⟩,h4⟩;rw [e];simp only [Q0,(hr.cel h0).1];exact ⟨trivial,h1⟩
    exact h.elim
   exact fin rfl h
theorem Xo {rc:RC} {k:AV->List HObj->Prop} {e:Exit} {fr:FrL} {hp:List HObj} (h:qnv rc k e fr hp):∃ r,(∀ Z hq,HR Z hp hq->qhf rc (fun r1 hp1=>r1=r/\HR Z hp hp1) e ⟨fr,hq⟩)/\k r hp:=by
 have go:qf9 rc fr hp (fun xs=>qyp xs fun x=>k x hp)->∃ r,(∀ Z hq,HR Z hp hq->∃ xs,qak (hpf hq) fr rc xs/\(VR xs=r/\HR Z hp hq))/\k r hp:=fun h=>by obtain ⟨xs,h1,h2⟩:=YU h;rw [qoo] at h2;exact ⟨_,fun Z hq hr=>⟨xs,h1 Z hq hr,rfl,hr⟩,h2⟩
 cases e with
 | normal=>exact go h
 | ret=>exact go h
 | _=>exact (show False from h).elim
def YZ (P:Program) (c:Cd):Prop:=∃ fn ts cz,P.funcs[c.f]?=some fn/\qJ P fn ts=some (CZ.ac cz)/\cz.ok=true/\cCZ cz=c.ct/\Q7 P fn.results.toList=some c.rc/\c.n<=fn.ntmps/\ja P c.f=true
def qdO (P:Program) (f:FuncId) (w:List AV->List HObj->(AV->List HObj->Prop)->Prop):Prop :=
 ∀ xs hp k,w xs hp k->∃ r hp',(∀ Z hq,HR Z hp hq->qw P f xs hq (fun r1 h1=>r1=r/\HR Z hp' h1))/\k r hp'
def CdZ (P:Program) (c:Cd):Prop:=match c.kn with
 | .pure g=>∀ ys r,g ys=some r->z8 P c.f ys r
 | .law w=>qdO P c.f w
 | .mix g=>YZ P c/\∀ ys q,g ys=some q->jG P c.f ys q
 | .code=>YZ P c
theorem qhJ {P:Program} {c:Cd} (e:c.kn = .code) (h:YZ P c):CdZ P c:=by unfold CdZ;rw [e];exact h
theorem qbY {P:Program} {c:Cd} (e:c.kn = .code) (h:CdZ P c):YZ P c:=by unfold CdZ at h;rw [e] at h;exact h
theorem qa2 {P:Program} {c:Cd} (e:c.kn.isCode=true) (h:CdZ P c):YZ P c:=by
 unfold CdZ at h;split at h
 . rename_i e1;rw [e1] at e;cases e
 . rename_i e1;rw [e1] at e;cases e
 . exact h.1
 exact h
theorem qa1 {P:Program} {c:Cd} {g} (e:c.kn = .mix g) (h:CdZ P c):YZ P c/\∀ ys q,g ys=some q->jG P c.f ys q:=by unfold CdZ at h;rw [e] at h;exact h
theorem qbZ {P:Program} {c:Cd} {g:List AV->Option AV} (e:c.kn = .pure g) (h:CdZ P c):∀ ys r,g ys=some r->z8 P c.f ys r:=by unfold CdZ at h;rw [e] at h;exact h
theorem qeB {P:Program} {c:Cd} {w} (e:c.kn = .law w) (h:CdZ P c):qdO P c.f w:=by unfold CdZ at h;rw [e] at h;exact h
def TBz (P:Program) (T:TBL):Prop:=∀ f,CdZ P (T f)
theorem qqf {P:Program}:CdZ P tNo:=fun xs hp k h=>(show False from h).elim
theorem qd {P:Program} {m:Nat} {l r:TBL} (hl:TBz P l) (hr:TBz P r):TBz P (qu m l r):=fun f=>by
 unfold qu;cases Nat.blt f m with
 | true=>exact hl f
 | false=>exact hr f
theorem qr6 {P : Program} {S : YSp} {H : Hd} (ok : HzOK P S H) (hkap : H.kap = none) {c : Cd} (hc : YZ P c) {xs : List AV} {hp : List HObj} {k : AV -> List HObj -> Prop} (h : qdY H c xs hp k) :
 ∃ r hp',(∀ Y,Yk Y S->∀ Z hq,HR Z hp hq->jF P ⟨Y,RG P⟩ c.f xs hq (fun r1 h1=>r1=r/\HR Z hp' h1))/\k r hp':=by
 obtain ⟨fn,ts,cz,h1,h2,h2k,h3,h4,h5,h6⟩:=hc;rw [qnz] at h;obtain ⟨g1,g2⟩:=qj h;rw [qea,<-h3] at g2;obtain ⟨e,fr',hp',g3,g4⟩:=qmg h2k H ok _ _ _ g2;rw [hkap] at g3;obtain ⟨r,g5,g6⟩:=Xo g4;refine ⟨r,hp',fun Y hY Z hq hr w1 g1' hYS=>WE hYS h1 h2 h4 (Nat.le_trans (Nat.le_of_ble_eq_true g1) h5) (Wu (fun e1 s1 ⟨q1,q2,q3⟩=>?_) (show AG P Y _ _ _ from g3 Y hY Z hq hr)),g6⟩;subst q1;have e0:s1=⟨fr',s1.hp⟩:=by rw [<-q2]
 have:=g5 Z s1.hp q3;rw [e0];exact this
theorem qDU {P : Program} {H : Hd} (ok : HzOK P noS H) (hkap : H.kap = none) {c : Cd} (hc : YZ P c) {xs : List AV} {hp : List HObj} {k : AV -> List HObj -> Prop} (h : qdY H c xs hp k) :
 ∃ r hp',(∀ Z hq,HR Z hp hq->qw P c.f xs hq (fun r1 h1=>r1=r/\HR Z hp' h1))/\k r hp':=by
 obtain ⟨r,hp',h1,h2⟩:=qr6 ok hkap hc h;exact ⟨r,hp',fun Z hq hr=>qaW fun w1 g1=>h1 noY qDa Z hq hr w1 g1 qo4,h2⟩
theorem qks {P:Program} {f:FuncId} {ys:List AV} {r:AV} {hp:List HObj} {k:PR->Prop} {kf:Prop} (hc0:∀ Z hq,HR Z [] hq->qw P f ys hq fun r1 h1=>r1=r/\HR Z hp h1) (h:qyi r hp k kf):(∃ q,jG P f ys q/\k q)\/kf:=by
 have hc:=hc0 _ _ HR.nil
 have val : ∀ {r : AV},qw P f ys [] (fun r1 h1 => r1 = r /\ HR (fun _ => none) hp h1) -> qky hp r (fun y _ => k (.val y)) kf -> (∃ q,jG P f ys q /\ k q) \/ kf := fun {r} hc h => by
  rcases qbx h with ⟨y,is,hy,h⟩ | h
  . refine .inl ⟨.val y,J8 (Zr (fun r1 hp1 ⟨e1,e2⟩=>?_) hc),h⟩;subst e1;exact ⟨is,e2.pur hy⟩
  exact .inr h
 unfold qyi at h;split at h
 . rename_i id off m sz;cases off with
   | zero =>
     obtain ⟨cs,h1,h2⟩:=zp (show Jl hp id _ from h);rcases qbQ h2 with ⟨h3,h4⟩ | h4
     . refine .inl ⟨.made m sz cs,qnc h3 (Zr (fun r1 hp1 ⟨e1,e2⟩=>?_) hc),h4⟩;subst e1;exact ⟨id,rfl,(e2.cel h1).1⟩
     exact .inr h4
   | succ o=>exact val hc h
 . rename_i id;obtain ⟨o,h1,h2⟩:=zr h;split at h2
   . rename_i es c;cases c with
     | succ c=>exact .inr h2
     | zero =>
       rcases qb1 (show qeS es _ kf from h2) with ⟨h3,h4⟩ | h4
       . refine .inl ⟨.mapp _,qrJ (fun es' clk hs => ?_) (Zr (fun r1 hp1 ⟨e1,e2⟩ => ?_) hc),h4⟩
         . refine Sh.pc (qbI.1 hs) ?_;rw [List.all_map];exact h3
         subst e1;obtain ⟨es',c',k1,k2,_⟩:=e2.mp (show hpf hp id=some (.mp es 0) from h1);exact ⟨id,es',c',rfl,k1,qbI.2 k2.zero⟩
       exact .inr h4
   exact .inr h2
 exact val hc h
theorem qkt {P:Program} {f:FuncId} {ys:List AV} {r:AV} {hp:List HObj} {k:PR->Prop} (hc0:∀ Z hq,HR Z [] hq->qw P f ys hq fun r1 h1=>r1=r/\HR Z hp h1) (h:qpH r hp k):∃ q,jG P f ys q/\k q:=by
 rcases qks hc0 h with h | h
 . exact h
 exact h.elim
theorem HR.push2 {Z:ZZ} {hp hq:List HObj} (h:HR Z hp hq) {a b:HObj} (ha:a.self=true) (hb:b.self=true):HR Z (hp++[a,b]) (hq++[a,b]):=by
 have h1:=h.set (id:=hp.length) (o:=a) (o':=a) (Nat.le_refl _) (by rw [h.new _ (Nat.le_refl _)];exact Vf ha);have e1:qn hp hp.length a=hp++[a]:=by simp [qn]
 have e2:qn hq hp.length a=hq++[a]:=by rw [<-h.len];simp [qn]
 rw [e1,e2] at h1;have h2:=h1.set (id:=(hp++[a]).length) (o:=b) (o':=b) (Nat.le_refl _) (by rw [h1.new _ (Nat.le_refl _)];exact Vf hb);have e3:qn (hp++[a]) (hp++[a]).length b=hp++[a,b]:=by simp [qn]
 have e4:qn (hq++[a]) (hp++[a]).length b=hq++[a,b]:=by rw [<-h1.len];simp [qn]
 rwa [e3,e4] at h2
theorem W7 (T : TBL) : ∀ n Y,(hdY T n Y).kap = none
 | 0,_=>rfl
 | n+1,_=>rfl
theorem qfv {P : Program} {S : YSp} {H0 H : Hd} (ok0 : HzOK P noS H0) (hk0 : H0.kap = none) (ok : HzOK P S H) (hk : H.kap = none) {c : Cd} (hc : YZ P c) {xs : List AV} {hp : List HObj} {k : AV -> List HObj -> Prop} (h : qdn H0 H c xs hp k) :
 ∃ r hp',(∀ Y,Yk Y S->∀ Z hq,HR Z hp hq->jF P ⟨Y,RG P⟩ c.f xs hq (fun r1 h1=>r1=r/\HR Z hp' h1))/\k r hp':=by
 have cv:∀ {f:FuncId} {xs:List AV} {hp hp':List HObj} {r:AV},(∀ Z hq,HR Z hp hq->qw P f xs hq (fun r1 h1=>r1=r/\HR Z hp' h1))->∀ Y,Yk Y S->∀ Z hq,HR Z hp hq->jF P ⟨Y,RG P⟩ f xs hq (fun r1 h1=>r1=r/\HR Z hp' h1) :=
  fun h Y hY Z hq hr=>WF (h Z hq hr)
 obtain ⟨g,md,nt,rc,ct,kn⟩:=c;unfold qdn at h;cases md with
 | false=>exact qr6 ok hk hc h
 | true =>
   rcases Qf (show J6 hp xs _ _ from h) with ⟨ys,ids,hp1,h⟩ | h
   . split at h
     . obtain ⟨r0,hp0,g1,g2⟩ := qDU ok0 hk0 hc h;rcases qks g1 g2 with ⟨q,h1,h2⟩ | hrun
       rotate_left
       . exact qr6 ok hk hc hrun
       cases q with
       | val r =>refine ⟨r,hp,cv fun Z hq hz=>QU (hz.purA hp1) h1 ?_,h2⟩;cases r.scalar <;> exact ⟨rfl,hz⟩
       | made m sz cs =>refine ⟨.ms hp.length 0 m sz,_,cv fun Z hq hz=>VW (hz.purA hp1) h1 ?_,zj (show Z4 _ _ _ from h2)⟩;refine ⟨by rw [hz.len],?_⟩;have:=hz.write (ws:=[(hp.length,.cells cs)]) (fun p hp'=>by simp at hp';subst hp';exact ⟨hz.new _ (Nat.le_refl _),Nat.le_refl _,rfl⟩);rw [<-hz.len] at this ⊢;exact this
       | mapp es =>
         have h2:=zj (show Z4 hp (.mp es 0) (fun n hp=>k (.mp n) hp) from h2);have e:qc hp [(hp.length,.mp es 0)]=hp++[.mp es 0]:=by simp [qc,qn]
         rw [e] at h2;exact ⟨.mp hp.length,_,cv fun Z hq hz=>VX hz hp1 h1,h2⟩
     exact qr6 ok hk hc h
   exact qr6 ok hk hc h
theorem qet {P : Program} {T : TBL} (hT : TBz P T) {S : YSp} {H0 H : Hd} (ok0 : HzOK P noS H0) (hk0 : H0.kap = none) (ok : HzOK P S H) (hk : H.kap = none) {f : FuncId} {xs : List AV} {hp : List HObj} {k : AV -> List HObj -> Prop} (h : qhD T H0 H f xs hp k) :
 ∃ r hp',(∀ Y,Yk Y S->∀ Z hq,HR Z hp hq->jF P ⟨Y,RG P⟩ f xs hq (fun r1 h1=>r1=r/\HR Z hp' h1))/\k r hp':=by
 have cv:∀ {f:FuncId} {xs:List AV} {hp hp':List HObj} {r:AV},(∀ Z hq,HR Z hp hq->qw P f xs hq (fun r1 h1=>r1=r/\HR Z hp' h1))->∀ Y,Yk Y S->∀ Z hq,HR Z hp hq->jF P ⟨Y,RG P⟩ f xs hq (fun r1 h1=>r1=r/\HR Z hp' h1) :=
  fun h Y hY Z hq hr=>WF (h Z hq hr)
 unfold qhD at h;have hc:=hT f;generalize T f=c at h hc;obtain ⟨g,md,nt,rc,ct,kn⟩:=c;obtain ⟨hg,h2⟩:=qj h;clear h;have h:=h2;clear h2;have hg:=Nat.eq_of_beq_eq_true hg;subst hg;cases kn with
 | law w =>obtain ⟨r,hp',h1,h2⟩:=qeB rfl hc _ _ _ h;exact ⟨r,hp',cv h1,h2⟩
 | pure w =>
   have h:qfF w xs hp k:=h;unfold qfF at h;rcases Qf h with ⟨ys,ids,hp1,h⟩ | h
   . split at h
     . rename_i r hr;rw [Qj,jl] at h;refine ⟨r,_,cv fun Z hq hz=>QU (hz.purA hp1) (qbZ rfl hc _ _ hr) ⟨rfl,?_⟩,h⟩;cases r.scalar with
       | true=>exact hz
       | false=>exact hz.write (hz.gones hp1)
     exact h.elim
   exact h.elim
 | mix w =>
   obtain ⟨hc1,hc2⟩:=qa1 rfl hc;have h:qAv w H0 H ⟨g,md,nt,rc,ct,.code⟩ xs hp k:=h;unfold qAv at h;have here:=fun h=>qfv (c:=⟨g,md,nt,rc,ct,.code⟩) ok0 hk0 ok hk hc1 (xs:=xs) (hp:=hp) (k:=k) h;rcases Qf h with ⟨ys,ids,hp1,h⟩ | h
   . split at h
     . split at h
       . rename_i q hq;have hq:=hc2 _ _ hq;cases q with
         | val r =>refine ⟨r,hp,cv fun Z hq1 hz=>QU (hz.purA hp1) hq ?_,h⟩;cases r.scalar <;> exact ⟨rfl,hz⟩
         | made m sz cs =>refine ⟨.ms hp.length 0 m sz,_,cv fun Z hq1 hz=>VW (hz.purA hp1) hq ?_,zj (show Z4 _ _ _ from h)⟩;refine ⟨by rw [hz.len],?_⟩;have:=hz.write (ws:=[(hp.length,.cells cs)]) (fun p hp'=>by simp at hp';subst hp';exact ⟨hz.new _ (Nat.le_refl _),Nat.le_refl _,rfl⟩);rw [<-hz.len] at this ⊢;exact this
         | mapp es =>
           have h:=zj (show Z4 hp (.mp es 0) (fun n hp=>k (.mp n) hp) from h);have e:qc hp [(hp.length,.mp es 0)]=hp++[.mp es 0]:=by simp [qc,qn]
           rw [e] at h;exact ⟨.mp hp.length,_,cv fun Z hq1 hz=>VX hz hp1 hq,h⟩
       exact here h
     exact here h
   exact here h
 | code=>exact qfv (c:=⟨g,md,nt,rc,ct,.code⟩) ok0 hk0 ok hk (qbY rfl hc) h
def qD8 (Y:YT) (S:YSp):Prop:=∀ id xs hp k,Y id xs hp k->∃ r hp',S id xs hp r hp'/\k r hp'
theorem qrl {P : Program} {T : TBL} (hT : TBz P T) : ∀ n (Y : YT) (S : YSp), qD8 Y S -> HzOK P S (hdY T n Y)
 | 0,_,_,_=>⟨fun _ _ _ _ h=>h.elim,fun _ _ _ _ h=>h.elim,fun _ _ _ h=>h.elim,fun _ _ _ _ h=>h.elim,fun _ _ _ _ h=>h.elim,fun _ _ h=>h.elim⟩
 | n+1, Y, S, hYS=>by
   have ih0:HzOK P noS (hdY T n qdq):=qrl hT n qdq noS fun _ _ _ _ h=>h.elim;have ih:=qrl hT n Y S hYS;have hk0:=W7 T n qdq;have hk:=W7 T n Y;have alone:∀ {c:Cd} {ys:List AV} {k:PR->Prop},YZ P c->qdY (hdY T n qdq) c ys [] (fun r hp=>qpH r hp k)->∃ q,jG P c.f ys q/\k q:=fun {c ys k} hc h=>by obtain ⟨r,hp',h1,h2⟩:=qDU ih0 hk0 hc h;exact qkt h1 h2
   refine ⟨fun f xs hp k h=>qet hT ih0 hk0 ih hk h,fun f xs hp k h=>?_,fun f ys k h=>?_,hYS,fun v hp G k h Gq hG=>?_,fun f k h=>?_⟩
   . obtain ⟨r,hp',h1,h2⟩:=qet hT ih0 hk0 ih0 hk0 h;exact ⟨r,hp',fun Z hq hr=>qaW fun w1 g1=>h1 noY qDa Z hq hr w1 g1 qo4,h2⟩
   . have h:qd8 T (hdY T n qdq) f ys k:=h;unfold qd8 at h;have hc:=hT f;generalize T f=c at h hc;obtain ⟨g,md,nt,rc,ct,kn⟩:=c;obtain ⟨hg,h2⟩:=qj h;clear h;have h:=h2;clear h2;have hg:=Nat.eq_of_beq_eq_true hg;subst hg;cases kn with
     | pure w =>
       have h : (match w ys with
        | some r=>faP 6 r fun r=>k (.val r)
        | none=>False):=h
       split at h
       . rename_i r hr;rw [Qj] at h;exact ⟨.val r,qbZ rfl hc _ _ hr,h⟩
       exact h.elim
     | law w =>obtain ⟨r,hp',h1,h2⟩:=qeB rfl hc _ _ _ h;exact qkt h1 h2
     | mix w =>
       obtain ⟨hc1,hc2⟩:=qa1 rfl hc
       have h : (match w ys with
        | some q=>k q
        | none=>qdY (hdY T n qdq) ⟨g,md,nt,rc,ct,.code⟩ ys [] fun r hp=>qpH r hp k):=h
       split at h
       . rename_i q hq;exact ⟨q,hc2 _ _ hq,h⟩
       exact alone (c:=⟨g,md,nt,rc,ct,.code⟩) hc1 h
     | code=>exact alone (qbY rfl hc) h
   . have h : rfP T (hdY T n) v hp G k := h;unfold rfP at h;split at h
     . rename_i f caps _;have hc:=hT f;generalize T f=c at h hc;obtain ⟨g,md,nt,rc,ct,kn⟩:=c;obtain ⟨hg,q2⟩:=qj h;have hg:=Nat.eq_of_beq_eq_true hg;subst hg;obtain ⟨h0,q3⟩:=qj q2;obtain ⟨fn,ts,cz,k1,k2,k2k,k3,k4,k5,k6⟩:=qa2 h0 hc;obtain ⟨h1,q4⟩:=qj q3;simp only at k1 k2 k3 k4 k5 k6;rw [qo,zg,qea,<-k3] at q4
       have ok':HzOK P (fun id xs hp1 r hp2=>id=hp.length/\Gq xs hp1 r hp2) (hdY T n fun id xs hp' kk=>okP (Nat.beq id hp.length) (G xs hp' kk)) :=
        qrl hT n _ _ fun id xs hp1 kk hh=>by obtain ⟨e,hh⟩:=qj hh;obtain ⟨r,hp2,q1,q2⟩:=hG _ _ _ hh;exact ⟨r,hp2,⟨Nat.eq_of_beq_eq_true e,q1⟩,q2⟩
       obtain ⟨e,fr',hp',g3,g4⟩:=qmg k2k _ ok' _ _ _ q4;rw [W7] at g3;obtain ⟨r,g5,g6⟩:=Xo g4;refine ⟨hp',fun Z hq hz G' hG'=>⟨g,caps,rfl,k6,fun w1 g1 hY=>?_⟩,g6⟩;have hl:=hz.len;have hYs:Yk (fun id xs hp1 K=>id=hq.length/\G' xs hp1 K) (fun id xs hp1 r hp2=>id=hp.length/\Gq xs hp1 r hp2):=fun Z1 id xs hp1 r hp2 ⟨e1,e2⟩ hq1 hr1=>⟨e1.trans hl.symm,hG' Z1 _ _ _ _ e2 hq1 hr1⟩;have hz2:=hz.push2 (a := .lp .ready (hp.length+1)) (b := .gone) rfl rfl;have:=(show AG P _ _ _ _ from g3 _ hYs Z _ hz2);rw [<-hl] at this;refine WE (fun id xs hp1 K ⟨e,hh⟩=>by subst e;exact hY _ _ _ hh) k1 k2 k4 (Nat.le_trans (by simp) (Nat.le_trans (Nat.le_of_ble_eq_true h1) k5)) (Wu (fun e1 s1 ⟨q1,q2,q3⟩=>?_) this);subst q1;have e0:s1=⟨fr',s1.hp⟩:=by rw [<-q2]
       have h9:=g5 Z s1.hp q3;rw [e0];cases e1 with
       | normal=>obtain ⟨xs,a1,a2⟩:=h9;exact ⟨xs,a1,a2.2⟩
       | ret=>obtain ⟨xs,a1,a2⟩:=h9;exact ⟨xs,a1,a2.2⟩
       | _=>exact h9.elim
     exact h.elim
   have h:okP (Nat.beq (T f).f f&&(T f).kn.isCode) k:=h;obtain ⟨h0,h⟩:=qj h;simp only [Bool.and_eq_true] at h0;obtain ⟨fn,ts,cz,k1,k2,k2k,k3,k4,k5,k6⟩:=qa2 h0.2 (hT f);rw [Nat.eq_of_beq_eq_true h0.1] at k6;exact ⟨k6,h⟩
def Yn (a b:List AV):Bool:=eqL (eqA 9) a b
theorem Y9 {a b:List AV} (h:Yn a b=true):a=b:=Yo (fun _ _ h=>Y8 9 h) h
def eqQ : PR -> PR -> Bool
 | .val a,.val b=>eqA 9 a b
 | .made m sz cs,.made m' sz' cs'=>Nat.beq m m'&&Nat.beq sz sz'&&Yn cs cs'
 | .mapp es,.mapp es'=>qds qq0 es es'
 | _,_=>false
theorem qjj {a b:List Ent} (h:(a.map kvE).Perm (b.map kvE)):shP a=shP b:=by funext es' c;exact propext ⟨fun k=>⟨h.symm.trans k.1,k.2⟩,fun k=>⟨h.trans k.1,k.2⟩⟩
theorem qq1 {P:Program} {f:FuncId} {ys:List AV} {a b:PR} (h:eqQ a b=true) (k:jG P f ys a):jG P f ys b:=by
 unfold eqQ at h;split at h
 . rwa [Y8 9 h] at k
 . simp only [Bool.and_eq_true] at h;rwa [Nat.eq_of_beq_eq_true h.1.1,Nat.eq_of_beq_eq_true h.1.2,Y9 h.2] at k
 . rename_i es es';have e:shP es=shP es':=(qjj (YO (g:=kvE) (fun a b h=>qbe h) h)).symm;show Wt P f ys (shP es');rw [<-e];exact k
 cases h
def isQ (q0:PR) (q:PR):Prop:=okP (eqQ q q0) True
theorem qq4 {P:Program} {T:TBL} (hT:TBz P T) {n:Nat} {f:FuncId} {ys:List AV} {q0:PR} (h:(hdN T (n+1)).D f ys (isQ q0)=True):jG P f ys q0:=by obtain ⟨q,h3,h4⟩:=(qrl hT (n+1) qdq noS fun _ _ _ _ h=>h.elim).D _ _ _ (of_eq_true h);obtain ⟨h5,_⟩:=qj h4;exact qq1 h5 h3
def qED (k:Kn) (ys:List AV) (q:PR):Kn:=match k with
 | .mix g => .mix fun zs=>cond (Yn zs ys) (some q) (g zs)
 | _ => .mix fun zs=>cond (Yn zs ys) (some q) none
def qDM (c:Cd) (ys:List AV) (q:PR):Cd:=⟨c.f,c.md,c.n,c.rc,c.ct,qED c.kn ys q⟩
def qxz (T:TBL) (f:FuncId) (ys:List AV) (q:PR):TBL:=fun g=>cond (Nat.beq g f) (qDM (T f) ys q) (T g)
theorem qd2 {P:Program} {T:TBL} (hT:TBz P T) {f:FuncId} {ys:List AV} {q:PR} (h1:(T f).f=f) (h2:(T f).kn.isCode=true) (h:jG P f ys q):TBz P (qxz T f ys q):=fun g=>by
 unfold qxz;cases e:Nat.beq g f with
 | false=>exact hT g
 | true =>
   have hc:=hT f;show CdZ P (qDM (T f) ys q);generalize T f=c at h1 h2 hc;obtain ⟨g',md,n,rc,ct,kn⟩:=c;simp only at h1 h2;subst h1;have code:YZ P ⟨g',md,n,rc,ct,kn⟩:=qa2 h2 hc;cases kn with
   | code =>
     refine ⟨code,fun zs q' hz=>?_⟩;have hz:cond (Yn zs ys) (some q) none=some q':=hz;cases e2:Yn zs ys with
     | true=>rw [e2] at hz;cases hz;rw [Y9 e2];exact h
     | false=>rw [e2] at hz;cases hz
   | mix w =>
     obtain ⟨_,hc2⟩:=qa1 rfl hc;refine ⟨code,fun zs q' hz=>?_⟩;have hz:cond (Yn zs ys) (some q) (w zs)=some q':=hz;cases e2:Yn zs ys with
     | true=>rw [e2] at hz;cases hz;rw [Y9 e2];exact h
     | false=>rw [e2] at hz;exact hc2 _ _ hz
   | pure w=>cases h2
   | law w=>cases h2
abbrev TZ (P:Program):={T:TBL // TBz P T}
def kA {P:Program} (T:TZ P) (f:FuncId) (ys:List AV) (q:PR) (h1:(T.1 f).f=f:=by kernel_rfl) (h2:(T.1 f).kn.isCode=true:=by kernel_rfl) (h:(hdN T.1 60).D f ys (isQ q)=True:=by kernel_rfl):TZ P:=⟨qxz T.1 f ys q,qd2 T.2 h1 h2 (qq4 (n:=59) T.2 h)⟩
theorem kR {P:Program} (T:TZ P) (f:FuncId) (ys:List AV) (q:PR) (h:(hdN T.1 60).D f ys (isQ q)=True:=by kernel_rfl):jG P f ys q:=qq4 (n:=59) T.2 h
def kT {P:Program} (T:TZ P) (f:FuncId) (h:jG P f [] (.val (B true))) (h1:(T.1 f).f=f:=by kernel_rfl) (h2:(T.1 f).kn.isCode=true:=by kernel_rfl):TZ P:=⟨qxz T.1 f [] (.val (B true)),qd2 T.2 h1 h2 h⟩
def qAa : AV -> Bool
 | .v (.bool t)=>t
 | _=>false
theorem qmX {x:AV} (h:qAa x=true):x=B true:=by
 unfold qAa at h;split at h
 . rw [h]
 cases h
def trK (r:AV) (_:List HObj):Prop:=okP (qAa r) True
theorem qoj {P:Program} (T:TZ P) {z:CZ} {c:CT} {rc:RC} {fr:FrL} (hk:z.ok=true) (hc:cCZ z=c) (h:c (hdN T.1 60) (qnv rc trK) fr []=True):AG P noY z.ac ⟨fr,[]⟩ (qhf rc fun r _=>r=B true):=by
 have h0:cCZ z (hdN T.1 60) (qnv rc trK) fr []:=by rw [hc];exact of_eq_true h
 obtain ⟨e,fr',hp',g3,g4⟩:=qmg (S:=noS) hk _ (qrl T.2 60 qdq noS fun _ _ _ _ h=>h.elim) _ _ _ h0;obtain ⟨r,g5,g6⟩:=Xo g4;obtain ⟨g7,_⟩:=qj g6;have g8:=qmX g7;subst g8;rw [W7] at g3;refine Wu (fun e1 s1 ⟨q1,q2,q3⟩=>?_) (show AG P noY z.ac ⟨fr,[]⟩ _ from g3 noY qDa (fun _=>none) [] HR.nil);subst q1;have e0:s1=⟨fr',s1.hp⟩:=by rw [<-q2]
 have h9:=g5 _ s1.hp q3;rw [e0];cases e1 with
 | normal=>obtain ⟨xs,a1,a2⟩:=h9;exact ⟨xs,a1,a2.1⟩
 | ret=>obtain ⟨xs,a1,a2⟩:=h9;exact ⟨xs,a1,a2.1⟩
 | _=>exact h9.elim
abbrev U (n:Int):AV := .v (.int .u8 n)
def qCh:AC := .rgn [⟨none,[(.mv 8 (.k (B false)))]⟩] [0,1,2,3]
def qCi:AC := .rgn [⟨none,[(.mv 30 (.t 0)),(.cnv 31 .i64 (.t 30)),(.bin 32 .rem (.t 31) (.k (I 5))),(.bin 33 .add (.k (I 1)) (.t 32)),(.mv 9 (.t 33))]⟩] [1,2,3,9]
def qCj:AC := .rgn [⟨none,[(.mv 34 (.t 1)),(.cnv 35 .i64 (.t 34)),(.mv 36 (.t 9)),(.bin 37 .sub (.k (I 6)) (.t 36)),(.bin 38 .rem (.t 35) (.t 37)),(.bin 39 .add (.k (I 1)) (.t 38)),(.mv 10 (.t 39))]⟩] [2,3,9,10]
def qCk:AC := .drw [⟨none,[(.mv 40 (.t 2)),(.cnv 41 .i64 (.t 40)),(.mv 42 (.t 9)),(.bin 43 .rem (.t 41) (.t 42)),(.mv 44 (.t 3)),(.cnv 45 .i64 (.t 44)),(.mv 46 (.t 10)),(.bin 47 .rem (.t 45) (.t 46)),(.mv 11 (.t 43)),(.mv 12 (.t 47))]⟩] [] [9,10,11,12]
variable {P:Program} {Y:Nat->List AV->List HObj->(AV->List HObj->Prop)->Prop} {T:AC} {Q:Exit->St->Prop}
theorem wid {n:Int} (h : -9223372036854775808<=n/\n<9223372036854775808):IntKind.i64.wrap n=n:=by simp [IntKind.wrap,IntKind.bits,IntKind.signed,Int.bmod];omega
theorem qdJ {n m:Int} (h:0<=n) (h2:0<m):0<=n.tmod m/\n.tmod m<m:=⟨Int.tmod_nonneg m h,Int.tmod_lt_of_pos n h2⟩
theorem qjx {n0 n1 n2 n3 p q i k : Int} (h0 : 0 <= n0 /\ n0 < 256) (h1 : 0 <= n1 /\ n1 < 256) (h2 : 0 <= n2 /\ n2 < 256) (h3 : 0 <= n3 /\ n3 < 256)
 (hp:1+n0.tmod 5=p) (hq:1+n1.tmod (6 - p)=q) (hi:n2.tmod p=i) (hk:n3.tmod q=k) (p1:1<=p) (p2:p<=5) (q1:1<=q) (q2:q<=6 - p)
 (hT:AG P Y T ⟨[(9,I p),(10,I q),(11,I i),(12,I k)],[]⟩ Q):AG P Y (.seq qCh (.seq qCi (.seq qCj (.seq qCk T)))) ⟨Zn 0 [U n0,U n1,U n2,U n3],[]⟩ Q:=by
 have a0:=qdJ (m:=5) h0.1 (by omega);have a1:=qdJ (m:=6 - p) h1.1 (by omega);have e1:(6:Int) - p≠0:=by omega
 have e2:p≠0:=by omega
 have e3:q≠0:=by omega
 refine qbP (st1:=⟨[(0,U n0),(1,U n1),(2,U n2),(3,U n3)],[]⟩) (qhh ?_) (qbP (st1:=⟨[(1,U n1),(2,U n2),(3,U n3),(9,I p)],[]⟩) (qhh ?_) (qbP (st1:=⟨[(2,U n2),(3,U n3),(9,I p),(10,I q)],[]⟩) (qhh ?_) (qbP (st1:=⟨[(9,I p),(10,I q),(11,I i),(12,I k)],[]⟩) (qhh ?_) hT)))
 . simp [qCh]
 . simp (disch:=omega)[qCi,wid,hp]
 . simp (disch:=omega)[qCj,wid,hq,qhu e1]
 simp (disch:=omega)[qCk,wid,hi,hk,qhu e2,qhu e3]
end Go.AM

namespace Go.AM
open Go.RowKit
def qDQ : AC -> Option (List XO × Opd × List Nat × RMz × AC)
 | .seq (.rgn [⟨none,os⟩] ks) (.block eb (.loop (.seq (.rgn [⟨none,[.nxt a (.t it),.ext b _ 0]⟩] ks1) (.seq (.cond _ .skip _) (.block bb (.seq (.rgn (⟨none,.ent c _::os2⟩::gs2) ks2) rest))))))=>match os.getLast? with
   | some (.rng _ x)=>some (preO os.dropLast,x,ks,⟨it,a,b,c,eb,bb,ks1,ks2,preO os2,gs2.map Xj⟩,rest)
   | _=>none
 | _=>none
def qAC (hs:List Nat) (gs:List XG) (un:List (Nat × Nat)) (ks:List Nat):Option Nat :=
 (List.range (Q5 (gs.map XG.grp)).length).find? fun p => (match (Q5 (gs.map XG.grp))[p]? with
  | some (_,oc)=>qz9 hs oc
  | none=>false)&&qiQ gs un ks p
def qDD (hs:List Nat) (gs:List XG) (un:List (Nat × Nat)) (ks:List Nat):CZ:=match qAC hs gs un ks with
 | some p => .piv gs un ks p
 | none => .drw gs un ks
def qDJ (t : Nat) : List Nat -> List Nat
 | []=>[t]
 | a::l=>if t<a then t::a::l else if t=a then a::l else a::qDJ t l
def qmV (ts df acc:List Nat):List Nat:=ts.foldl (fun acc t=>if df.contains t then acc else qDJ t acc) acc
def qz6 : List AOp -> List Nat × List Nat -> List Nat × List Nat
 | [],s=>s
 | o :: os,(df,acc) => qz6 os ((match o.dst with
   | some d=>d::df
   | none=>df),qmV (o.opds.flatMap Opd.tmp) df acc)
def qmS : List Grp -> List Nat × List Nat -> List Nat × List Nat
 | [],s=>s
 | ⟨none,os⟩::gs,s=>qmS gs (qz6 os s)
 | ⟨some (j,_),os⟩::gs,(df,acc)=>qmS gs (qz6 os (df,qmV [j] df acc))
def qfy (gs:List Grp) (ks:List Nat):List Nat:=match qmS gs ([],[]) with
 | (df,acc)=>qmV ks df acc
def qey (hs : List Nat) : AOp -> Bool
 | .callv .. => hs.contains 0
 | .call _ f _=>hs.contains f
 | _=>false
def qEl (hs:List Nat) (gs:List Grp) (un:List (Nat × Nat)) (ks:List Nat):CZ :=
 if (qiS gs).any (qey hs) then qDD hs (gs.map Xj) un ks
 else if (qiS gs).any (fun o => match o with
  | .call _ f _=>hs.contains (100000+f)
  | _=>false) then .drw (gs.map Xj) un ks
 else if okD false (qfy gs ks) (Jm (gs.map Xj)) (gs.map Xj) un ks then .drwF false (qfy gs ks) (Jm (gs.map Xj)) (gs.map Xj) un ks
 else if okD true (qfy gs ks) (Jm (gs.map Xj)) (gs.map Xj) un ks then .drwF true (qfy gs ks) (Jm (gs.map Xj)) (gs.map Xj) un ks
 else qDD hs (gs.map Xj) un ks
def qdy (hs : List Nat) (tf : Bool) : Nat -> AC -> CZ
 | 0,_ => .dead
 | n+1, ac=>match qDQ ac with
   | some (os,x,ks,z,rest) => .rm os x ks z (qdy hs tf n rest)
   | none=>match ac with
     | .skip => .skip
     | .rgn gs ks => .rgnF (qfy gs ks) (Jm (gs.map Xj)) (gs.map Xj) ks
     | .drw gs un ks=>qEl hs gs un ks
     | .seq x y=>match (bif tf then qDQ x else none) with
       | some (os,a,ks,z,rest) => .rmt os a ks z (qdy hs tf n rest) (qdy hs tf n y)
       | none => .seq (qdy hs tf n x) (qdy hs tf n y)
     | .cond c x y => .cond c (qdy hs tf n x) (qdy hs tf n y)
     | .block id x => .block id (qdy hs tf n x)
     | .loop x => .loop (qdy hs tf n x)
     | .exit id => .exit id
     | .ret => .ret
     | .label l => .label l
     | .scope x => .scope (qdy hs tf n x)
     | .rf g ps x y ks => .rf g ps (qdy hs tf n x) (qdy hs tf n y) ks
     | .dead => .dead
def qDF (gs:List XG) (un:List (Nat × Nat)) (ks:List Nat):Option CZ:=match gs with
 | [⟨none, xs⟩] => some (.flt ((List.range (xs.flatMap XO.ops).length).filterMap fun i => match (xs.flatMap XO.ops)[i]? with
     | some o=>some (o,qpB o&&X4 un (Q5 [⟨none,xs.flatMap XO.ops⟩]) i)
     | none=>none) un ks)
 | _=>none
def qg6 (f : Nat) : CZ -> CZ
 | .drwF st ins dss gs un ks => if (qiS (gs.map XG.grp)).any (qey [f]) then (match qDF gs un ks with
   | some z=>if z.ok then z else .drwF st ins dss gs un ks
   | none => .drwF st ins dss gs un ks) else .drwF st ins dss gs un ks
 | .drw gs un ks => if (qiS (gs.map XG.grp)).any (qey [f]) then (match qDF gs un ks with
   | some z=>if z.ok then z else .drw gs un ks
   | none => .drw gs un ks) else .drw gs un ks
 | .seq x y => .seq (qg6 f x) (qg6 f y)
 | .cond c x y => .cond c (qg6 f x) (qg6 f y)
 | .block id x => .block id (qg6 f x)
 | .loop x => .loop (qg6 f x)
 | .scope x => .scope (qg6 f x)
 | .rf g ps x y ks => .rf g ps (qg6 f x) (qg6 f y) ks
 | x=>x
def qhb : CZ -> CZ
 | .rgnF ins dss gs ks=>match gs,ks with
   | [⟨none,[.op (.mv d (.k (.sl true 0 [])))]⟩],[d']=>if d=d' then .nlr d else .rgnF ins dss gs ks
   | _,_ => .rgnF ins dss gs ks
 | .seq x y => .seq (qhb x) (qhb y)
 | .cond c x y => .cond c (qhb x) (qhb y)
 | .block id x => .block id (qhb x)
 | .loop x => .loop (qhb x)
 | .scope x => .scope (qhb x)
 | .rf g ps x y ks => .rf g ps (qhb x) (qhb y) ks
 | x=>x
def qmt : CZ -> CZ
 | .loop x=>match x with
   | .seq (.rgnF _ _ [⟨none,[.op (.bin 10 .lss (.t 9) (.k (.v (.int .i64 4096))))]⟩] _) _ => .fil
   | _ => .loop (qmt x)
 | .seq x y => .seq (qmt x) (qmt y)
 | .cond c x y => .cond c (qmt x) (qmt y)
 | .block id x => .block id (qmt x)
 | x=>x
def qg7 (f t : Nat) : CZ -> CZ
 | .seq x y => .seq (qg7 f t x) (qg7 f t y)
 | .cond c x y => .cond c (qg7 f t x) (qg7 f t y)
 | .block id x => .block id (qg7 f t x)
 | .loop x => .loop (qg7 f t x)
 | .scope x => .scope (qg7 f t x)
 | .rf g ps x y ks => .rf g ps (qg7 f t x) (qg7 f t y) ks
 | x => if (match x.ac with
   | .rgn gs _=>qiS gs
   | .drw gs _ _=>qiS gs
   | _=>[]).any (fun o=>match o with
   | .call _ g _=>g==f
   | .bsl .. => f==0
   | _=>false) then .frz t x else x
def qD9 : XO -> XO
 | .op (.bsl d n sz z ps) => .bsm d n sz z ps
 | x=>x
def qg4 : CZ -> CZ
 | .rgnF ins dss gs ks => .rgnF ins dss (gs.map fun g=>⟨g.guard,g.ops.map qD9⟩) ks
 | .seq x y => .seq (qg4 x) (qg4 y)
 | .cond c x y => .cond c (qg4 x) (qg4 y)
 | .block id x => .block id (qg4 x)
 | .loop x => .loop (qg4 x)
 | .scope x => .scope (qg4 x)
 | .rf g ps x y ks => .rf g ps (qg4 x) (qg4 y) ks
 | x=>x
def qlz (tq : Nat) : CZ -> CZ
 | .drwF st ins dss gs un ks=>match gs with
   | [⟨none,[.op (.mv t1 (.t tm)),.op (.ld t2 _ w (.t tp)),.op (.lku t3 kk _ _ _ _),.op (.mv t4 (.t tv)),.op (.bin t5 _ _ _),.ups t6 _ _ _ _ t7 _]⟩]=>if tm=tq then .acc ⟨t1,tm,t2,w,tp,t3,kk,t4,tv,t5,t6,t7⟩ ks else .drwF st ins dss gs un ks
   | _ => .drwF st ins dss gs un ks
 | .seq x y => .seq (qlz tq x) (qlz tq y)
 | .cond c x y => .cond c (qlz tq x) (qlz tq y)
 | .block id x => .block id (qlz tq x)
 | x=>x
def V8 : CZ -> Bool
 | .acc .. => true
 | .seq x y=>V8 x || V8 y
 | .cond _ x y=>V8 x || V8 y
 | .block _ x=>V8 x
 | _=>false
def qlA (tq w : Nat) : CZ -> CZ
 | .rm os x ks z rest=>if V8 (qlz tq rest) then .rma os x ks z (qlz tq rest) tq w else .rm os x ks z rest
 | .seq x y => .seq (qlA tq w x) (qlA tq w y)
 | .cond c x y => .cond c (qlA tq w x) (qlA tq w y)
 | .block id x => .block id (qlA tq w x)
 | .loop x => .loop (qlA tq w x)
 | x=>x
section
variable {H:Hd} {K:KE} {c:K1} {fr:FrL} {hp:HL} {d:Nat}
theorem qDo {x}:qr (.mv d x) H c fr hp=opZ x fr fun a=>c ((d,a)::fr) hp:=rfl
theorem qph {b x y}:qr (.pick d b x y) H c fr hp=opZ b fr fun v=>opZ x fr fun a1=>opZ y fr fun a2=>qf3 v a1 a2 fun r=>c ((d,r)::fr) hp:=rfl
theorem qw1 {op x y}:qr (.bin d op x y) H c fr hp=opZ x fr fun a=>opZ y fr fun b=>VT op a b fun r=>c ((d,r)::fr) hp:=rfl
theorem qjK {x}:qr (.un d .not x) H c fr hp=opZ x fr fun v=>qyg v fun r=>c ((d,r)::fr) hp:=rfl
theorem qjJ {x}:qr (.un d .neg x) H c fr hp=opZ x fr fun v=>qyf v fun r=>c ((d,r)::fr) hp:=rfl
theorem qxc {x i}:qr (.ext d x i) H c fr hp=opZ x fr fun v=>qx1 v i fun r=>c ((d,r)::fr) hp:=rfl
theorem qDn {agg sz x}:qr (.ld d agg sz x) H c fr hp=opZ x fr fun v=>ldV agg sz v hp fun r=>c ((d,r)::fr) hp:=rfl
theorem qDq {sz a x}:qr (.st sz a x) H c fr hp=opZ a fr fun p=>opZ x fr fun v=>stV sz p v hp fun hp=>c fr hp:=rfl
theorem qDl {x off}:qr (.fa d x off) H c fr hp=opZ x fr fun v=>faV off v fun r=>c ((d,r)::fr) hp:=rfl
theorem qDm {sz x i}:qr (.ia d sz x i) H c fr hp=opZ x fr fun v=>opZ i fr fun j=>iaV sz v j fun r=>c ((d,r)::fr) hp:=rfl
theorem qxe {ln sz x i}:qr (.iaa d ln sz x i) H c fr hp=opZ x fr fun v=>opZ i fr fun j=>qx4 ln sz v j fun r=>c ((d,r)::fr) hp:=rfl
theorem qxj {x}:qr (.len d x) H c fr hp=opZ x fr fun v=>qx9 v fun r=>c ((d,r)::fr) hp:=rfl
theorem qw8 {k x}:qr (.cnv d k x) H c fr hp=opZ x fr fun v=>qxV k v fun r=>c ((d,r)::fr) hp:=rfl
theorem qDk {zero}:qr (.al d zero) H c fr hp=Z4 hp (.cells zero) fun n hp=>c ((d,.ref n 0)::fr) hp:=rfl
theorem qwZ {sz bytes x y}:qr (.app d sz bytes x y) H c fr hp=opZ x fr fun a=>opZ y fr fun b=>qxC sz bytes a b hp fun r hp=>c ((d,r)::fr) hp:=rfl
theorem qw4 {n sz zero parts}:qr (.bsl d n sz zero parts) H c fr hp=ZB (parts.map (·.2)) fr fun xs=>qxS n sz zero parts xs hp fun r hp=>c ((d,r)::fr) hp:=rfl
theorem qw2 {zero ps}:qr (.bld d zero ps) H c fr hp=ZB (ps.map (·.2.2)) fr fun xs=>qxR zero ps xs fun r=>c ((d,r)::fr) hp:=rfl
theorem qxd {agg sz off x}:qr (.fld d agg sz off x) H c fr hp=opZ x fr fun v=>qx2 agg sz off v fun r=>c ((d,r)::fr) hp:=rfl
theorem qxg {ln agg sz x i}:qr (.idx d ln agg sz x i) H c fr hp=opZ x fr fun v=>opZ i fr fun j=>qx7 ln agg sz v j fun r=>c ((d,r)::fr) hp:=rfl
theorem qxr {sz x lo hi mx}:qr (.slc d sz x lo hi mx) H c fr hp=opZ x fr fun a=>Xh lo fr fun l=>Xh hi fr fun h=>Xh mx fr fun m=>qnF sz a l h m fun r=>c ((d,r)::fr) hp:=rfl
theorem qDp {max x y}:qr (.mx d max x y) H c fr hp=opZ x fr fun a=>opZ y fr fun b=>mxP max a b fun r=>c ((d,r)::fr) hp:=rfl
theorem qpg {x}:qr (.nilc d x) H c fr hp=opZ x fr fun a=>qpG a fun r=>c ((d,r)::fr) hp:=rfl
theorem qxn {f us bs}:qr (.mkf d f us bs) H c fr hp=ZB us fr fun us=>ZB bs fr fun bs=>c ((d,.fn f us bs)::fr) hp:=rfl
theorem qw3 {sz x}:qr (.box d sz x) H c fr hp=opZ x fr fun a=>qpo sz a hp fun r hp=>c ((d,r)::fr) hp:=rfl
theorem qxp {sz bytes zero n m}:qr (.mks d sz bytes zero n m) H c fr hp=opZ n fr fun a=>opZ m fr fun b=>qye sz bytes zero a b hp fun r hp=>c ((d,r)::fr) hp:=rfl
theorem qxb {neg ks x y}:qr (.eqk d neg ks x y) H c fr hp=opZ x fr fun a=>opZ y fr fun b=>qx0 neg ks a b fun r=>c ((d,r)::fr) hp:=rfl
theorem qxm {x}:qr (.lns d x) H c fr hp=opZ x fr fun v=>qyc v fun r=>c ((d,r)::fr) hp:=rfl
theorem qw6 {x}:qr (.cap d x) H c fr hp=opZ x fr fun v=>qpt v fun r=>c ((d,r)::fr) hp:=rfl
theorem qxk {ks z ok m k}:qr (.lku d ks z ok m k) H c fr hp=opZ m fr fun x=>opZ k fr fun y=>qya ks z ok x y hp fun r=>c ((d,r)::fr) hp:=rfl
theorem qxh {ks m k v}:qr (.ins ks m k v) H c fr hp=opZ m fr fun x=>opZ k fr fun y=>opZ v fr fun a=>qg9 ks x y a hp fun hp=>c fr hp:=rfl
theorem qxa {ks m k}:qr (.del ks m k) H c fr hp=opZ m fr fun x=>opZ k fr fun y=>qxY ks x y hp fun hp=>c fr hp:=rfl
theorem qxl {m}:qr (.lnm d m) H c fr hp=opZ m fr fun x=>qyb x hp fun r=>c ((d,r)::fr) hp:=rfl
theorem qxo:qr (.mkm d) H c fr hp=Z4 hp (.mp [] 0) fun n hp=>c ((d,.mp n)::fr) hp:=rfl
theorem qxf {x i}:qr (.ids d x i) H c fr hp=opZ x fr fun a=>opZ i fr fun b=>qx6 a b hp fun r hp=>c ((d,r)::fr) hp:=rfl
theorem qxt {x lo hi}:qr (.sls d x lo hi) H c fr hp=opZ x fr fun a=>Xh lo fr fun l=>Xh hi fr fun h=>qyo a l h hp fun r hp=>c ((d,r)::fr) hp:=rfl
theorem qw9 {sz x y}:qr (.cpy d sz x y) H c fr hp=opZ x fr fun a=>opZ y fr fun b=>qxW sz a b hp fun r hp=>c ((d,r)::fr) hp:=rfl
theorem qw7 {sz zero x}:qr (.clr sz zero x) H c fr hp=opZ x fr fun a=>qxU sz zero a hp fun hp=>c fr hp:=rfl
theorem qpe {sz bytes zero x k}:qr (.appz d sz bytes zero x k) H c fr hp=opZ x fr fun a=>opZ k fr fun b=>qxE sz bytes zero a b hp fun r hp=>c ((d,r)::fr) hp:=rfl
theorem qxs {sz ln x lo hi mx}:qr (.slp d sz ln x lo hi mx) H c fr hp=opZ x fr fun a=>Xh lo fr fun l=>Xh hi fr fun h=>Xh mx fr fun m=>qyn sz ln a l h m hp fun r hp=>c ((d,r)::fr) hp:=rfl
theorem qw0 {x}:qr (.b2s d x) H c fr hp=opZ x fr fun a=>qxG a hp fun r hp=>c ((d,r)::fr) hp:=rfl
theorem qxq {x}:qr (.s2b d x) H c fr hp=opZ x fr fun a=>qyl a hp fun r hp=>c ((d,r)::fr) hp:=rfl
theorem qpd {bytes x y}:qr (.apps d bytes x y) H c fr hp=opZ x fr fun a=>opZ y fr fun b=>qxD bytes a b hp fun r hp=>c ((d,r)::fr) hp:=rfl
theorem qpf {f args}:qr (.call d f args) H c fr hp=ZB args fr fun xs=>H.C f xs hp fun r hp=>c ((d,r)::fr) hp:=rfl
theorem qjI {x args}:qr (.callv d x args) H c fr hp=opZ x fr fun v=>ZB args fr fun xs=>V0 v xs H hp fun r hp=>c ((d,r)::fr) hp:=rfl
theorem qxi {b kd x}:qr (.isn d b kd x) H c fr hp=opZ x fr fun v=>qpC b kd v hp fun r=>c ((d,r)::fr) hp:=rfl
theorem qw5 {n sz zero parts}:cXF (.bsm d n sz zero parts) H c fr hp=ZB (parts.map (·.2)) fr fun xs=>qpq n sz zero parts xs hp fun r hp=>c ((d,r)::fr) hp:=rfl
theorem qxu {ks z m k d2 v}:cXF (.ups d ks z m k d2 v) H c fr hp=opZ m fr fun x=>opZ k fr fun y=>opZ v fr fun a=>qg9 ks x y a hp fun hp=>c fr hp:=rfl
theorem qv1:VT .add=qxH:=rfl
theorem qwe:VT .sub=qxP:=rfl
theorem qv8:VT .mul=qxN:=rfl
theorem qv7:VT .lss=qxM:=rfl
theorem qv5:VT .gtr=qxK:=rfl
theorem qv6:VT .leq=qxL:=rfl
theorem qv4:VT .geq=qxJ:=rfl
theorem qv3:VT .eql=qxI:=rfl
theorem qv9:VT .neq=qxO:=rfl
theorem qwa:VT .quo=qbm .quo:=rfl
theorem qwb:VT .rem=qbm .rem:=rfl
theorem qv2:VT .and=qbm .and:=rfl
theorem qC9:VT .or=qbm .or:=rfl
theorem qwf:VT .xor=qbm .xor:=rfl
theorem qgZ:VT .andNot=qbm .andNot:=rfl
theorem qwc:VT .shl=qbm .shl:=rfl
theorem qwd:VT .shr=qbm .shr:=rfl
theorem qE4 {n:Nat} {k}:opZ (.t n) fr k=qfm fr n k:=rfl
theorem qE3 {x:AV} {k}:opZ (.k x) fr k=k x:=rfl
theorem qwn {k}:ZB [] fr k=k []:=rfl
theorem qoZ {o os k}:ZB (o::os) fr k=opZ o fr fun a=>ZB os fr fun l=>k (a::l):=rfl
theorem qo0 {k}:Xh none fr k=k none:=rfl
theorem qo1 {x k}:Xh (some x) fr k=opZ x fr fun a=>k (some a):=rfl
theorem qoQ {j t:Nat} {x:AV} {r:FrL} {k}:qfm ((j,x)::r) t k=if j=t then k x else qfm r t k:=by
 by_cases h:j=t
 . rw [if_pos h,jX,get,if_pos h]
 rw [if_neg h,jX,jX,get,if_neg h]
theorem qoR {j t:Nat} {x:AV} {r:FrL} {k}:VN ((j,x)::r) t k=if j=t then k x else VN r t k:=by
 by_cases h:j=t
 . rw [if_pos h,zq,get,if_pos h]
 rw [if_neg h,zq,zq,get,if_neg h]
theorem qwj {k}:jH [] fr k=k []:=rfl
theorem qoW {t ks k}:jH (t::ks) fr k=VN fr t fun x=>jH ks fr fun l=>k ((t,x)::l):=rfl
theorem qE2 {ks}:Zq ks c fr hp=jH ks fr fun fr=>c fr hp:=rfl
theorem qv0 {l:FrL}:[]++l=l:=rfl
theorem qoO {a} {l m:FrL}:(a::l)++m=a::(l++m):=rfl
theorem qwq {ins dss gs ks}:qhC ins dss gs ks=fun H K fr hp=>qg5 ins (box (X6 ins fun kn hp=>cXJ gs dss H (Zq ks (K .normal)) (kn++fr) hp)) fr hp:=rfl
theorem qwp {st ins dss gs ks}:qhy st ins dss gs ks=fun H K fr hp=>qg5 ins (box (X6 ins fun kn hp=>qde st gs dss H (Zq ks (K .normal)) (kn++fr) hp)) fr hp:=rfl
theorem qwg {J:qaB []}:qg5 [] J fr hp=(show HL->Prop from J) hp:=rfl
theorem qoP {t ts} {J:qaB (t::ts)}:qg5 (t::ts) J fr hp=qdH t fr fun x p=>qg5 ts ((show AV->qaB ts from J) x) p hp:=rfl
theorem qwk {F}:X6 [] F=F []:=rfl
theorem qoX {d ds F}:X6 (d::ds) F=fun x=>X6 ds fun kn=>F ((d,x)::kn):=rfl
theorem qwo {J:qaB []}:qhj [] J fr hp=(show HL->Prop from J) hp:=rfl
theorem qo2 {d ds} {J:qaB (d::ds)}:qhj (d::ds) J fr hp=qfm fr d fun x=>qhj ds ((show AV->qaB ds from J) x) fr hp:=rfl
theorem qwm {J:qaB []}:qhk [] J hp=(show HL->Prop from J) hp:=rfl
theorem qoY {d ds} {J:qaB (d::ds)}:qhk (d::ds) J hp=qhk ds ((show AV->qaB ds from J) (.v undef)) hp:=rfl
theorem qwi {dss}:cXJ [] dss H c fr hp=c fr hp:=rfl
theorem qoU {os gs ds dss}:cXJ (⟨none,os⟩::gs) (ds::dss) H c fr hp=qdQ os H (cXJ gs dss H c) fr hp:=rfl
theorem qoV {j b os gs ds dss}:cXJ (⟨some (j,b),os⟩::gs) (ds::dss) H c fr hp=qfC (box (X6 ds fun kn hp=>cXJ gs dss H c (kn++fr) hp)) fun J=>qfm fr j fun v=>gdK v b (qdQ os H (fun fr2 hp2=>qhj ds J fr2 hp2) fr hp) (qhk ds J hp):=rfl
theorem qwh {st dss}:qde st [] dss H c fr hp=c fr hp:=rfl
theorem qoS {st os gs ds dss}:qde st (⟨none,os⟩::gs) (ds::dss) H c fr hp=qdS st os H (qde st gs dss H c) fr hp:=rfl
theorem qoT {st j b os gs ds dss}:qde st (⟨some (j,b),os⟩::gs) (ds::dss) H c fr hp=qfC (box (X6 ds fun kn hp=>qde st gs dss H c (kn++fr) hp)) fun J=>qfm fr j fun v=>gdK v b (qdS st os H (fun fr2 hp2=>qhj ds J fr2 hp2) fr hp) (qhk ds J hp):=rfl
theorem qwr:qdQ [] H c fr hp=c fr hp:=rfl
theorem qo3 {x xs}:qdQ (x::xs) H c fr hp=cXF x H (qdQ xs H c) fr hp:=rfl
theorem qDb {o}:cXF (.op o) H c fr hp=qr o H c fr hp:=rfl
theorem qwT {st}:qdS st [] H c fr hp=c fr hp:=rfl
theorem qpa {st x xs}:qdS st (x::xs) H c fr hp=e0X st x H (qdS st xs H c) fr hp:=rfl
theorem qo9 {d f args}:e0X false (.op (.call d f args)) H c fr hp=ZB args fr fun xs=>e0V H f xs hp fun r hp=>c ((d,r)::fr) hp:=rfl
theorem qo8 {d f args}:e0X true (.op (.call d f args)) H c fr hp=ZB args fr fun xs=>e1V H f xs hp fun r=>c ((d,r)::fr) hp:=rfl
theorem qwx {d n sz zero parts}:e0X false (.op (.bsl d n sz zero parts)) H c fr hp=qr (.bsl d n sz zero parts) H c fr hp:=rfl
theorem qwC {d x args}:e0X false (.op (.callv d x args)) H c fr hp=opZ x fr fun v=>ZB args fr fun xs=>e0W v xs H hp fun r hp=>c ((d,r)::fr) hp:=rfl
theorem qwD {d x args}:e0X true (.op (.callv d x args)) H c fr hp=opZ x fr fun v=>ZB args fr fun xs=>e1W v xs H hp fun r=>c ((d,r)::fr) hp:=rfl
theorem qo7 {d n sz zero parts}:e0X true (.op (.bsl d n sz zero parts)) H c fr hp=ZB (parts.map (·.2)) fr fun xs=>qcX n sz zero parts xs hp fun r=>c ((d,r)::fr) hp:=rfl
theorem qwY {st d ks z m k d2 v}:e0X st (.ups d ks z m k d2 v) H c fr hp=cXF (.ups d ks z m k d2 v) H c fr hp:=rfl
theorem qDg {st x0 x1}:e0X st (.op (.mv x0 x1)) H c fr hp=qr (.mv x0 x1) H c fr hp:=rfl
theorem qpc {st x0 x1 x2 x3}:e0X st (.op (.pick x0 x1 x2 x3)) H c fr hp=qr (.pick x0 x1 x2 x3) H c fr hp:=rfl
theorem qwu {st x0 x1 x2 x3}:e0X st (.op (.bin x0 x1 x2 x3)) H c fr hp=qr (.bin x0 x1 x2 x3) H c fr hp:=rfl
theorem qDj {st x0 x1 x2}:e0X st (.op (.un x0 x1 x2)) H c fr hp=qr (.un x0 x1 x2) H c fr hp:=rfl
theorem qwG {st x0 x1 x2}:e0X st (.op (.ext x0 x1 x2)) H c fr hp=qr (.ext x0 x1 x2) H c fr hp:=rfl
theorem qDf {st x0 x1 x2 x3}:e0X st (.op (.ld x0 x1 x2 x3)) H c fr hp=qr (.ld x0 x1 x2 x3) H c fr hp:=rfl
theorem qDi {st x0 x1 x2}:e0X st (.op (.st x0 x1 x2)) H c fr hp=qr (.st x0 x1 x2) H c fr hp:=rfl
theorem qww {st x0 x1 x2}:e0X st (.op (.box x0 x1 x2)) H c fr hp=qr (.box x0 x1 x2) H c fr hp:=rfl
theorem qDc {st x0 x1}:e0X st (.op (.al x0 x1)) H c fr hp=qr (.al x0 x1) H c fr hp:=rfl
theorem qwv {st x0 x1 x2}:e0X st (.op (.bld x0 x1 x2)) H c fr hp=qr (.bld x0 x1 x2) H c fr hp:=rfl
theorem qDd {st x0 x1 x2}:e0X st (.op (.fa x0 x1 x2)) H c fr hp=qr (.fa x0 x1 x2) H c fr hp:=rfl
theorem qwH {st x0 x1 x2 x3 x4}:e0X st (.op (.fld x0 x1 x2 x3 x4)) H c fr hp=qr (.fld x0 x1 x2 x3 x4) H c fr hp:=rfl
theorem qDe {st x0 x1 x2 x3}:e0X st (.op (.ia x0 x1 x2 x3)) H c fr hp=qr (.ia x0 x1 x2 x3) H c fr hp:=rfl
theorem qwI {st x0 x1 x2 x3 x4}:e0X st (.op (.iaa x0 x1 x2 x3 x4)) H c fr hp=qr (.iaa x0 x1 x2 x3 x4) H c fr hp:=rfl
theorem qwK {st x0 x1 x2 x3 x4 x5}:e0X st (.op (.idx x0 x1 x2 x3 x4 x5)) H c fr hp=qr (.idx x0 x1 x2 x3 x4 x5) H c fr hp:=rfl
theorem qwJ {st x0 x1 x2}:e0X st (.op (.ids x0 x1 x2)) H c fr hp=qr (.ids x0 x1 x2) H c fr hp:=rfl
theorem qwM {st x0 x1}:e0X st (.op (.len x0 x1)) H c fr hp=qr (.len x0 x1) H c fr hp:=rfl
theorem qwP {st x0 x1}:e0X st (.op (.lns x0 x1)) H c fr hp=qr (.lns x0 x1) H c fr hp:=rfl
theorem qwO {st x0 x1}:e0X st (.op (.lnm x0 x1)) H c fr hp=qr (.lnm x0 x1) H c fr hp:=rfl
theorem qwV {st x0 x1 x2 x3 x4 x5}:e0X st (.op (.slc x0 x1 x2 x3 x4 x5)) H c fr hp=qr (.slc x0 x1 x2 x3 x4 x5) H c fr hp:=rfl
theorem qwX {st x0 x1 x2 x3}:e0X st (.op (.sls x0 x1 x2 x3)) H c fr hp=qr (.sls x0 x1 x2 x3) H c fr hp:=rfl
theorem qws {st x0 x1 x2 x3 x4}:e0X st (.op (.app x0 x1 x2 x3 x4)) H c fr hp=qr (.app x0 x1 x2 x3 x4) H c fr hp:=rfl
theorem qwB {st x0 x1 x2 x3}:e0X st (.op (.cpy x0 x1 x2 x3)) H c fr hp=qr (.cpy x0 x1 x2 x3) H c fr hp:=rfl
theorem qwS {st x0 x1 x2 x3 x4 x5}:e0X st (.op (.mks x0 x1 x2 x3 x4 x5)) H c fr hp=qr (.mks x0 x1 x2 x3 x4 x5) H c fr hp:=rfl
theorem qwA {st x0 x1 x2}:e0X st (.op (.cnv x0 x1 x2)) H c fr hp=qr (.cnv x0 x1 x2) H c fr hp:=rfl
theorem qDh {st x0 x1 x2 x3}:e0X st (.op (.mx x0 x1 x2 x3)) H c fr hp=qr (.mx x0 x1 x2 x3) H c fr hp:=rfl
theorem qpb {st x0 x1}:e0X st (.op (.nilc x0 x1)) H c fr hp=qr (.nilc x0 x1) H c fr hp:=rfl
theorem qwQ {st x0 x1 x2 x3}:e0X st (.op (.mkf x0 x1 x2 x3)) H c fr hp=qr (.mkf x0 x1 x2 x3) H c fr hp:=rfl
theorem qwy {st x0 x1}:e0X st (.op (.cap x0 x1)) H c fr hp=qr (.cap x0 x1) H c fr hp:=rfl
theorem qwz {st x0 x1 x2}:e0X st (.op (.clr x0 x1 x2)) H c fr hp=qr (.clr x0 x1 x2) H c fr hp:=rfl
theorem qo6 {st x0 x1 x2 x3 x4 x5}:e0X st (.op (.appz x0 x1 x2 x3 x4 x5)) H c fr hp=qr (.appz x0 x1 x2 x3 x4 x5) H c fr hp:=rfl
theorem qwW {st x0 x1 x2 x3 x4 x5 x6}:e0X st (.op (.slp x0 x1 x2 x3 x4 x5 x6)) H c fr hp=qr (.slp x0 x1 x2 x3 x4 x5 x6) H c fr hp:=rfl
theorem qwR {st x0}:e0X st (.op (.mkm x0)) H c fr hp=qr (.mkm x0) H c fr hp:=rfl
theorem qwL {st x0 x1 x2 x3}:e0X st (.op (.ins x0 x1 x2 x3)) H c fr hp=qr (.ins x0 x1 x2 x3) H c fr hp:=rfl
theorem qwN {st x0 x1 x2 x3 x4 x5}:e0X st (.op (.lku x0 x1 x2 x3 x4 x5)) H c fr hp=qr (.lku x0 x1 x2 x3 x4 x5) H c fr hp:=rfl
theorem qwE {st x0 x1 x2}:e0X st (.op (.del x0 x1 x2)) H c fr hp=qr (.del x0 x1 x2) H c fr hp:=rfl
theorem qwF {st x0 x1 x2 x3 x4}:e0X st (.op (.eqk x0 x1 x2 x3 x4)) H c fr hp=qr (.eqk x0 x1 x2 x3 x4) H c fr hp:=rfl
theorem qwt {st x0 x1}:e0X st (.op (.b2s x0 x1)) H c fr hp=qr (.b2s x0 x1) H c fr hp:=rfl
theorem qwU {st x0 x1}:e0X st (.op (.s2b x0 x1)) H c fr hp=qr (.s2b x0 x1) H c fr hp:=rfl
theorem qo5 {st x0 x1 x2 x3}:e0X st (.op (.apps x0 x1 x2 x3)) H c fr hp=qr (.apps x0 x1 x2 x3) H c fr hp:=rfl
end
def T2 {α:Type} (x c:α):Prop:=True
inductive NF {α:Type} (x:α):α->Type where
 | mk (c:α) (t:T2 x c):NF x c
abbrev Lk {α:Type} (x c:α):Prop:=x=c->T2 x c
def qDG (lv : TypeId -> Option (List Leaf)) : List Field -> Option (List Leaf)
 | []=>some []
 | f::fs=>match lv f.type,qDG lv fs with
   | some a,some b=>some (a++b)
   | _,_=>none
def gLv (P : Program) : Nat -> TypeId -> Option (List Leaf)
 | 0,_=>none
 | n+1,t=>match P.underlying t with
   | some (.int _)=>some [.int]
   | some .bool=>some [.bool]
   | some .string=>some [.str]
   | some (.array k e)=>(gLv P n e).map (qhc k)
   | some (.struct fs)=>qDG (gLv P n) fs.toList
   | _=>none
def gKs (P:Program) (t:TypeId) (f:KS->AOp):Option AOp:=(gLv P 8 t).map fun ls=>f (Zb (P.underlying t),ls)
def gKm (P:Program) (t:TypeId) (f:KS->AOp):Option AOp:=match P.underlying t with
 | some (.map kt _)=>gKs P kt f
 | _=>none
def gEq (P:Program) (t:TypeId) (f:KS->AOp) (g:Option AOp):Option AOp:=match P.underlying t with
 | some .bool=>gKs P t f
 | some (.array _ _)=>gKs P t f
 | some (.struct _)=>gKs P t f
 | _=>g
def gZv (P:Program) (t:TypeId):AV:=match P.underlying t with
 | some (.map _ e)=>match qg1 P e with
   | some v=>AV.ofValue v
   | none => .v (.pointer none)
 | _ => .v (.pointer none)
def gOp (P:Program) (N:Nat) (o:Oper):Option AOp:=match o.dst,o.op with
 | some d,.call { callee := .value (.func f),args:=args,argTypes:=_ }=>(opds args.toList).map fun qs=>bif Nat.beq f 1 || Nat.beq f 685 then .callx d f qs else .call d f qs
 | some d,.binOp .eql t x y _=>match opd x,opd y with
   | some a,some b=>gEq P t (fun ks => .eqk d false ks a b) (zI P N o)
   | _,_=>zI P N o
 | some d,.binOp .neq t x y _=>match opd x,opd y with
   | some a,some b=>gEq P t (fun ks => .eqk d true ks a b) (zI P N o)
   | _,_=>zI P N o
 | some d,.lookup t m k ok=>match opd m,opd k with
   | some m,some k=>gKm P t fun ks => .lku d ks (gZv P t) ok m k
   | _,_=>none
 | some d,.mapEntry t m k=>match opd m,opd k with
   | some m,some k=>gKm P t fun ks => .mpe d ks (gZv P t) m k
   | _,_=>none
 | none,.insert t m k v=>match opd m,opd k,opd v with
   | some m,some k,some v=>gKm P t fun ks => .ins ks m k v
   | _,_,_=>none
 | none,.mapUpdate t m k v=>match opd m,opd k,opd v with
   | some m,some k,some v=>gKm P t fun ks => .ins ks m k v
   | _,_,_=>none
 | none,.call { callee := .builtin .delete,args:=⟨[x,y]⟩,argTypes:=⟨t::_⟩ }=>match opd x,opd y with
   | some x,some y=>gKm P t fun ks => .del ks x y
   | _,_=>none
 | _,_=>zI P N o
def gGd (ops : Array Oper) : Option (Nat × Bool) -> Option (Nat × Bool)
 | some (j,b)=>match ops[j]? with
   | some o=>o.dst.map (·,b)
   | none=>none
 | none=>none
def qDH (P : Program) (N : Nat) (ops : Array Oper) : List Oper -> Option (List Grp)
 | []=>some []
 | o::l=>match gOp P N o,qDH P N ops l with
   | some ao,some r=>some (⟨gGd ops o.guard,[ao]⟩::r)
   | _,_=>none
def gCo (P : Program) (N : Nat) : Code -> List (List (Nat × Nat)) -> AC × List (List (Nat × Nat))
 | .region _ ops d,h=>match qDH P N ops ops.toList with
   | some gs => bif d then (match h with
     | u::h=>(.drw gs u [],h)
     | []=>(.drw gs [] [],[])) else (.rgn gs [],h)
   | none=>(.dead,h)
 | .skip,h=>(.skip,h)
 | .seq a b,h=>match gCo P N a h with
   | (x,h)=>match gCo P N b h with
     | (y,h)=>(.seq x y,h)
 | .cond c a b,h=>match opd c with
   | some d => (match gCo P N a h with
     | (x,h)=>match gCo P N b h with
       | (y,h)=>(.cond d x y,h))
   | none=>(.dead,h)
 | .block id a,h=>match gCo P N a h with
   | (x,h)=>(.block id x,h)
 | .loop a,h=>match gCo P N a h with
   | (x,h)=>(.loop x,h)
 | .exit id,h=>(.exit id,h)
 | .ret,h=>(.ret,h)
 | .label l,h=>(.label l,h)
 | .scope a,h=>match gCo P N a h with
   | (x,h)=>(.scope x,h)
 | .rangeFunc g ps a b,h=>match opd g with
   | some g' => (match gCo P N a h with
     | (x,h)=>match gCo P N b h with
       | (y,h)=>(.rf g' ps.toList x y [],h))
   | none=>(.dead,h)
 | _,h=>(.dead,h)
def gC0 (P:Program) (fn:Func) (h:List (List (Nat × Nat))):AC:=match fn.body with
 | some c=>(gCo P fn.ntmps c h).1
 | none => .dead
def qEm : Option (Nat × Bool) -> Option (Nat × Bool) -> Bool
 | none,none=>true
 | some (a,b),some (c,d)=>Nat.beq a c&&(b==d)
 | _,_=>false
def qEp : Option (Nat × Bool) -> Option Nat -> Bool
 | some (j,_),some d => !Nat.beq d j
 | _,_=>true
def qEE (g : Grp) : List Grp -> List Grp
 | []=>[g]
 | g' :: gs => bif qEm g.guard g'.guard && (match g.ops with
   | [o]=>qEp g.guard o.dst
   | _=>false) then ⟨g.guard,g.ops++g'.ops⟩::gs else g::g'::gs
def qnd : List Grp -> List Grp
 | []=>[]
 | g::gs=>qEE g (qnd gs)
def gC1 : AC -> AC
 | .rgn gs ks => .rgn (qnd gs) ks
 | .drw gs un ks => .drw (qnd gs) un ks
 | .seq x y => .seq (gC1 x) (gC1 y)
 | .cond c x y => .cond c (gC1 x) (gC1 y)
 | .block id x => .block id (gC1 x)
 | .loop x => .loop (gC1 x)
 | .scope x => .scope (gC1 x)
 | .rf g ps x y ks => .rf g ps (gC1 x) (gC1 y) ks
 | x=>x
def fLs : List Nat -> (List Nat -> AC) -> AC
 | [],k=>k []
 | a::l,k=>fLs l fun t=>k (a::t)
def inG (n : Nat) : List Nat -> List Nat
 | []=>[n]
 | m::l=>bif Nat.blt n m then n::m::l else bif Nat.beq n m then m::l else m::inG n l
def unG : List Nat -> List Nat -> List Nat
 | [],l=>l
 | n::k,l=>inG n (unG k l)
def rmG (n : Nat) : List Nat -> List Nat
 | []=>[]
 | m::l=>bif Nat.beq m n then rmG n l else m::rmG n l
def dlG : Option Nat -> List Nat -> List Nat
 | some n,l=>rmG n l
 | none,l=>l
def lvO : List AOp -> List Nat -> (List Nat -> AC) -> AC
 | [],l,k=>k l
 | o::os,l,k=>lvO os l fun l=>fLs (unG (o.opds.flatMap Opd.tmp) (dlG o.dst l)) k
def lvG : List Grp -> List Nat -> (List Nat -> AC) -> AC
 | [],l,k=>k l
 | ⟨none,os⟩::gs,l,k=>lvG gs l fun l=>lvO os l k
 | ⟨some (j,_),os⟩::gs,l,k=>lvG gs l fun l=>lvO os l fun l=>fLs (inG j l) k
def exG (id : Nat) : List (Nat × List Nat) -> List Nat
 | []=>[]
 | (i,l)::r=>bif Nat.beq i id then l else exG id r
def gC2 (rt : List Nat) : AC -> List (Nat × List Nat) -> List Nat -> (AC -> List Nat -> AC) -> AC
 | .rgn gs _,_,l,k=>lvG gs l fun l'=>k (.rgn gs l) l'
 | .drw gs un _,_,l,k=>lvG gs l fun l'=>k (.drw gs un l) l'
 | .seq x y,ex,l,k=>gC2 rt y ex l fun y l=>gC2 rt x ex l fun x l=>k (.seq x y) l
 | .cond c x y,ex,l,k=>gC2 rt x ex l fun x l1=>gC2 rt y ex l fun y l2=>fLs (unG c.tmp (unG l1 l2)) fun l=>k (.cond c x y) l
 | .block id x,ex,l,k=>gC2 rt x ((id,l)::ex) l fun x l=>k (.block id x) l
 | .loop x,ex,l,k=>gC2 rt x ex [] fun _ l=>gC2 rt x ex l fun x' _=>k (.loop x') l
 | .exit id,ex,l,k=>fLs (exG id ex) fun l=>k (.exit id) l
 | .ret,ex,l,k=>k .ret rt
 | .dead,ex,l,k=>k .dead []
 | .scope x,ex,l,k=>gC2 rt x ex l fun x l=>k (.scope x) l
 | .rf g ps x y _,ex,l,k=>gC2 rt y ex [] fun y ly=>gC2 rt x ex ly fun x lx=>fLs (unG g.tmp (unG (lx.filter fun t => !ps.contains t) (unG rt (unG (ex.flatMap (·.2)) l)))) fun l'=>k (.rf g ps x y l) l'
 | x,ex,l,k=>k x l
def hsL:List Nat:=[100057,100093,100475,100578,100665,100177]
def qE5 (k:Nat) (ac:AC):CZ:=qdy (if [395,629].contains k then 0::hsL else hsL) ([107,469,71].contains k) 100000 ac
def qDr (k:Nat) (z:CZ):CZ :=
 let z:=if [275,400].contains k then qg4 z else z
 let z:=if [47].contains k then qhb z else z
 let z:=if Nat.beq k 610 then qmt z else z
 let z:=if Nat.beq k 187 then qlA 10 9 z else z
 let z:=([(136,107),(603,602),(522,610),(526,610),(614,615),(609,601),(610,601)]:List (Nat × Nat)).foldl (fun z p=>if Nat.beq p.1 k then qg6 p.2 z else z) z
 ([(577,578,6),(192,0,9),(341,402,1),(341,402,2),(206,277,1),(206,277,2),(274,343,1),(3,9,25)]:List (Nat × Nat × Nat)).foldl (fun z p=>if Nat.beq p.1 k then qg7 p.2.1 p.2.2 z else z) z
def rcO (r:Option RC):RC:=r.getD []
theorem qb2 {P:Program} {k n:Nat} {fn:Func} {rc:RC} {z:CZ} {c:CT} (hf:P.funcs[k]?=some fn) (md:Bool) (hr:Q7 P fn.results.toList=some rc) (hz:qJ P fn (rc.map (·.1))=some (CZ.ac z)) (ho:z.ok=true) (hc:cCZ z=c) (hn:Nat.ble n fn.ntmps=true) (hu:ja P k=true):CdZ P ⟨k,md,n,rc,c,.code⟩ :=
 qhJ rfl ⟨fn,_,z,hf,hz,ho,hc,hr,Nat.le_of_ble_eq_true hn,hu⟩
def nfC {z:CZ} {cv:CT} (c:NF (cCZ z) cv:=by (refine .mk ?_ ((?_:Lk _ _) ?_);rotate_left 2;(conv=>lhs;simp only [cCZ,cXG,cXs,cX,dXG,dXs,dX,qt,QX,↓reduceIte,Nat.reduceEqDiff,↓List.map_cons,↓List.map_nil,List.cons_append,List.nil_append,↓qDo,↓qph,↓qw1,↓qjK,↓qjJ,↓qxc,↓qDn,↓qDq,↓qDl,↓qDm,↓qxe,↓qxj,↓qw8,↓qDk,↓qwZ,↓qw4,↓qw2,↓qxd,↓qxg,↓qxr,↓qDp,↓qpg,↓qxn,↓qw3,↓qxp,↓qxb,↓qxm,↓qw6,↓qxk,↓qxh,↓qxa,↓qxl,↓qxo,↓qxf,↓qxt,↓qw9,↓qw7,↓qpe,↓qxs,↓qw0,↓qxq,↓qpd,↓qpf,↓qjI,↓qxi,↓qw5,↓qxu,↓qv1,↓qwe,↓qv8,↓qv7,↓qv5,↓qv6,↓qv4,↓qv3,↓qv9,↓qwa,↓qwb,↓qv2,↓qC9,↓qwf,↓qgZ,↓qwc,↓qwd,↓qE4,↓qE3,↓qwn,↓qoZ,↓qo0,↓qo1,↓qoQ,↓qoR,↓qwj,↓qoW,↓qE2,↓qv0,↓qoO,↓qwq,↓qwp,↓qwg,↓qoP,↓qwk,↓qoX,↓qwo,↓qo2,↓qwm,↓qoY,↓qwi,↓qoU,↓qoV,↓qwh,↓qoS,↓qoT,↓qwr,↓qo3,↓qDb,↓qwT,↓qpa,↓qo9,↓qo8,↓qwx,↓qwC,↓qwD,↓qo7,↓qwY,↓qDg,↓qpc,↓qwu,↓qDj,↓qwG,↓qDf,↓qDi,↓qww,↓qDc,↓qwv,↓qDd,↓qwH,↓qDe,↓qwI,↓qwK,↓qwJ,↓qwM,↓qwP,↓qwO,↓qwV,↓qwX,↓qws,↓qwB,↓qwS,↓qwA,↓qDh,↓qpb,↓qwQ,↓qwy,↓qwz,↓qo6,↓qwW,↓qwR,↓qwL,↓qwN,↓qwE,↓qwF,↓qwt,↓qwU,↓qo5]);rotate_left;exact fun _=>trivial)):NF (cCZ z) cv:=c
abbrev TE (P:Program):={c:Cd // CdZ P c}
def enZ {P : Program} {k : FuncId} {fn : Func} (hf : P.funcs[k]? = some fn) (z : CZ) (md : Bool := true) {rv : Option RC} {nv : Nat} {cv : CT}
    (r:NF (Q7 P fn.results.toList) rv:=by (refine .mk ?_ ((?_:Lk _ _) ?_);rotate_left 2;(conv=>lhs;reduce);rotate_left;exact fun _=>trivial))
    (n:NF fn.ntmps nv:=by (refine .mk ?_ ((?_:Lk _ _) ?_);rotate_left 2;(conv=>lhs;reduce);rotate_left;exact fun _=>trivial))
    (c:NF (cCZ z) cv:=by exact nfC)
    (hr:Q7 P fn.results.toList=some (rcO rv):=by kernel_rfl) (hz:qJ P fn ((rcO rv).map (·.1))=some (CZ.ac z):=by kernel_rfl) (ho:z.ok=true:=by kernel_rfl) (hc:cCZ z=cv:=by kernel_rfl) (hn:Nat.ble nv fn.ntmps=true:=by kernel_rfl) (hu:ja P k=true:=by kernel_rfl):TE P :=
 ⟨⟨k,md,nv,rcO rv,cv,.code⟩,qb2 hf md hr hz ho hc hn hu⟩
def en {P : Program} {k : FuncId} {fn : Func} (hf : P.funcs[k]? = some fn) (h : List (List (Nat × Nat)) := []) (md : Bool := true) {rv : Option RC} {a0 a1 a2 : AC} {yv zv : CZ} {nv : Nat} {cv : CT}
    (r:NF (Q7 P fn.results.toList) rv:=by (refine .mk ?_ ((?_:Lk _ _) ?_);rotate_left 2;(conv=>lhs;reduce);rotate_left;exact fun _=>trivial))
    (b0:NF (gC0 P fn h) a0:=by (refine .mk ?_ ((?_:Lk _ _) ?_);rotate_left 2;(conv=>lhs;reduce);rotate_left;exact fun _=>trivial))
    (b1:NF (gC1 a0) a1:=by (refine .mk ?_ ((?_:Lk _ _) ?_);rotate_left 2;(conv=>lhs;reduce);rotate_left;exact fun _=>trivial))
    (b2:NF (gC2 ((rcO rv).map (·.1)) a1 [] ((rcO rv).map (·.1)) fun x _=>x) a2:=by (refine .mk ?_ ((?_:Lk _ _) ?_);rotate_left 2;(conv=>lhs;reduce);rotate_left;exact fun _=>trivial))
    (y:NF (qE5 k a2) yv:=by (refine .mk ?_ ((?_:Lk _ _) ?_);rotate_left 2;(conv=>lhs;reduce);rotate_left;exact fun _=>trivial))
    (z:NF (qDr k yv) zv:=by (refine .mk ?_ ((?_:Lk _ _) ?_);rotate_left 2;(conv=>lhs;reduce);rotate_left;exact fun _=>trivial))
    (n:NF fn.ntmps nv:=by (refine .mk ?_ ((?_:Lk _ _) ?_);rotate_left 2;(conv=>lhs;reduce);rotate_left;exact fun _=>trivial))
    (c:NF (cCZ zv) cv:=by exact nfC)
    (hr:Q7 P fn.results.toList=some (rcO rv):=by kernel_rfl) (hz:qJ P fn ((rcO rv).map (·.1))=some (CZ.ac zv):=by kernel_rfl) (ho:zv.ok=true:=by kernel_rfl) (hc:cCZ zv=cv:=by kernel_rfl) (hn:Nat.ble nv fn.ntmps=true:=by kernel_rfl) (hu:ja P k=true:=by kernel_rfl):TE P :=
 ⟨⟨k,md,nv,rcO rv,cv,.code⟩,qb2 hf md hr hz ho hc hn hu⟩
def zx {P : Program} : List (TE P) -> TBL
 | [],_=>tNo
 | e::l,f=>cond (Nat.beq e.1.f f) e.1 (zx l f)
theorem ql {P : Program} : ∀ l : List (TE P),TBz P (zx l)
 | [],f=>qqf
 | e::l,f=>by
   unfold zx;cases Nat.beq e.1.f f with
   | true=>exact e.2
   | false=>exact ql l f
def qk2 (k:Nat) (c:Cd) (T:TBL):TBL:=fun f=>cond (Nat.beq f k) c (T f)
theorem Wo {P:Program} {k:Nat} {c:Cd} {T:TBL} (h:CdZ P c) (hT:TBz P T):TBz P (qk2 k c T):=fun f=>by
 unfold qk2;cases Nat.beq f k with
 | true=>exact h
 | false=>exact hT f
end Go.AM

set_option maxRecDepth 100000
namespace Go.AM
open Go.RowKit
theorem ZH {hp:Hp} {g:G} {id:Nat} {cs cs':List AV} (ho:hp id=some (.cells cs)) (c:Nat):qaI (Hp.set hp id (.cells cs')) g c↔qaI hp g c:=by
 constructor
 . rintro ⟨i,o,d,h1,h2,h3⟩;by_cases e:i=id
   . subst e;exact ⟨i,_,d,ho,rfl,h3⟩
   rw [Hp.set_other _ _ e] at h1;exact ⟨i,o,d,h1,h2,h3⟩
 rintro ⟨i,o,d,h1,h2,h3⟩;by_cases e:i=id
 . subst e;exact ⟨i,_,d,Hp.set_same _ _ _,rfl,h3⟩
 exact ⟨i,o,d,by rw [Hp.set_other _ _ e];exact h1,h2,h3⟩
theorem HeapOK.recell {hp g w} (h:HeapOK hp g w) {id:Nat} {cs cs':List AV} {l:Loc} (ho:hp id=some (.cells cs)) (hl:g.ρ id=some l) (hr:HRep w g (.cells cs') l):HeapOK (Hp.set hp id (.cells cs')) g w:=by
 refine ⟨fun i hi=>?_,fun i o hi=>?_,fun i i' o o' c d d' h1 h2 h3 h4 h5 h6=>?_,h.ex,h.tab⟩
 . by_cases e : i = id
   . subst e;rw [Hp.set_same] at hi;cases hi
   rw [Hp.set_other _ _ e] at hi;exact h.dom i hi
 . by_cases e : i = id
   . subst e;rw [Hp.set_same] at hi;cases hi;exact ⟨l,hl,hr⟩
   rw [Hp.set_other _ _ e] at hi;exact h.rep i o hi
 have k : ∀ i o c d,Hp.set hp id (.cells cs') i = some o -> o.live = true -> g.ρ i = some (.blk c d) -> ∃ o2,hp i = some o2 /\ o2.live = true := fun i o c d h1 h2 h3 => by
  by_cases e:i=id
  . subst e;exact ⟨_,ho,rfl⟩
  rw [Hp.set_other _ _ e] at h1;exact ⟨o,h1,h2⟩
 obtain ⟨o2,k1,k2⟩:=k i o c d h1 h3 h5;obtain ⟨o3,k3,k4⟩:=k i' o' c d' h2 h4 h6;exact h.inj i i' o2 o3 c d d' k1 k3 k2 k4 h5 h6
theorem Upd.recell {hp g w id cs cs' hp' g' w'} (ho:hp id=some (.cells cs)) (h:Upd (Hp.set hp id (.cells cs')) g w hp' g' w'):Upd hp g w hp' g' w' :=
 ⟨h.tr,fun c hc=>(h.live c hc).imp_left (ZH ho c).1,fun b o hs=>(h.S b o hs).imp_right fun k=>k.imp_left (ZH ho b).1,fun b hb hn=>h.keep b hb fun k=>hn ((ZH ho b).1 k)⟩
theorem Upd.recell2 {hp g w id cs cs' hp' g' w'} (ho:hp' id=some (.cells cs)) (h:Upd hp g w hp' g' w'):Upd hp g w (Hp.set hp' id (.cells cs')) g' w' :=
 ⟨h.tr,fun c hc=>h.live c ((ZH ho c).1 hc),h.S,h.keep⟩
def ext (cs:List AV) (L:Nat):List AV:=cs++List.replicate (L - cs.length) .any
theorem qbh {cs:List AV} {L:Nat}:(ext cs L).length=max cs.length L:=by simp [ext];omega
theorem qhU {cs:List AV} {L off n:Nat} (h:off+n<=cs.length):qy (ext cs L) off n=qy cs off n:=by simp only [ext,qy];rw [List.drop_append_of_le_length (by omega),List.take_append_of_le_length (by simp;omega)]
variable {P:Program} {hp:List HObj}
theorem qev {f : FuncId} {id off n sz : Nat} {cs : List AV} {xs : List AV} {KC : AV -> List HObj -> Prop} (hid : qz hp id = some (.cells cs)) (hcs : off + n * sz <= cs.length)
 (h:∀ c,n<=c->qw P f (.mc id off n c sz::xs) (qn hp id (.cells (ext cs (off+c*sz)))) KC):qw P f (.ms id off n sz::xs) hp KC:=by
 intro ro m w g vs hok hvs hrep;have hid':hpf hp id=some (.cells cs):=by rw [qk] at hid;exact hid
 have hlt:=qq hid';obtain ⟨l,hl,hr⟩:=hok.rep id _ hid'
 have hrest : ∀ (c : Nat) (_ : Rep w g false (.mc id off n c sz) (vs.getD 0 undef)) i (hi : i < (AV.mc id off n c sz :: xs).length),Rep w g false (AV.mc id off n c sz :: xs)[i] (vs.getD i undef) := fun c h0 i hi => by
  cases i with
  | zero=>exact h0
  | succ i=>exact hrep (i+1) (by simpa using hi)
 have fin:∀ c,n<=c->Rep w g false (.mc id off n c sz) (vs.getD 0 undef)->HRep w g (.cells (ext cs (off+c*sz))) l->CallsIn (W ro) m P f vs w fun e w'=>∃ v r hp' g',e = .returned v/\KC r hp'/\Rep w' g' false r v/\HeapOK (hpf hp') g' w'/\Upd (hpf hp) g w (hpf hp') g' w':=fun c hc h0 h1=>by have hset:=Qt (l:=hp) (id:=id) (o := .cells (ext cs (off+c*sz))) (Nat.le_of_lt hlt);refine (h c hc ro m w g vs (by rw [hset];exact hok.recell hid' hl h1) hvs (hrest c h0)).mono ?_;rintro e w' ⟨v,r,hp',g',rfl,k1,k2,k3,k4⟩;rw [hset] at k4;exact ⟨v,r,hp',g',rfl,k1,k2,k3,k4.recell hid'⟩
 have h0:=hrep 0 (by simp);simp only [List.getElem_cons_zero] at h0;cases hv:vs.getD 0 undef <;> rw [hv] at h0 <;> try (cases h0;done)
 rename_i base nn cap;cases h0 with
 | ms _ _ _ _ c d _ arr ty fz hl' hn hb hs =>
   rw [hl'] at hl;cases hl;refine fin cap hn (by rw [hv];exact .mc id off n cap sz c d arr ty fz hl' hn hb hs) ?_;obtain ⟨arr',ty',fz',g1,g2,g3,g4,g5⟩:=hr;rw [hb] at g1;cases g1;refine ⟨arr,ty,fz,hb,by rw [qbh];omega,g3,g4,fun i hi=>?_⟩;rw [qbh] at hi;by_cases e:i<cs.length
   . obtain ⟨x,h1,h2⟩:=g5 i e;refine ⟨x,h1,?_⟩;simp only [ext];rw [List.getElem_append_left e];exact h2
   refine ⟨arr[d+i]'(by omega),by simp [show d+i<arr.size by omega],?_⟩;simp only [ext];rw [List.getElem_append_right (by omega),List.getElem_replicate];exact .any _ _
 | msz _ _ _ a l' hl' =>
   refine fin 0 (Nat.le_refl _) (by rw [hv];exact .mcz id off sz _ l' hl') ?_;have:ext cs (off+0*sz)=cs:=by simp only [ext];rw [show off+0*sz - cs.length=0 by omega];simp
   rw [this];exact hr
theorem qaY {f:FuncId} {xs:List AV} {K K':AV->List HObj->Prop} (hk:∀ r hp',K r hp'->K' r hp') (h:qw P f xs hp K):qw P f xs hp K':=fun ro n w g vs h1 h2 h3 =>
 (h ro n w g vs h1 h2 h3).mono fun e w' ⟨v,r,hp',g',e1,e2,e3⟩=>⟨v,r,hp',g',e1,hk _ _ e2,e3⟩
theorem qc1 {f:FuncId} {xs:List AV} {KC:AV->List HObj->Prop} (h:qw P f xs hp fun r hp'=>KC r hp'\/∃ id o,qz hp' id=some o/\KC r (qn hp' id .gone)):qw P f xs hp KC:=by
 intro ro m w g vs hok hvs hrep;refine (h ro m w g vs hok hvs hrep).mono ?_;rintro e w' ⟨v,r,hp',g',rfl,hk | ⟨id,o,ho,hk⟩,h1,h2,h3⟩
 . exact ⟨v,r,hp',g',rfl,hk,h1,h2,h3⟩
 rw [qk] at ho;have ho':hpf hp' id=some o:=ho;obtain ⟨s1,s2⟩:=h2.drop ho';rw [<-Qt (Nat.le_of_lt (qq ho'))] at s1 s2;exact ⟨v,r,_,g',rfl,hk,h1,s1,h3.trans s2⟩
theorem qc5 {f : FuncId} {xs : List AV} {KC : AV -> List HObj -> Prop} (h : qw P f xs hp fun r hp' => KC r hp' \/ ∃ id off n c sz cs,r = .mc id off n c sz /\ qz hp' id = some (.cells cs) /\ off + n * sz <= cs.length /\
 KC (.ms hp'.length 0 n sz) (qc hp' [(id,.gone),(hp'.length,.cells (qy cs off (n*sz)))])):qw P f xs hp KC:=by
 intro ro m w g vs hok hvs hrep;refine (h ro m w g vs hok hvs hrep).mono ?_;rintro e w' ⟨v,r,hp',g',rfl,hk | ⟨id,off,n,c,sz,cs,rfl,ho,hle,hk⟩,h1,h2,h3⟩
 . exact ⟨v,r,hp',g',rfl,hk,h1,h2,h3⟩
 rw [qk] at ho;have ho':hpf hp' id=some (.cells cs):=ho;have hlt:=qq ho';have hn:hpf hp' hp'.length=none:=by simp [hpf]
 have hne:id≠hp'.length:=by omega
 have hw:hpf (qc hp' [(id,.gone),(hp'.length,.cells (qy cs off (n*sz)))])=Hp.set (Hp.set (hpf hp') id .gone) hp'.length (.cells (qy cs off (n*sz))):=by rw [zh (by simp;omega)];rfl
 cases h1 with
 | mc _ _ _ _ _ cb dd arr ty fz hl hn' hb hsz =>obtain ⟨s1,s2⟩:=h2.rename ho' hl hn (show off<=cs.length by omega);have hview:qy cs off (n*sz)=(cs.drop off).take (n*sz):=rfl;have hset:Hp.set (Hp.set (hpf hp') id .gone) hp'.length (.cells (cs.drop off)) hp'.length=some (.cells (cs.drop off)):=Hp.set_same _ _ _;obtain ⟨l,q1,q2⟩:=s1.rep _ _ hset;simp [G.home] at q1;subst q1;obtain ⟨arr',ty',fz',g1,g2,g3,g4,g5⟩:=q2;have s3:=s1.recell (cs':=qy cs off (n*sz)) hset (l := .blk cb (dd+off)) (by simp [G.home]) ⟨arr',ty',fz',g1,by rw [hview];simp at g2 ⊢;omega,g3,g4,fun i hi=>by rw [hview] at hi;have hi2:=hi;rw [List.length_take] at hi2;obtain ⟨x,k1,k2⟩:=g5 i (by omega);refine ⟨x,k1,?_⟩;simp only [hview,List.getElem_take];exact k2⟩;have s4:=s2.recell2 (cs':=qy cs off (n*sz)) hset;rw [Hp.set_set] at s3 s4;refine ⟨_,_,_,_,rfl,hk,?_,by rw [hw];exact s3,by rw [hw];exact h3.trans s4⟩;have:=Rep.ms (w:=w') (g:=g'.home hp'.length (.blk cb (dd+off))) hp'.length 0 n sz cb (dd+off) c arr ty fz (by simp [G.home]) hn' hb (by omega);simpa using this
 | mcz _ _ _ a l hl =>
   obtain ⟨s1,s2⟩:=h2.drop ho';obtain ⟨s3,s4⟩:=s1.virgin (id:=hp'.length) (by rw [Hp.set_other _ _ (Ne.symm hne)];exact hn);have hv0:qy cs off (0*sz)=[]:=by simp [qy]
   rw [hv0] at hw hk;exact ⟨_,_,_,_,rfl,hk,Rep.msz (w:=w') (g:=g'.home hp'.length .virg) hp'.length 0 sz a .virg (by simp [G.home]),by rw [hw];exact s3,by rw [hw];exact (h3.trans s2).trans s4⟩
variable {E:HE} {K:AV->List (Nat × HObj)->Prop}
theorem qhn {sz bytes id off n c m : Nat} {y : AV} {ys cs : List AV} (hc : qz hp id = some (.cells cs)) (he : elems (hpf hp) sz y = some (m,ys)) (hp1 : (ys.all AV.isPC) = true) (h1 : off + n * sz <= cs.length)
 (hb:(n+m)*bytes<=140737488355328) (hb2:n+m<=140737488355328) (hr:c<n+m) (k:K (.ms hp.length 0 (n+m) sz) [(hp.length,.cells (qy cs off (n*sz)++ys))]):qpi hp sz bytes (.mc id off n c sz) y K:=by
 have hc:hpf hp id=some (.cells cs):=by rw [qk] at hc;exact hc
 refine ⟨m,ys,he,hp1,_,_,?_,k⟩;simp only [zl,hc];exact ⟨trivial,h1,hb,hb2,.inr ⟨hr,trivial,trivial⟩⟩
theorem qbO {d sz bytes id off n c m : Nat} {z : List AV} {cs : List AV} {x k : Opd} {F : Nat -> AV} (hx : evF F x = .mc id off n c sz) (hk : evF F k = I m) (hc : qz hp id = some (.cells cs)) (h1 : off + n * sz <= cs.length)
 (hb:(n+m)*bytes<=140737488355328) (hb2:n+m<=140737488355328) (hr:c<n+m) (kk:K (.ms hp.length 0 (n+m) sz) [(hp.length,.cells (qy cs off (n*sz)++zE m z))]):(AOp.appz d sz bytes z x k).wp P F hp K:=by
 have hc:hpf hp id=some (.cells cs):=by rw [qk] at hc;exact hc
 refine ⟨_,_,⟨m,hk,?_⟩,kk⟩;simp only [zl,hx,hc];exact ⟨trivial,h1,hb,hb2,.inr ⟨hr,trivial,trivial⟩⟩
theorem YY {d sz id off n m : Nat} {ys cs : List AV} {x y : Opd} {F : Nat -> AV} (hx : evF F x = .ms id off n sz \/ ∃ c,evF F x = .mc id off n c sz) (hy : elems (hpf hp) sz (evF F y) = some (m,ys)) (hpc : ((ys.take (min m n * sz)).all AV.isPC) = true)
 (hc:qz hp id=some (.cells cs)) (h1:off+n*sz<=cs.length) (k:K (I (min m n:Nat)) [(id,.cells (splice cs off (ys.take (min m n*sz))))]):(AOp.cpy d sz x y).wp P F hp K:=by
 have hc:hpf hp id=some (.cells cs):=by rw [qk] at hc;exact hc
 refine ⟨_,_,?_,k⟩;rcases hx with hx | ⟨c,hx⟩
 . simp only [AOp.sem,hx];exact ⟨m,ys,cs,hy,hpc,hc,trivial,h1,rfl,rfl⟩
 simp only [AOp.sem,hx];exact ⟨m,ys,cs,hy,hpc,hc,trivial,h1,rfl,rfl⟩
theorem qhH {d:Nat} {f:FuncId} {args:List Opd} {os:List AOp} {fr:List (Nat × AV)} {r:AV} {KS:St->Prop} (h:qcP P f (args.map (evF (get fr))) (hpf hp) r) (k:zb P E os ⟨(d,r)::fr,hp⟩ KS):zb P E (.callx d f args::os) ⟨fr,hp⟩ KS :=
 ⟨r,h,k⟩
theorem qhZ {id:Nat} {o x:HObj} (hlt:id<hp.length):qc (hp.set id o) [(id,.gone),((hp.set id o).length,x)]=qc hp [(id,.gone),(hp.length,x)]:=by simp [qc,qn,hlt]
theorem qhY {id:Nat} {o x:HObj} (hlt:id<hp.length):qn (hp.set id o++[x]) id .gone=qc hp [(id,.gone),(hp.length,x)]:=by
 have:id<hp.length+1:=by omega
 simp [qc,qn,hlt,this,List.set_append]
def qyE (KC : AV -> List HObj -> Prop) (r : AV) (hp' : List HObj) : Prop := (KC r hp' \/ ∃ id o,qz hp' id = some o /\ KC r (qn hp' id .gone)) \/ ∃ id off n c sz cs,r = .mc id off n c sz /\ qz hp' id = some (.cells cs) /\ off + n * sz <= cs.length /\
 KC (.ms hp'.length 0 n sz) (qc hp' [(id,.gone),(hp'.length,.cells (qy cs off (n*sz)))])
theorem qc3 {f:FuncId} {xs:List AV} {KC:AV->List HObj->Prop} (h:qw P f xs hp (qyE KC)):qw P f xs hp KC:=by
 refine qc1 (qc5 (qaY (fun r hp' hk=>?_) h));rcases hk with (hk | hk) | hk
 . exact .inl (.inl hk)
 . exact .inl (.inr hk)
 obtain ⟨id,off,n,c,sz,cs,h1,h2,h3,h4⟩:=hk;exact .inr ⟨id,off,n,c,sz,cs,h1,h2,h3,.inl h4⟩
theorem Vg {KC : AV -> List HObj -> Prop} {id off n c sz : Nat} {cs : List AV} (hlt : id < hp.length) (h3 : off + n * sz <= cs.length) (h4 : KC (.ms hp.length 0 n sz) (qc hp [(id,.gone),(hp.length,.cells (qy cs off (n * sz)))])) :
 qyE KC (.mc id off n c sz) (hp.set id (.cells cs)):=by
 refine .inr ⟨id,off,n,c,sz,cs,rfl,by rw [qk];simp [hlt],h3,?_⟩;rw [qhZ hlt,List.length_set];exact h4
theorem X5 {KC:AV->List HObj->Prop} {id:Nat} {r:AV} {o x:HObj} (hlt:id<hp.length) (h4:KC r (qc hp [(id,.gone),(hp.length,x)])):qyE KC r (hp.set id o++[x]):=by
 refine .inl (.inr ⟨id,o,?_,?_⟩)
 . rw [qk,List.getElem?_append_left (by simpa using hlt)];simp [hlt]
 rw [qhY hlt];exact h4
def qyB (by':Nat) (z:List AV) (xf rf:FuncId):AC:=(.seq (.rgn [⟨none,[(.mv 6 (.k (.sl true 0 [])))]⟩] [0,1,2]) (.seq (.rgn [⟨none,[(.mv 10 (.t 0)),(.mv 11 (.t 1)),(.slc 12 1 (.t 10) (some (.t 11)) none none)]⟩] [0,1,2]) (.seq (.rgn [⟨none,[(.mv 13 (.t 2)),(.len 14 (.t 13)),(.mv 7 (.t 14))]⟩] [0,1,2,7]) (.seq (.seq (.rgn [⟨none,[(.mv 15 (.t 7)),(.bin 16 .eql (.t 15) (.k (I 0)))]⟩] [0,1,2,7,16]) (.cond (.t 16) (.seq (.rgn [⟨none,[(.mv 17 (.t 0)),(.mv 6 (.t 17))]⟩] [6]) .ret) .skip)) (.seq (.rgn [⟨none,[(.mv 18 (.t 0)),(.len 19 (.t 18)),(.mv 8 (.t 19))]⟩] [0,1,2,7,8]) (.seq (.seq (.rgn [⟨none,[(.mv 20 (.t 1)),(.mv 21 (.t 8)),(.bin 22 .eql (.t 20) (.t 21))]⟩] [0,1,2,7,8,22]) (.cond (.t 22) (.seq (.rgn [⟨none,[(.mv 23 (.t 0)),(.mv 24 (.t 2)),(.app 25 1 by' (.t 23) (.t 24)),(.mv 6 (.t 25))]⟩] [6]) .ret) .skip)) (.seq (.seq (.rgn [⟨none,[(.mv 26 (.t 8)),(.mv 27 (.t 7)),(.bin 28 .add (.t 26) (.t 27)),(.mv 29 (.t 0)),(.cap 30 (.t 29)),(.bin 31 .gtr (.t 28) (.t 30))]⟩] [0,1,2,7,8,31]) (.cond (.t 31) (.seq (.rgn [⟨none,[(.mv 32 (.t 0)),(.mv 33 (.t 1)),(.slc 34 1 (.t 32) none (some (.t 33)) none),(.mv 35 (.t 8)),(.mv 36 (.t 7)),(.bin 37 .add (.t 35) (.t 36)),(.mv 38 (.t 1)),(.bin 39 .sub (.t 37) (.t 38)),(.appz 40 1 by' z (.t 34) (.t 39)),(.mv 9 (.t 40))]⟩] [0,1,2,7,9]) (.seq (.rgn [⟨none,[(.mv 41 (.t 9)),(.mv 42 (.t 1)),(.slc 43 1 (.t 41) (some (.t 42)) none none),(.mv 44 (.t 2)),(.cpy 45 1 (.t 43) (.t 44))]⟩] [0,1,7,9]) (.seq (.drw [⟨none,[(.mv 46 (.t 9)),(.mv 47 (.t 1)),(.mv 48 (.t 7)),(.bin 49 .add (.t 47) (.t 48)),(.slc 50 1 (.t 46) (some (.t 49)) none none),(.mv 51 (.t 0)),(.mv 52 (.t 1)),(.slc 53 1 (.t 51) (some (.t 52)) none none),(.cpy 54 1 (.t 50) (.t 53))]⟩] [] [9]) (.seq (.rgn [⟨none,[(.mv 55 (.t 9)),(.mv 6 (.t 55))]⟩] [6]) .ret)))) .skip)) (.seq (.rgn [⟨none,[(.mv 56 (.t 0)),(.mv 57 (.t 8)),(.mv 58 (.t 7)),(.bin 59 .add (.t 57) (.t 58)),(.slc 60 1 (.t 56) none (some (.t 59)) none),(.mv 0 (.t 60))]⟩] [0,1,2,7,8]) (.seq (.seq (.rgn [⟨none,[(.mv 61 (.t 2)),(.mv 62 (.t 0)),(.mv 63 (.t 1)),(.mv 64 (.t 7)),(.bin 65 .add (.t 63) (.t 64)),(.slc 66 1 (.t 62) (some (.t 65)) none none),(.callx 67 xf [(.t 61),(.t 66)]),(.un 68 .not (.t 67))]⟩] [0,1,2,7,8,68]) (.cond (.t 68) (.seq (.drw [⟨none,[(.mv 69 (.t 0)),(.mv 70 (.t 1)),(.mv 71 (.t 7)),(.bin 72 .add (.t 70) (.t 71)),(.slc 73 1 (.t 69) (some (.t 72)) none none),(.mv 74 (.t 0)),(.mv 75 (.t 1)),(.slc 76 1 (.t 74) (some (.t 75)) none none),(.cpy 77 1 (.t 73) (.t 76))]⟩] [] [0,1,2]) (.seq (.rgn [⟨none,[(.mv 78 (.t 0)),(.mv 79 (.t 1)),(.slc 80 1 (.t 78) (some (.t 79)) none none),(.mv 81 (.t 2)),(.cpy 82 1 (.t 80) (.t 81))]⟩] [0]) (.seq (.rgn [⟨none,[(.mv 83 (.t 0)),(.mv 6 (.t 83))]⟩] [6]) .ret))) .skip)) (.seq (.rgn [⟨none,[(.mv 84 (.t 0)),(.mv 85 (.t 8)),(.slc 86 1 (.t 84) (some (.t 85)) none none),(.mv 87 (.t 2)),(.cpy 88 1 (.t 86) (.t 87))]⟩] [0,1,7]) (.seq (.rgn [⟨none,[(.mv 89 (.t 0)),(.mv 90 (.t 1)),(.slc 91 1 (.t 89) (some (.t 90)) none none),(.mv 92 (.t 7)),(.call 93 rf [(.t 91),(.t 92)])]⟩] [0]) (.seq (.rgn [⟨none,[(.mv 94 (.t 0)),(.mv 6 (.t 94))]⟩] [6]) .ret))))))))))))
theorem qjC {A ys D:List AV} {off n:Nat} (h:off+n<=A.length):qy (A.take (off+n)++(ys++D)) off (n+ys.length)=qy A off n++ys:=by simp only [qy];rw [List.drop_append_of_le_length (by simp;omega),List.drop_take,show off+n - off=n by omega,<-List.append_assoc,List.take_left'];simp;omega
def Qn (V:List AV) (i:Nat) (ys:List AV):List AV:=V.take i++(ys++V.drop i)
theorem qir {xs V ys : List AV} {off n i m : Nat} (hV : qy xs off n = V) (hl : off + n + m <= xs.length) (hys : ys.length = m) (hi : i <= n) :
 qy (splice (splice xs (off+(i+m)) (V.drop i)) (off+i) ys) off (n+m)=Qn V i ys:=by
 have hVl:V.length=n:=by rw [<-hV];simp [qy];omega
 simp only [splice,Qn,List.append_assoc];generalize xs.drop (off+(i+m)+(V.drop i).length)=D;have t1:(xs.take (off+(i+m))++(V.drop i++D)).take (off+i)=xs.take (off+i):=by rw [List.take_append_of_le_length (by simp;omega),List.take_take,Nat.min_eq_left (by omega)]
 have t2:(xs.take (off+(i+m))++(V.drop i++D)).drop (off+i+ys.length)=V.drop i++D:=List.drop_left' (by simp;omega);rw [t1,t2];have t3:(xs.take (off+i)).drop off=V.take i:=by rw [List.drop_take,show off+i - off=i by omega,<-hV,qy,List.take_take,Nat.min_eq_left hi]
 simp only [qy];rw [List.drop_append_of_le_length (by simp;omega),t3];rw [show V.take i++(ys++(V.drop i++D))=(V.take i++(ys++V.drop i))++D by simp];exact List.take_left' (by simp;omega)
theorem qfB {f : FuncId} {fn : Func} {by' : Nat} {z : List AV} {xf rf : FuncId} (hf : P.funcs[f]? = some fn) (hform : qJ P fn [6] = some (qyB by' z xf rf)) (hr : qN fn.results.toList = some [6]) (hnt : 3 <= fn.ntmps) (hz : z.length = 1) (hzpc : (z.all AV.isPC) = true)
 {id off n i m:Nat} {g:Bool} {cs ys:List AV} {KC:AV->List HObj->Prop} (hx:∀ (h:Hp) (id' off' n' c':Nat) (bs:List AV),h id'=some (.cells bs)->qcP P xf [.sl g m ys,.mc id' off' n' c' 1] h (B false))
 (hid:qz hp id=some (.cells cs)) (hi:i<=n) (hcs:off+n<=cs.length) (hpc:((qy cs off n).all AV.isPC)=true) (hys:ys.length=m) (hypc:(ys.all AV.isPC)=true) (hb:(n+m)*by'<=140737488355328) (hb2:n+m<=140737488355328)
 (hK:KC (.ms hp.length 0 (n+m) 1) (qc hp [(id,.gone),(hp.length,.cells (Qn (qy cs off n) i ys))])):qw P f [.ms id off n 1,I i,.sl g m ys] hp KC:=by
 refine qev hid (by omega) fun c hc=>qc3 ?_;have hlt:id<hp.length:=by rw [qk] at hid;exact qq hid
 have hne:id≠hp.length:=by omega
 simp only [Nat.mul_one];have hE:qn hp id (.cells (ext cs (off+c)))=hp.set id (.cells (ext cs (off+c))):=by rw [qn,if_pos hlt]
 rw [hE];have hX:qz (hp.set id (.cells (ext cs (off+c)))) id=some (.cells (ext cs (off+c))):=by rw [qk];simp [hlt]
 have hXl:off+c<=(ext cs (off+c)).length:=by rw [qbh];omega
 have hXv:qy (ext cs (off+c)) off n=qy cs off n:=qhU hcs;generalize ext cs (off+c)=xs at hX hXl hXv ⊢;have hVl:(qy cs off n).length=n:=by simp [qy];omega
 generalize qy cs off n=V at hpc hK hXv hVl;have K1:∀ x,x=Qn V i ys->KC (.ms hp.length 0 (n+m) 1) (qc hp [(id,.gone),(hp.length,.cells x)]):=fun x e=>by rw [e];exact hK
 refine qdL hf hform hr hnt ?_;simp (disch:=omega)[qyB];refine zA (l:=i) (h:=n) (m:=c) rfl rfl rfl hi hc (Nat.le_refl _) ?_;simp (disch:=omega);refine Zk (fun h=>?_) (fun h=>?_)
 . -- nothing to put in
   have h:m=0:=by simp at h;omega
   subst h;simp (disch:=omega);have hy0:ys=[]:=List.eq_nil_of_length_eq_zero hys;subst hy0;refine Vg hlt (by omega) (K1 _ ?_);rw [Nat.mul_one,hXv];simp [Qn]
 have h:m≠0:=by simp at h;omega
 simp (disch:=omega);refine Zk (fun h1=>?_) (fun h1=>?_)
 . -- at the end
   have h1:i=n:=by simp at h1;omega
   subst h1;simp (disch:=omega);by_cases hroom:i+m<=c
   . refine qjZ hX (by simp [elems,hys]) hypc (by omega) hb hb2 hroom ?_;simp (disch:=omega)[hlt];refine Vg hlt ?_ (K1 _ ?_)
     . simp;omega
     have:=qjC (A:=xs) (ys:=ys) (D:=xs.drop (off+i+ys.length)) (off:=off) (n:=i) (by omega);rw [hys,hXv] at this;rw [Nat.mul_one,hys,this,Qn,List.take_of_length_le (by omega),List.drop_of_length_le (by omega)];simp
   refine qhn hX (by simp [elems,hys]) hypc (by omega) hb hb2 (by omega) ?_;simp (disch:=omega)[hlt];refine X5 hlt (K1 _ ?_);rw [show List.take i (List.drop off xs)=V from hXv,Qn,List.take_of_length_le (by omega),List.drop_of_length_le (by omega)];simp
 have h1:i≠n:=by simp at h1;omega
 simp (disch:=omega)[qCL,qb];refine Zk (fun h2=>?_) (fun h2=>?_)
 . -- a new row
   have h2:c<n+m:=by simp at h2;omega
   simp (disch:=omega)[qb];refine zA (l:=0) (h:=i) (m:=c) rfl rfl rfl (Nat.zero_le _) (by omega) (Nat.le_refl _) ?_;simp (disch:=omega)[qb];refine qbO (m:=n+m - i) rfl (by simp [qcQ];omega) hX (by omega) (by rw [show i+(n+m - i)=n+m by omega];exact hb) (by omega) (by omega) ?_;rw [show i+(n+m - i)=n+m by omega];simp (disch:=omega)[qb];have hPl:(List.take i (List.drop off xs)).length=i:=by simp;omega
   have hzl:(zE (n+m - i) z).length=n+m - i:=VI hz _;have hPV:List.take i (List.drop off xs)=V.take i:=by rw [<-hXv,qy,List.take_take,Nat.min_eq_left hi]
   generalize List.take i (List.drop off xs)=p0 at hPl hPV ⊢;generalize zE (n+m - i) z=z0 at hzl ⊢;have hE2:∀ X Y,qn (hp.set id (.cells xs)++[.cells X]) hp.length (.cells Y)=hp.set id (.cells xs)++[.cells Y]:=fun X Y=>by simp [qn,List.set_append]
   have hN:∀ X,qz (hp.set id (.cells xs)++[.cells X]) hp.length=some (.cells X):=fun X=>by rw [qk];simp
   have hO:∀ X,qz (hp.set id (.cells xs)++[.cells X]) id=some (.cells xs):=fun X=>by rw [qk,List.getElem?_append_left (by simpa using hlt)];simp [hlt]
   have hsub:∀ h:List HObj,qz h id=some (.cells xs)->elems (hpf h) 1 (.mc id (off+i) (n - i) (c - i) 1)=some (n - i,V.drop i):=fun h hh=>by rw [WP hh (by omega),Nat.mul_one,<-hXv];simp only [qy,List.drop_take,List.drop_drop]
   refine qau (l:=i) (h:=n+m) rfl rfl trivial (by omega) (Nat.le_refl _) ?_;simp (disch:=omega)[qb,-qn];refine YY (m:=m) (.inl rfl) (by simp [elems,hys]) (qbu hypc _) (hN _) (by simp;omega) ?_;simp (disch:=omega)[qb,-qn,hE2];rw [show ys.take m=ys from List.take_of_length_le (by omega)];refine qau (l:=i+m) (h:=n+m) (by simp [qcQ]) rfl trivial (by omega) (Nat.le_refl _) ?_;simp (disch:=omega)[qb,-qn];refine zA (l:=i) (h:=n) (m:=c) rfl rfl rfl hi hc (Nat.le_refl _) ?_;simp (disch:=omega)[qb,-qn];refine YY (m:=n - i) (.inl rfl) (by simp;exact hsub _ (hO _)) (qbu (qf2 hpc _) _) (hN _) (by simp;omega) ?_;simp (disch:=omega)[qb,-qn,hE2];refine X5 hlt (K1 _ ?_);have a1:List.take (n - i) (List.drop i V)=List.drop i V:=List.take_of_length_le (by rw [List.length_drop];omega);have a2:∀ R:List AV,List.take (i+m) (p0++(ys++R))=p0++ys:=fun R=>by rw [<-List.append_assoc];exact List.take_left' (by rw [List.length_append];omega)
   have a3:List.drop (i+m+(n - i)) (p0++(ys++List.drop (i+m) (p0++z0)))=[]:=List.drop_of_length_le (by rw [List.length_append,List.length_append,List.length_drop,List.length_append];omega);rw [a1,a2,a3,hPV];simp [Qn]
 -- in Qp
 have h2:n+m<=c:=by simp at h2;omega
 simp (disch:=omega)[qb];refine zA (l:=0) (h:=n+m) (m:=c) rfl (by simp) rfl (Nat.zero_le _) (by omega) (Nat.le_refl _) ?_;simp (disch:=omega)[qb];refine zA (l:=i+m) (h:=n+m) (m:=c) (by simp) rfl rfl (by omega) (by omega) (Nat.le_refl _) ?_;simp (disch:=omega)[qb];have hE2:∀ X Y:List AV,qn (hp.set id (.cells X)) id (.cells Y)=hp.set id (.cells Y):=fun X Y=>by simp [qn,hlt]
 have hN:∀ X:List AV,qz (hp.set id (.cells X)) id=some (.cells X):=fun X=>by rw [qk];simp [hlt]
 refine qhH (r:=B false) (by simp;exact hx _ _ _ _ _ xs (by rw [qk] at hX;exact hX)) ?_;simp (disch:=omega)[qb];refine zA (l:=i+m) (h:=n+m) (m:=c) (by simp [qcQ]) rfl rfl (by omega) (by omega) (Nat.le_refl _) ?_;simp (disch:=omega)[qb,-qn];refine zA (l:=i) (h:=n+m) (m:=c) rfl rfl rfl (by omega) (by omega) (Nat.le_refl _) ?_;simp (disch:=omega)[qb,-qn];have hmin:min (n+m - i) (n+m - (i+m))*1=n - i:=by omega
 have htk:(qy xs (off+i) ((n+m - i)*1)).take (min (n+m - i) (n+m - (i+m))*1)=V.drop i:=by rw [hmin,<-hXv];simp only [qy,List.drop_take,List.drop_drop,List.take_take];congr 1;omega
 have hel:elems (hpf (hp.set id (.cells xs))) 1 (.mc id (off+i) (n+m - i) (c - i) 1)=some (n+m - i,qy xs (off+i) ((n+m - i)*1)):=WP hX (by omega);refine YY (id:=id) (off:=off+(i+m)) (n:=n+m - (i+m)) (m:=n+m - i) (ys:=qy xs (off+i) ((n+m - i)*1)) (.inr ⟨_,rfl⟩) (by simp;simpa using hel) (by rw [htk];exact qf2 hpc _) hX (by omega) ?_;rw [htk];simp (disch:=omega)[qb,-qn,hE2,-splice];refine zA (l:=i) (h:=n+m) (m:=c) rfl rfl rfl (by omega) (by omega) (Nat.le_refl _) ?_;simp (disch:=omega)[qb,-qn,-splice];refine YY (id:=id) (off:=off+i) (n:=n+m - i) (m:=m) (ys:=ys) (.inr ⟨_,rfl⟩) (by simp [elems,hys]) (qbu hypc _) (hN _) (by simp;omega) ?_;simp (disch:=omega)[qb,-qn,hE2,-splice];rw [show ys.take m=ys from List.take_of_length_le (by omega)];refine Vg hlt ?_ (K1 _ ?_)
 . simp;omega
 rw [Nat.mul_one];exact qir hXv (by omega) hys hi
end Go.AM

namespace Go.AM
open Go.RowKit
variable {P:Program}
theorem VY {f:FuncId} {id off n c sz:Nat} {xs:List AV} {hp:List HObj} {KC:AV->List HObj->Prop} (h:qw P f (.ms id off n sz::xs) hp KC):qw P f (.mc id off n c sz::xs) hp KC:=by
 intro ro m w g vs hok hvs hrep;refine h ro m w g vs hok hvs fun i hi=>?_;cases i with
 | zero=>exact Xb (hrep 0 (by simp))
 | succ i=>exact hrep (i+1) (by simpa using hi)
def niP (x:AV) (k:Nat->Prop):Prop:=match x with
 | .v (.int .i64 (.ofNat n))=>fnP n k
 | _=>False
theorem qfR {x:AV} {k:Nat->Prop} (h:niP x k):∃ n:Nat,x=I n/\k n:=by
 unfold niP at h;split at h
 . rw [qo] at h;exact ⟨_,rfl,h⟩
 exact h.elim
def msP (x:AV) (k:Nat->Nat->Nat->Prop):Prop:=match x with
 | .ms id off n sz=>okP (Nat.beq sz 1) (k id off n)
 | .mc id off n _ sz=>okP (Nat.beq sz 1) (k id off n)
 | _=>False
theorem qko {x:AV} {k:Nat->Nat->Nat->Prop} (h:msP x k):∃ id off n,k id off n/\∀ (f:FuncId) (xs:List AV) (hp:List HObj) (KC:AV->List HObj->Prop),qw P f (.ms id off n 1::xs) hp KC->qw P f (x::xs) hp KC:=by
 unfold msP at h;split at h
 . obtain ⟨h1,h2⟩:=qj h;have:=Nat.eq_of_beq_eq_true h1;subst this;exact ⟨_,_,_,h2,fun _ _ _ _ q=>q⟩
 . obtain ⟨h1,h2⟩:=qj h;have:=Nat.eq_of_beq_eq_true h1;subst this;exact ⟨_,_,_,h2,fun _ _ _ _ q=>VY q⟩
 exact h.elim
def qyt (by':Nat) (z:List AV) (xs:List AV) (hp:List HObj) (k:AV->List HObj->Prop):Prop:=match xs with
 | [x,i,j]=>niP i fun i=>niP j fun j=>msP x fun id off n=>Jl hp id fun cs =>
  okP (Nat.ble i j && Nat.ble j n && Nat.ble (off + n) cs.length && (qy cs (off + j) (n - j)).all AV.isPC && Nat.ble (n * by') 140737488355328 && Nat.ble n 140737488355328)
   (fmP (faP 6) (jo z cs off n i j) fun cs1=>Q6 hp id (.cells cs1) fun hp1=>fnP (n - (j - i)) fun n1=>k (.ms id off n1 1) hp1)
 | _=>False
theorem qmB {Z:ZZ} {hp hq:List HObj} (h:HR Z hp hq) {id:Nat} {cs cs1:List AV} (hi:hpf hp id=some (.cells cs)):HR Z (qn hp id (.cells cs1)) (qn hq id (.cells cs1)):=by have hz:=(h.cel hi).2;have hlt:id<hp.length:=qq hi;refine h.set (Nat.le_of_lt hlt) ?_;rw [hz];exact Vf rfl
theorem qoz {f:FuncId} {fn:Func} {by':Nat} {z:List AV} (hf:P.funcs[f]?=some fn) (hform:qJ P fn [6]=some (qxw by' z)) (hr:qN fn.results.toList=some [6]) (hnt:3<=fn.ntmps) (hz:z.length=1):qdO P f (qyt by' z):=by
 intro xs hp k h;unfold qyt at h;split at h
 . rename_i x i0 j0;obtain ⟨i,ei,h0⟩:=qfR h;obtain ⟨j,ej,h00⟩:=qfR h0;subst ei ej;clear h h0;obtain ⟨id,off,n,h,hms⟩:=qko (P:=P) h00;obtain ⟨cs,hc,h⟩:=zp h;obtain ⟨h1,h⟩:=qj h;rw [Qb (Qj 6)] at h;have h:=qB h;rw [qo] at h;simp only [Bool.and_eq_true] at h1;obtain ⟨⟨⟨⟨⟨a1,a2⟩,a3⟩,a4⟩,a5⟩,a6⟩:=h1;refine ⟨_,_,fun Z hq hrel=>hms _ _ _ _ ?_,h⟩;have hc':=(hrel.cel hc).1;refine qeN hf hform hr hnt hz (cs:=cs) (by rw [qk];exact hc') (Nat.le_of_ble_eq_true a1) (Nat.le_of_ble_eq_true a2) (Nat.le_of_ble_eq_true a3) a4 (Nat.le_of_ble_eq_true a5) (Nat.le_of_ble_eq_true a6) ⟨rfl,?_⟩;exact qmB hrel hc
 exact h.elim
def qyu (by':Nat) (xs:List AV) (hp:List HObj) (k:AV->List HObj->Prop):Prop:=match xs with
 | [x,i,.sl _ m ys]=>niP i fun i=>msP x fun id off n=>Jl hp id fun cs =>
  okP (Nat.ble i n && Nat.ble (off + n) cs.length && (qy cs off n).all AV.isPC && Nat.beq ys.length m && ys.all AV.isPC && Nat.ble ((n + m) * by') 140737488355328 && Nat.ble (n + m) 140737488355328)
   (fmP (faP 6) (Qn (qy cs off n) i ys) fun cs1=>qdU hp fun l=>Q6 hp id .gone fun hp1=>fmP (fun a k=>k a) (hp1++[.cells cs1]) fun hp2=>fnP (n+m) fun n1=>k (.ms l 0 n1 1) hp2)
 | _=>False
theorem qoA {f : FuncId} {fn : Func} {by' : Nat} {z : List AV} {xf rf : FuncId} (hf : P.funcs[f]? = some fn) (hform : qJ P fn [6] = some (qyB by' z xf rf)) (hr : qN fn.results.toList = some [6]) (hnt : 3 <= fn.ntmps) (hz : z.length = 1) (hzpc : (z.all AV.isPC) = true)
 (hx:∀ (g:Bool) (m:Nat) (ys:List AV),ys.length=m->∀ (h:Hp) (id' off' n' c':Nat) (bs:List AV),h id'=some (.cells bs)->qcP P xf [.sl g m ys,.mc id' off' n' c' 1] h (B false)):qdO P f (qyu by'):=by
 intro xs hp k h;unfold qyu at h;split at h
 . rename_i x i0 g m ys;obtain ⟨i,ei,h00⟩:=qfR h;subst ei;clear h;obtain ⟨id,off,n,h,hms⟩:=qko (P:=P) h00;obtain ⟨cs,hc,h⟩:=zp h;obtain ⟨h1,h⟩:=qj h;rw [Qb (Qj 6),ZG] at h;have h:=qB h;rw [Qb (fun a k=>rfl),qo] at h;simp only [Bool.and_eq_true] at h1;obtain ⟨⟨⟨⟨⟨⟨a1,a3⟩,a4⟩,a5⟩,a6⟩,a7⟩,a8⟩:=h1;have a5:=Nat.eq_of_beq_eq_true a5;refine ⟨_,_,fun Z hq hrel=>hms _ _ _ _ ?_,h⟩;have hc':=(hrel.cel hc).1;have hlt:id<hp.length:=qq hc;have hlen:=hrel.len;refine qfB hf hform hr hnt hz hzpc (hx g m ys a5) (cs:=cs) (by rw [qk];exact hc') (Nat.le_of_ble_eq_true a1) (Nat.le_of_ble_eq_true a3) a4 a5 a6 (Nat.le_of_ble_eq_true a7) (Nat.le_of_ble_eq_true a8) ⟨?_,?_⟩
   . rw [hlen]
   have e:qc hp [(id,HObj.gone)]++[HObj.cells (Qn (qy cs off n) i ys)]=qc hp [(id,.gone),(hp.length,.cells (Qn (qy cs off n) i ys))]:=by simp [qc,qn,hlt]
   have e2:hq.length=hp.length:=by rw [hlen]
   rw [e,e2];refine hrel.write fun p hp'=>?_;rcases List.mem_cons.1 hp' with rfl | hp'
   . exact ⟨(hrel.cel hc).2,Nat.le_of_lt hlt,rfl⟩
   rcases List.mem_cons.1 hp' with rfl | hp'
   . exact ⟨hrel.new _ (Nat.le_refl _),Nat.le_refl _,rfl⟩
   cases hp'
 exact h.elim
end Go.AM

namespace Go.AM
open Go.RowKit
variable {P:Program}
theorem XV {f:FuncId} {xs:List AV} {hp:List HObj} {K:AV->List HObj->Prop} (h:qw P f xs hp fun x H=>(x = .sl true 0 []/\K (.ms H.length 0 0 1) (H++[.cells []]))\/K x H):qw P f xs hp K:=by
 intro ro n w g vs hok hvs hrep;refine (h ro n w g vs hok hvs hrep).mono ?_;rintro e w' ⟨v,x,H,g',rfl,hK,hx,hok',hu⟩;rcases hK with ⟨rfl,hK⟩ | hK
 . have hn : hpf H H.length = none := by simp [hpf]
   obtain ⟨q1,q2⟩:=hok'.virgin hn
   have e:hpf (H++[.cells []])=Hp.set (hpf H) H.length (.cells []):=by
    funext i;simp only [hpf,Hp.set];by_cases e:i=H.length
    . subst e;simp
    rw [if_neg e];rcases Nat.lt_or_ge i H.length with h | h
    . rw [List.getElem?_append_left h]
    rw [List.getElem?_eq_none (by simp;omega),List.getElem?_eq_none h]
   refine ⟨v,_,_,_,rfl,hK,?_,by rw [e];exact q1,by rw [e];exact hu.trans q2⟩;cases hx with
   | sl _ _ _ _ ad cap vs hn hf hc hr =>have:cap=0:=hf rfl;subst this;exact .msz _ _ _ ad .virg (by simp [G.home])
 exact ⟨v,x,H,g',rfl,hK,hx,hok',hu⟩
def qyA (by':Nat):AC := .seq (.rgn [⟨none,[(.mv 2 (.k (.sl true 0 [])))]⟩] [0]) (.seq (.seq (.rgn [⟨none,[(.mv 3 (.t 0)),(.isn 4 false 0 (.t 3))]⟩] [0,4]) (.cond (.t 4) (.seq (.rgn [⟨none,[(.mv 2 (.k (.sl true 0 [])))]⟩] [2]) .ret) .skip)) (.seq (.rgn [⟨none,[(.bsl 5 0 1 [(I 0)] []),(.mv 6 (.t 0)),(.app 7 1 by' (.t 5) (.t 6)),(.mv 2 (.t 7))]⟩] [2]) .ret))
def qyr (by':Nat) (xs:List AV) (hp:List HObj) (k:AV->List HObj->Prop):Prop:=match xs with
 | [.sl _ n cs]=>okP (Nat.beq cs.length n&&cs.all AV.isPC&&Nat.ble (n*by') 140737488355328&&Nat.ble n 140737488355328) (Z4 hp (.cells cs) fun id hp=>k (.ms id 0 n 1) hp)
 | [.ms id off n sz]=>okP (Nat.beq sz 1&&Nat.ble (n*by') 140737488355328&&Nat.ble n 140737488355328) (Jl hp id fun cs=>VF cs off n fun l=>okP (l.all AV.isPC) (Z4 hp (.cells l) fun id hp=>k (.ms id 0 n 1) hp))
 | [.mc id off n _ sz]=>okP (Nat.beq sz 1&&Nat.ble (n*by') 140737488355328&&Nat.ble n 140737488355328) (Jl hp id fun cs=>VF cs off n fun l=>okP (l.all AV.isPC) (Z4 hp (.cells l) fun id hp=>k (.ms id 0 n 1) hp))
 | _=>False
theorem qrw {E : HE} {d : Nat} {neg : Bool} {x : Opd} {os : List AOp} {fr : List (Nat × AV)} {hp : List HObj} {K : St -> Prop} {f : Bool} {n : Nat} {cs : List AV} (hx : evF (get fr) x = .sl f n cs)
 (h0:cs=[]->∀ c,zb P E os ⟨(d,.v (.bool c))::fr,hp⟩ K) (h1:cs≠[]->zb P E os ⟨(d,.v (.bool neg))::fr,hp⟩ K):zb P E (.isn d neg 0 x::os) ⟨fr,hp⟩ K:=by
 simp only [zb,aop,AOp.many,hx];cases cs with
 | nil=>exact ⟨h0 rfl false,h0 rfl true⟩
 | cons a l=>exact h1 (by simp)
theorem qrv {E : HE} {d : Nat} {neg : Bool} {x : Opd} {os : List AOp} {fr : List (Nat × AV)} {hp : List HObj} {K : St -> Prop} {id off n sz : Nat} (hx : evF (get fr) x = .ms id off n sz)
 (h0:n=0->∀ c,zb P E os ⟨(d,.v (.bool c))::fr,hp⟩ K) (h1:n≠0->zb P E os ⟨(d,.v (.bool neg))::fr,hp⟩ K):zb P E (.isn d neg 0 x::os) ⟨fr,hp⟩ K:=by
 simp only [zb,aop,AOp.many,hx];exact ⟨h1,fun h=>⟨h0 h false,h0 h true⟩⟩
theorem qqh {f : FuncId} {fn : Func} {by' : Nat} (hf : P.funcs[f]? = some fn) (hform : qJ P fn [2] = some (qyA by')) (hr : qN fn.results.toList = some [2]) (hnt : 1 <= fn.ntmps) {x : AV} {n : Nat} {l : List AV} {hp : List HObj} {k : AV -> List HObj -> Prop}
 (hx:(∃ g,x = .sl g n l)\/∃ id off,x = .ms id off n 1) (he:elems (hpf hp) 1 x=some (n,l)) (hn:l.length=n) (hl:l.all AV.isPC=true) (h1:n*by'<=140737488355328) (h2:n<=140737488355328) (hk:k (.ms hp.length 0 n 1) (hp++[.cells l])):qw P f [x] hp k:=by
 refine XV (qdL hf hform hr hnt ?_);simp (disch:=omega)[qyA]
 have app : ∀ {fr},get fr 0 = x -> AWP P (E1 P) (.seq (.rgn [⟨none,[(.bsl 5 0 1 [(I 0)] []),(.mv 6 (.t 0)),(.app 7 1 by' (.t 5) (.t 6)),(.mv 2 (.t 7))]⟩] [2]) .ret) ⟨fr,hp⟩ (qly [2] fun x H => (x = .sl true 0 [] /\ k (.ms H.length 0 0 1) (H ++ [.cells []])) \/ k x H) := fun {fr} hfr => by
  simp (disch:=omega)[];refine qj2 (ys:=[]) rfl rfl ?_;simp (disch:=omega)[zE,Qp,hfr];refine ⟨n,l,he,hl,.ms hp.length 0 n 1,[(hp.length,.cells l)],?_,?_⟩
  . simp only [zl];refine ⟨by trivial,by simp,by simpa using h1,by simpa using h2,.inl (by trivial),by simp,by simp⟩
  simp (disch:=omega)[]
  first | exact hk | exact Or.inr hk | (simpa [qc,qn] using hk)
 rcases hx with ⟨g,rfl⟩ | ⟨id,off,rfl⟩
 . refine qrw (f := g) (n := n) (cs := l) rfl (fun h c => ?_) (fun h => ?_)
   . subst h;have:n=0:=by simpa using hn.symm
     subst this;cases c with
     | true =>refine ⟨fun _=>?_,fun h=>by cases h⟩;simp (disch:=omega)[];exact .inl hk
     | false=>exact ⟨fun h=>(by cases h),fun _=>app rfl⟩
   exact ⟨fun h=>(by cases h),fun _=>app rfl⟩
 refine qrv (id:=id) (off:=off) (n:=n) (sz:=1) rfl (fun h c=>?_) (fun h=>?_)
 . subst h;have:l=[]:=List.eq_nil_of_length_eq_zero hn;subst this;cases c with
   | true =>refine ⟨fun _=>?_,fun h=>by cases h⟩;simp (disch:=omega)[];exact .inl hk
   | false=>exact ⟨fun h=>(by cases h),fun _=>app rfl⟩
 exact ⟨fun h=>(by cases h),fun _=>app rfl⟩
theorem qox {f:FuncId} {fn:Func} {by':Nat} (hf:P.funcs[f]?=some fn) (hform:qJ P fn [2]=some (qyA by')) (hr:qN fn.results.toList=some [2]) (hnt:1<=fn.ntmps):qdO P f (qyr by'):=by
 have fin : ∀ {Z : ZZ} {hp hq : List HObj} {l : List AV},HR Z hp hq -> HR Z (qc hp [(hp.length,.cells l)]) (hq ++ [.cells l]) := fun {Z hp hq l} hr => by
  have:=hr.write (ws:=[(hp.length,.cells l)]) (fun p hp'=>by simp at hp';subst hp';exact ⟨hr.new _ (Nat.le_refl _),Nat.le_refl _,rfl⟩);have e:qc hq [(hp.length,.cells l)]=hq++[.cells l]:=by rw [<-hr.len];simp [qc,qn]
  rwa [e] at this
 have row : ∀ {x : AV} {id off n : Nat} {hp : List HObj} {k : AV -> List HObj -> Prop},(∀ (xs : List AV) (hp : List HObj) (KC : AV -> List HObj -> Prop),qw P f (.ms id off n 1 :: xs) hp KC -> qw P f (x :: xs) hp KC) -> n * by' <= 140737488355328 -> n <= 140737488355328 ->
  Jl hp id (fun cs=>VF cs off n fun l=>okP (l.all AV.isPC) (Z4 hp (.cells l) fun id hp=>k (.ms id 0 n 1) hp))->∃ r hp',(∀ Z hq,HR Z hp hq->qw P f [x] hq (fun r1 h1=>r1=r/\HR Z hp' h1))/\k r hp':=fun {x id off n hp k} hx h1 h2 h=>by
  obtain ⟨cs,hc,h⟩:=zp h;obtain ⟨hv,h⟩:=ZS h;obtain ⟨hl,h⟩:=qj h;have hlen:(qy cs off n).length=n:=by simp [qy];omega
  refine ⟨_,_,fun Z hq hz=>hx _ _ _ (qqh hf hform hr hnt (n:=n) (l:=qy cs off n) (.inr ⟨id,off,rfl⟩) ?_ hlen hl h1 h2 ⟨by rw [hz.len],fin hz⟩),zj h⟩;simp only [elems,(hz.cel hc).1];simp [hv]
 intro xs hp k h;unfold qyr at h;split at h
 . rename_i g n cs;obtain ⟨h0,h⟩:=qj h;simp only [Bool.and_eq_true] at h0;obtain ⟨⟨⟨a1,a2⟩,a3⟩,a4⟩:=h0;have a1:=Nat.eq_of_beq_eq_true a1;refine ⟨_,_,fun Z hq hz=>qqh hf hform hr hnt (n:=n) (l:=cs) (.inl ⟨g,rfl⟩) ?_ a1 a2 (Nat.le_of_ble_eq_true a3) (Nat.le_of_ble_eq_true a4) ⟨by rw [hz.len],fin hz⟩,zj h⟩;simp [elems,a1]
 . obtain ⟨h0,h'⟩:=qj h;simp only [Bool.and_eq_true] at h0;have:=Nat.eq_of_beq_eq_true h0.1.1;subst this;exact row (fun _ _ _ q=>q) (Nat.le_of_ble_eq_true h0.1.2) (Nat.le_of_ble_eq_true h0.2) h'
 . obtain ⟨h0,h'⟩:=qj h;simp only [Bool.and_eq_true] at h0;have:=Nat.eq_of_beq_eq_true h0.1.1;subst this;exact row (fun _ _ _ q=>VY q) (Nat.le_of_ble_eq_true h0.1.2) (Nat.le_of_ble_eq_true h0.2) h'
 exact h.elim
end Go.AM
