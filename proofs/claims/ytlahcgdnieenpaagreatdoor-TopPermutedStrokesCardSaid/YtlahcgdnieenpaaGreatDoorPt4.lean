/-
  Pt4: texts joined: Px2 Rw1 Zp1 Rn4 Zr3 Zw1 Zt1 Zr4 Zr5 Zr5c Zq1 Zq2. Own work.
-/
import Derived.Test.YtlahcgdnieenpaaGreatDoorPt3
import Derived.RangeFuncNested
set_option linter.all false
set_option linter.unusedSimpArgs false
set_option linter.unusedVariables false
set_option linter.unusedSectionVars false

namespace Go.AM
def qmX:=@List.contains_iff_mem
def qnm:=@beq_eq_false_iff_ne
def qnv:=@List.mem_singleton
def qnE:=@Nat.ble_eq_true_of_le
def qnJ:=@List.drop_of_length_le
def qnP:=@Classical.byContradiction
def qnX:=@List.append_of_mem
def qn0:=@List.set_getElem_self
def qn3:=@Int.toNat_natCast
def qn4:=@of_decide_eq_true
def qn7:=@List.mem_of_getElem?
def qov:=@List.map_nil
def qoy:=@List.mem_cons_of_mem
def qoH:=@List.map_id
def qo0:=@Nat.lt_of_not_le
def qpe:=@bne_iff_ne
def qpf:=@List.getElem?_range
def qpM:=@Prod.ext
def qpO:=@Bool.false_or
end Go.AM
namespace Go.AM
open Go.RowKit
variable {y:AC} {K:AV->List HObj->Prop} {e:Ent} {Q:Exit->St->Prop} {f:FrL} {o:HObj} {c z:List AV} {k:List AV->Prop} {E:List Ent} {hp p u l q:List HObj} {ks:List Nat} {i n m s d L N b:Nat} {x:Opd} {P:Program} {t:St} {α:Type} {w w1:World} {Z:ZZ}
theorem zQ {κ β:Type}:∀ {l L:List (Wr κ β)} {X:Nat->Bool} {F:κ->β},qy (l++L) X F=qy L (fun j=>X (l.length+j)) (qy l X F)
 | [],L,X,F=>by simp [qy]
 | a::l,L,X,F=>by simp only [qmP,qy,qm5];rw [zQ];congr 1;funext j;congr 1;omega
abbrev COp:=Option (Nat×Bool)×AOp
def je (s:List Grp):List COp:=s.flatMap fun g=>g.ops.map fun o=>(g.guard,o)
theorem VG:∀ l:List COp,je (grp l)=l
 | []=>rfl
 | (g,o)::l=>by
   have i:=VG l;simp only [grp];split
   . rename_i u O s h;rw [h] at i;split
     . rename_i c;obtain ⟨rfl,_⟩:=c;simp only [je,qmH,wI,qmP] at i ⊢;rw [i]
     simp only [je,qmH,wI,qov,qmP,qmF] at i ⊢;rw [i]
   rename_i h;rw [h] at i;simp only [je,qmH,qoW,wI,qov,qmP,qmF] at i ⊢;rw [<-i]
def fh (C:List COp):Bool:=C.all fun c=>match c.2 with
 | .lku .. => false
 | _=>true
theorem Bw {c:List COp} (h:fh c=true) {k:Nat}:Qc c i k=false:=by
 cases e:Qc c i k with
 | false=>rfl
 | true =>obtain ⟨g,v,d,K,z,m,q,D,u,_⟩:=jN e;have:=LL.1 h _ (qn7 u);simp at this
def Lv (C:List COp) (n:List (Nat×Nat)) (p:Nat):Bool :=
 fh C&&(List.range p).all (fun i => !n.contains (i,p))&&(match C[p]? with | some c=>c.2.touch | none=>false) &&
 (List.range C.length).all fun k=>decide (k<=p) || (List.range k).any fun j=>decide (p<=j)&&(match C[j]?,C[k]? with
  | some u,some v => !Jr u v || (u.2.touch&&v.2.touch && !n.contains (j,k))
  | _,_=>false)
structure Piv (cl:List COp) (un:List (Nat×Nat)) (p:Nat):Prop where
 no:fh cl=true
 before:∀ i,i<p->(i,p)∉un
 lt:p<cl.length
 touch:∀ (h:p<cl.length),cl[p].2.touch=true
 after:∀ k (hk:k<cl.length),p<k->∃ j,∃ hj:j<cl.length,p<=j/\j<k/\(Jr cl[j] cl[k]=false\/(cl[j].2.touch=true/\cl[k].2.touch=true/\(j,k)∉un))
theorem sy {C:List COp} {n:List (Nat×Nat)} {p:Nat} (h:Lv C n p=true):Piv C n p:=by
 simp only [Lv,qd] at h;obtain ⟨⟨⟨q,g⟩,v⟩,s⟩:=h
 have w:∃ c,C[p]?=some c/\c.2.touch=true:=by
  cases e:C[p]? with
  | none=>rw [e] at v;cases v
  | some c=>rw [e] at v;exact ⟨c,rfl,v⟩
 obtain ⟨c,r,x⟩:=w;obtain ⟨l,z⟩:=qml.1 r;refine ⟨q,fun i t=>?_,l,fun h=>by rw [z];exact x,fun k o a=>?_⟩
 . have:=LL.1 g i (qmO.2 t);simpa using this
 have:=LL.1 s k (qmO.2 o);rw [qm2] at this;rcases this with h | h
 . have:=qn4 h;omega
 obtain ⟨j,d,h⟩:=qnG.1 h;have y:=qmO.1 d;rw [qd] at h;obtain ⟨b,u⟩:=h;refine ⟨j,by omega,qn4 b,y,?_⟩;rw [Wd (by omega:j<C.length),Wd o] at u;simp only [qm2,qd,qmZ] at u;rcases u with u | ⟨⟨u,m⟩,f⟩
 . exact .inl u
 exact .inr ⟨u,m,by simpa using f⟩
section
variable {P:Program} {N:Nat} {ro:Option Nat} {n:Nat} {ops:Array Oper} {pre:List (List Nat)} {un:List (Nat×Nat)}
theorem Gb {c C:COp} {R k:Rec} (h:Jr c C=true) (D:R.dst=c.2.dst) (z:k.dst=C.2.dst) (y:∀ x∈R.ws.map (·.1),x∉k.foot) (o:∀ x∈R.ws.map (·.1),x∉k.ws.map (·.1)) (q:∀ x∈k.ws.map (·.1),x∉R.foot):Apart false c C R k:=by
 simp only [Jr,qd] at h;obtain ⟨⟨a,A⟩,j⟩:=h;refine ⟨fun d u=>?_,fun d u=>?_,fun d u v=>?_,y,o,.inr q⟩
 . rw [<-D,u] at a;simpa [QX] using a
 . rw [<-z,u] at A;simpa [QX] using A
 rw [<-D,<-z,u,v] at j;simp at j
structure Fx (P:Program) (pre:List (List Nat)) (cl:List COp) (act:Nat->Prop) (st:St) (Rs:List Rec):Prop where
 len:Rs.length=cl.length
 dst:∀ i (h:i<cl.length) (h':i<Rs.length),Rs[i].dst=cl[i].2.dst
 rcd:∀ i (h:i<cl.length) (h':i<Rs.length),act i->∃ new,UV P cl[i].1 cl[i].2 Rs[i] (qy (Rs.map Rec.F) (fun k=>decide (k<i)) (get st.fr)) (qy (Rs.map Rec.H) (fun k=>decide (k<i)) (hpf st.hp)) new/\qy (Rs.map Rec.H) (fun k=>decide (k<i)) (hpf st.hp) new=none
 big:∃ L,st.hp.length<=L/\∀ R∈Rs,∀ q∈R.ws,q.1<L
 ap:∀ i k (hik:i<k) (hk:k<cl.length) (h1:i<Rs.length) (h2:k<Rs.length),i∉pre.getD k []->Apart false (cl[i]'(by omega)) cl[k] Rs[i] Rs[k]
variable {cl:List COp} {act:Nat->Prop} {st:St} {Rs:List Rec}
theorem Fx.serves (f:Fx P pre cl act st Rs) (hl:cl.length<=ops.size) {X:Nat->Bool} (hX:Clo pre ops X) {i:Nat} (hi:i<cl.length) (A:i<Rs.length) (ha:act i) (hx:X i=false) (hr:∀ j∈pre.getD i [],X j=true) :
 ∃ new,hpX Rs X st new=none/\UV P cl[i].1 cl[i].2 Rs[i] (frX Rs X st) (hpX Rs X st) new:=by
 have l2:=f.len;obtain ⟨new,ok,x2⟩:=f.rcd i hi A ha
 have ap:∀ k (O:k<Rs.length) (x1:k<cl.length),X k≠decide (k<i)->Apart false cl[k] cl[i] Rs[k] Rs[i]\/Apart false cl[i] cl[k] Rs[i] Rs[k]:=fun k O x1 q=>by
  rcases qnT k i with h | h | h
  . refine .inl (f.ap k i h hi O A (fun hp=>q ?_));rw [hr k hp];simp [h]
  . subst h;rw [hx] at q;simp at q
  refine .inr (f.ap i k h x1 A O (fun hp=>q ?_))
  have:X k=true:=by
   cases e:X k with
   | true=>rfl
   | false=>rw [e] at q;exact absurd (by symm;simp;omega) q
  have:=hX k (by omega) this i hp;rw [hx] at this;cases this
 have ZL:∀ d∈zf cl[i],frX Rs X st d=qy (Rs.map Rec.F) (fun k=>decide (k<i)) (get st.fr) d:=fun d hd=>by
  refine qk rfl fun k O y=>?_;simp only [qmq] at O;simp only [qmv] at y;by_cases e:X k=decide (k<i)
  . exact e
  rcases ap k O (by omega) e with a | a
  . exact absurd hd (a.look d (ZF y))
  exact absurd hd (a.look' d (ZF y))
 have Jz:∀ x,(x∈Rs[i].ws.map (·.1)\/x∈Rs[i].foot)->hpX Rs X st x=qy (Rs.map Rec.H) (fun k=>decide (k<i)) (hpf st.hp) x:=fun x x3=>by
  refine qk rfl fun k O y=>?_;simp only [qmq] at O;simp only [qmv] at y;by_cases e:X k=decide (k<i)
  . exact e
  have y:=Zk y;rcases ap k O (by omega) e with a | a
  . rcases x3 with h | h
    . exact absurd h (a.ww x y)
    exact absurd h (a.wr x y)
  rcases x3 with h | h
  . exact absurd y (a.ww x h)
  rcases a.rw with a | a
  . cases a
  exact absurd h (a x y)
 obtain ⟨L,b1,b2⟩:=f.big
 have K:hpX Rs X st L=none:=by
  have:hpX Rs X st L=qy (Rs.map Rec.H) (fun _=>false) (hpf st.hp) L:=qk rfl fun k O y=>by simp only [qmq] at O;simp only [qmv] at y;have:=Zk y;obtain ⟨p,hp,e⟩:=gm.1 this;have:=b2 Rs[k] (qmr _) p hp;omega
  rw [this,qP (fun _=>rfl)];simp [hpf,b1]
 have hg:=Yp (gd:=cl[i].1) (F:=qy (Rs.map Rec.F) (fun k=>decide (k<i)) (get st.fr)) (F':=frX Rs X st) (fun j b e=>ZL j (by simp [zf,e]));refine ⟨if new∈Rs[i].ws.map (·.1) then new else L,?_,ok.1,?_⟩
 . split
   . rename_i h;rw [Jz new (.inl h)];exact x2
   exact K
 rcases ok.2 with ⟨h1,h2,h3⟩ | ⟨h1,h2,h3,h4⟩
 . refine .inl ⟨hg.1 h1,?_,?_⟩
   . refine ZX h2 (fun x hx=>Js fun d hd=>ZL d ?_) (fun id x0=>Jz id (.inr (by rw [h3];exact x0))) (fun h=>by rw [if_pos h]);simp only [zf,xm,qob];exact .inl ⟨x,hx,hd⟩
   rw [h3];exact (Ho h2 (fun x hx=>Js fun d hd=>ZL d (by simp only [zf,xm,qob];exact .inl ⟨x,hx,hd⟩)) fun id x0=>Jz id (.inr (by rw [h3];exact x0))).symm
 exact .inr ⟨hg.2 h1,h2,h3,h4⟩
theorem Fx.next (f:Fx P pre cl act st Rs) (hl:cl.length<=ops.size) {X:Nat->Bool} (hX:Clo pre ops X) {i:Nat} (hi:i<cl.length) (K:i<Rs.length) (hx:X i=false) :
 frX Rs (YO X i) st=Rs[i].F.app (frX Rs X st)/\hpX Rs (YO X i) st=Hp.write (hpX Rs X st) Rs[i].ws:=by
 have l2:=f.len;have hy:YO X i i=true:=by simp [YO]
 have hj:∀ j,j≠i->YO X i j=X j:=fun j h=>by simp [YO,h]
 have ap:∀ k (O:k<Rs.length) (x0:k<cl.length),i<k->X k=true->Apart false cl[i] cl[k] Rs[i] Rs[k]:=fun k O x0 y e=>f.ap i k y x0 K O (fun hp=>by have:=hX k (by omega) e i hp;rw [hx] at this;cases this);constructor
 . have:=zR (l:=Rs.map Rec.F) (F:=get st.fr) (by simpa using K) hx hy hj (fun k O y e A q=>by simp only [qmq] at O;simp only [qmv] at q ⊢;have a:=ap k O (by omega) y e;have:=a.dst A (ZF q);simpa [Rec.F] using this);simpa [frX] using this
 have:=zR (l:=Rs.map Rec.H) (F:=hpf st.hp) (by simpa using K) hx hy hj (fun k O y e A q=>by simp only [qmq] at O;simp only [qmv] at q ⊢;have a:=ap k O (by omega) y e;have:=a.ww A (Zk q);simpa [Rec.H] using this);rw [qmv,Jk] at this;exact this
theorem Fx.step (f:Fx P pre cl act st Rs) (hl:cl.length<=ops.size) {X:Nat->Bool} (hX:Clo pre ops X) {i:Nat} (hi:i<ops.size) (O:i<cl.length) (ha:act i) (hx:X i=false) (hr:∀ j∈pre.getD i [],X j=true)
 (c1:Ql P N ops[i]=some cl[i].2) (c2:WC ops ops[i].guard=some cl[i].1)
 {a:Act} {g:G} (hN:a.tmps.size=N) (hF:FrOK w g (frX Rs X st) a) (x2:HeapOK (hpX Rs X st) g w) {K:Act->World->Prop} {Q:Exit->Act->World->Prop}
 (hK:∀ a' A g',a'.tmps.size=N->a'.defers=a.defers->FrOK A g' (frX Rs (YO X i) st) a'->HeapOK (hpX Rs (YO X i) st) g' A->Upd (hpX Rs X st) g w (hpX Rs (YO X i) st) g' A->K a' A) :
 wpOpIn (W ro) n P ops Q i K a w:=by
 have x0:i<Rs.length:=by rw [f.len];exact O
 obtain ⟨new,x1,q⟩:=f.serves hl hX O x0 ha hx hr;obtain ⟨e1,e2⟩:=f.next hl hX O x0 hx
 obtain ⟨d1,d2⟩:=Gr c1;unfold wpOpIn;simp only [qmW hi];rw [Qr c2];have y:Rs[i].dst=ops[i].dst:=q.1.trans d1;rcases q.2 with ⟨h1,h2,h3⟩ | ⟨h1,h2,h3,h4⟩
 . rw [(Zx hF).1 h1];simp only [qmA];obtain ⟨p1,p2,p3⟩:=CJ (ro:=ro) (n:=n) c1 hF x2 x1 h2;refine p1 K Q fun v A hp=>?_;obtain ⟨g',q1,q2,q3⟩:=hp;rw [<-e2] at q2 q3;rw [<-y];refine hK _ A g' (by rw [VX];exact hN) (zq _ _ _) ?_ q2 q3;rw [e1];exact FrOK.app (hF.mono q3.tr) (fun k e=>by rw [hN];exact d2 k (by rw [<-y];exact e)) q1
 rw [(Zx hF).2 h1];simp only [qmM,qnc];refine ⟨fun _ _=>trivial,?_⟩;rw [<-y];have e3:hpX Rs (YO X i) st=hpX Rs X st:=by rw [e2,h3];rfl
 refine hK _ w g (by rw [VX];exact hN) (zq _ _ _) ?_ (by rw [e3];exact x2) (by rw [e3];exact .refl _ _ _);rw [e1];exact FrOK.app hF (fun k e=>by rw [hN];exact d2 k (by rw [<-y];exact e)) (by rw [h2];exact .v _ _)
theorem GK:∀ (Rs:List Rec) (X:Nat->Bool) (f:List (Nat×AV)),∃ fr',get fr'=qy (Rs.map Rec.F) X (get f)
 | [],X,f=>⟨f,rfl⟩
 | R::Rs,X,f=>by
   simp only [wI,qy];split
   . rw [QN];exact GK Rs _ _
   exact GK Rs _ _
end
section
variable {P:Program} {E:HE} {w1:World} {g1:G}
theorem kh {o:AOp} {st:St} {fr':List (Nat×AV)} {K:St->Prop} (c:(∃ d f as,o = .call d f as)\/∃ d x as,o = .callv d x as) (j:∀ x∈o.opds,evF (get fr') x=evF (get st.fr) x) (h:US P E w1 g1 o st K) :
 US P E w1 g1 o ⟨fr',st.hp⟩ fun s=>∃ d r p,o.dst=some d/\s=⟨(d,r)::fr',p⟩/\K ⟨(d,r)::st.fr,p⟩:=by
 have w:∀ {d:Nat} {f:FuncId} {X:List AV},o.dst=some d->qB P f X st.hp (fun r p=>K ⟨(d,r)::st.fr,p⟩)->qB P f X st.hp fun r p=>∃ D R v,o.dst=some D/\(⟨(d,r)::fr',p⟩:St)=⟨(D,R)::fr',v⟩/\K ⟨(D,R)::st.fr,v⟩:=fun {d f X} g h =>
  Oj (fun r p k=>⟨d,r,p,g,rfl,k⟩) h
 rcases c with ⟨d,f,as,rfl⟩ | ⟨d,x,as,rfl⟩
 . have e:as.map (evF (get fr'))=as.map (evF (get st.fr)):=qmL fun x b=>j x b;simp only [US] at h ⊢;rw [e];exact Ha (fun r p k=>⟨d,r,p,rfl,rfl,k⟩) h
 have e:as.map (evF (get fr'))=as.map (evF (get st.fr)):=qmL fun y m=>j y (qoy _ m);have q:evF (get fr') x=evF (get st.fr) x:=j x (by simp [AOp.opds]);simp only [US,aop] at h ⊢;rw [e,q];generalize evF (get st.fr) x=u at h ⊢;cases u with
 | fn f first C =>
   cases f with
   | func f=>exact ⟨h.1,w rfl h.2⟩
   | _=>exact h.elim
 | yl id =>obtain ⟨z,l,t⟩:=h;exact ⟨z,l,fun r p k=>⟨d,r,p,rfl,rfl,t r p k⟩⟩
 | _=>exact h.elim
def zn (R:Rec):Rec:=⟨R.dst,R.r,[],[]⟩
theorem XW (R:List Rec):(R.map zn).map Rec.F=R.map Rec.F:=by rw [qmU];rfl
set_option maxHeartbeats 1000000 in
theorem Tu (hY:YS P E w1 g1) {gs gsA gsB:List Grp} {un unA:List (Nat×Nat)} {st:St} (A B:List COp) (gd:Option (Nat×Bool)) (oc:AOp)
 (v5:je gs=A++(gd,oc)::B) (w0:Lv (je gs) un A.length=true) (hA:grp A=gsA) (hB:grp B=gsB) (w5:∀ q∈un,q.2<A.length->q∈unA) (v8:(∃ d f as,oc = .call d f as)\/∃ d x as,oc = .callv d x as)
 (h:zu P gsA st [] fun x0 tr=>Qm tr unA=true/\Ir gd (get x0.fr)/\US P E w1 g1 oc x0 fun b0=>zu P gsB b0 (List.replicate (A.length+1) ([],[])) fun O tr=>Qm tr un=true/\Q .normal (O.keep ks)) :
 Il P w1 g1 (.drw gs un ks) st Q:=by
 subst hA hB;intro N c a w g R ro n hf hr ht hs hl;cases c <;> first | exact hf.elim | skip
 rename_i id ops dd;obtain ⟨rfl,hm,C,pre,hc,hd,hg⟩:=hf;have z0:C=A++(gd,oc)::B:=by rw [<-VG C,<-hg];exact v5
 have pv:=sy w0;rw [hg,VG] at pv;clear v5 w0;obtain ⟨s,x0,M,z3,a7,y3⟩:=Zw (QQ h);simp only [qmF] at z3;obtain ⟨p,Z⟩:∃ p,p=A.length:=⟨_,rfl⟩;rw [<-Z] at pv w5 y3;have lsz:C.length=ops.size:=by simpa using (zr hc).1
 have y7:s.length=p:=by rw [Nr M,Z]
 have b8:C.length=p+1+B.length:=by rw [z0,Z];simp;omega
 have w7:=pv.lt;have gA:∀ i (hi:i<p) (h1:i<C.length) (V:i<A.length),C[i]=A[i]:=fun i hi h1 V=>by subst z0;rw [qmz V]
 have gP:∀ (h1:p<C.length),C[p]=(gd,oc):=fun h1=>by subst z0;subst Z;simp
 have gB:∀ j (h1:p+1+j<C.length) (V:j<B.length),C[p+1+j]=B[j]:=fun j h1 V=>by subst z0;subst Z;rw [qmx (by omega)];simp [show A.length+1+j - A.length=j+1 by omega]
 obtain ⟨D,z1⟩:∃ d,oc.dst=some d:=by rcases v8 with ⟨d,f,as,rfl⟩ | ⟨d,x,as,rfl⟩ <;> exact ⟨d,rfl⟩
 have w6:∀ i k,Qc C i k=false:=fun i k=>Bw pv.no
 have x7:∀ i k (z2:i<k) (o:k<C.length),i∉pre.getD k []->Jr (C[i]'(by omega)) C[k]=true/\((C[i]'(by omega)).2.touch=true->C[k].2.touch=true->(i,k)∈un):=fun i k z2 o hp=>by
  rcases Yk hd z2 (by omega) o with h | ⟨h1,V⟩
  . exact absurd h hp
  refine ⟨h1,?_⟩;rcases V with V | V
  . rw [w6] at V;cases V
  exact V
 have u7:=fun k (o:k<ops.size)=>ZO hd o (by omega);have x5:∀ i (hi:i<p),(C[i]'(by omega)).2.touch=true->i∈pre.getD p []:=fun i hi ht=>by refine qnP fun hn=>?_;exact pv.before i hi ((x7 i p hi w7 hn).2 ht (pv.touch w7))
 have x8:∀ (X:Nat->Bool),Clo pre ops X->∀ k,p<=k->k<C.length->X k=true->X p=true:=fun X hX k=>by
  induction k using Nat.strongRecOn with
  | _ k ih =>
    intro u1 o T;rcases qoK u1 with e | e
    . rw [e];exact T
    obtain ⟨j,hj,j1,j2,j3⟩:=pv.after k o e;refine ih j j2 j1 hj (hX k (by omega) T j ?_);refine qnP fun hn=>?_;obtain ⟨o1,o2⟩:=x7 j k j2 o hn;rcases j3 with j3 | ⟨j3,j4,j5⟩
    . rw [o1] at j3;cases j3
    exact j5 (o2 j3 j4)
 have y8:∀ (X:Nat->Bool),Clo pre ops X->∀ k,p<k->k<C.length->(∀ j∈pre.getD k [],X j=true)->X p=true:=fun X hX k u1 o hr=>by
  obtain ⟨j,hj,j1,j2,j3⟩:=pv.after k o u1;refine x8 X hX j j1 hj (hr j ?_);refine qnP fun hn=>?_;obtain ⟨o1,o2⟩:=x7 j k j2 o hn;rcases j3 with j3 | ⟨j3,j4,j5⟩
  . rw [o1] at j3;cases j3
  exact j5 (o2 j3 j4)
 have y1:Fx P pre A (fun _=>True) st s:=by
  refine ⟨by omega,fun i h h'=>(ZA M i h h').choose_spec.1.1,fun i h h' _=>ZA M i h h',⟨x0.hp.length,(ZV M).1,(ZV M).2⟩,fun i k z2 o h1 V hp=>?_⟩;have ek:=gA k (by omega) (by omega) o;have ei:=gA i (by omega) (by omega) (by omega);obtain ⟨o1,o2⟩:=x7 i k z2 (by omega) hp;rw [ek,ei] at o1 o2;obtain ⟨ni,oi,_⟩:=ZA M i (by omega) h1;obtain ⟨nk,ok,_⟩:=ZA M k o V
  have K:(∀ x∈s[i].ws.map (·.1),x∉s[k].foot)/\(∀ x∈s[i].ws.map (·.1),x∉s[k].ws.map (·.1))/\(∀ x∈s[k].ws.map (·.1),x∉s[i].foot):=by
   cases t1:A[i].2.touch with
   | false=>obtain ⟨e1,e2⟩:=Zy t1 oi;simp [e1,e2]
   | true =>
     cases t2:A[k].2.touch with
     | false=>obtain ⟨e1,e2⟩:=Zy t2 ok;simp [e1,e2]
     | true =>
       obtain ⟨x,y,b1,b2,b3,b4,b5⟩:=Yi z3 (w5 _ (o2 t1 t2) (by simp only;omega));have e1:(s.map EO)[i]?=some (EO s[i]):=by rw [qnn,Wd (by omega)];rfl
       have e2:(s.map EO)[k]?=some (EO s[k]):=by rw [qnn,Wd (by omega)];rfl
       rw [e1] at b1;rw [e2] at b2;cases b1;cases b2;exact ⟨fun x T=>ZI b3 T,fun x T=>ZI b4 T,fun x T=>ZI b5 T⟩
  exact Gb o1 oi.1 ok.1 K.1 K.2.1 K.2.2
 obtain ⟨x2,z8⟩:=EB M;let w8:(Nat->Bool)->Act->World->Prop:=fun X a' w'=>X p=false/\∃ g',a'.tmps.size=N/\a'.defers=a.defers/\FrOK w' g' (frX s X st) a'/\HeapOK (hpX s X st) g' w'/\Upd (hpf st.hp) g w (hpX s X st) g' w'
 let w9:(Nat->Bool)->Act->World->Prop:=fun X a' w'=>X p=true/\(∀ i (h:i<p),(C[i]'(by omega)).2.touch=true->X i=true)/\∃ r l u O g',DRun P B ⟨(D,r)::x0.fr,l⟩ u O/\Qm (List.replicate (p+1) ([],[])++u.map EO) un=true/\Q .normal (O.keep ks) /\
  a'.tmps.size=N/\a'.defers=a.defers/\FrOK w' g' (frX (s.map zn++⟨some D,r,[],[]⟩::u) X ⟨st.fr,l⟩) a'/\HeapOK (hpX (s.map zn++⟨some D,r,[],[]⟩::u) X ⟨st.fr,l⟩) g' w'/\Upd (hpf st.hp) g w (hpX (s.map zn++⟨some D,r,[],[]⟩::u) X ⟨st.fr,l⟩) g' w'
 obtain ⟨v9,w4⟩:=hs.2.2.drew
 have e1:frX s (lst (Array.replicate ops.size false)) st=get st.fr:=by
  have:frX s (lst (Array.replicate ops.size false)) st=qy (s.map Rec.F) (fun _=>false) (get st.fr):=by funext t;exact qk rfl fun k o _=>Qd _ k (by simp at o;omega)
  rw [this,qP (fun _=>rfl)]
 have e2:hpX s (lst (Array.replicate ops.size false)) st=hpf st.hp:=by
  have:hpX s (lst (Array.replicate ops.size false)) st=qy (s.map Rec.H) (fun _=>false) (hpf st.hp):=by funext t;exact qk rfl fun k o _=>Qd _ k (by simp at o;omega)
  rw [this,qP (fun _=>rfl)]
 have y9:=fun i (hi:i<ops.size)=>(zr hc).2 i (by simpa using hi) (by omega);simp only [qox] at y9;refine qpH hm (MA (pre:=pre) (fun k o=>(u7 k o).1) (fun k o=>(u7 k o).2) (Inv:=fun X a' w'=>w8 X a' w'\/w9 X a' w') ?_ ?_ ops.size _ a w.drew (by simp) (fun k o v7=>?_) ?_ ?_)
 . -- one operation
   intro X i a1 w2 next hX hi T hr y4 x4
   have x3:i<C.length:=by omega
   rcases y4 with ⟨J,g2,k1,k2,k3,k4,k5⟩ | ⟨J,u3,r,l,u,O,g2,v,x1,y2,k1,k2,k3,k4,k5⟩
   . rcases qnT i p with y5 | y5 | y5
     . -- in the first part
       obtain ⟨c1,c2⟩:=y9 i hi;have ei:=gA i y5 x3 (by omega);rw [ei] at c1 c2;refine y1.step (by omega) hX hi (by omega) trivial T hr c1 c2 k1 k3 k4 fun a' w' g' q1 q2 q3 q4 q5=>x4 _ _ (.inl ⟨?_,g',q1,q2.trans k2,q3,q4,k5.trans q5⟩);simp only [YO];rw [if_neg (by omega)];exact J
     . -- the call
       subst y5
       have z9:hpX s X st=hpf x0.hp:=by
        rw [z8];funext x;refine qk rfl fun k o L=>?_;simp only [qmq] at o;simp only [qmv] at L;cases y6:X k with
        | true=>rfl
        | false =>
          exfalso;obtain ⟨nk,ok,_⟩:=ZA M k (by omega) o
          have tk:A[k].2.touch=false:=by
           cases t:A[k].2.touch with
           | false=>rfl
           | true =>have:=hr k (x5 k (by omega) (by rw [gA k (by omega) (by omega) (by omega)];exact t));rw [y6] at this;cases this
          have L:=Zk L;rw [(Zy tk ok).1] at L;simp at L
       have look:∀ d∈zf (gd,oc),frX s X st d=get x0.fr d:=fun d a5=>by
        rw [x2];refine qk rfl fun k o L=>?_;simp only [qmq] at o;simp only [qmv] at L;cases y6:X k with
        | true=>rfl
        | false =>
          exfalso;have hn:k∉pre.getD i []:=fun hp=>by have:=hr k hp;rw [y6] at this;cases this
          obtain ⟨o1,_⟩:=x7 k i (by omega) x3 hn;rw [gP x3] at o1;simp only [Jr,qd] at o1;have v4:=y1.dst k (by omega) o;rw [ZF L] at v4;have:=o1.1.1;rw [gA k (by omega) (by omega) (by omega),<-v4] at this;simp [QX] at this;exact this a5
       obtain ⟨fr',z4⟩:=GK s X st.fr;have z5:get fr'=frX s X st:=z4;obtain ⟨c1,c2⟩:=y9 i hi;rw [gP x3] at c1 c2;have a4:=kh (fr':=fr') v8 (fun x T=>Js fun d hd=>by rw [z5];exact look d (by simp only [zf,xm,qob];exact .inl ⟨x,T,hd⟩)) y3;unfold wpOpIn;simp only [qmW hi];rw [Qr c2];have a8:Qv a1 gd=true:=(Zx k3).1 ((Yp (gd:=gd) (F:=get x0.fr) (F':=frX s X st) (fun j b e=>look j (by simp [zf,e]))).1 a7);rw [a8];simp only [qmA];rw [z9] at k4 k5;refine Ol (E:=E) c1 a4 hY (ht.trans k5.tr) (a:=a1) (g:=g2) ⟨k1,by show FrOK _ _ (get fr') _;rw [z5];exact k3,k4⟩ ?_;rintro b9 a3 w3 g3 ⟨d,r,l,v0,rfl,hK⟩ u2 a9 a6;have v3:d=D:=by rw [z1] at v0;exact (qnq v0).symm
       subst v3;obtain ⟨u,O,v,x1,y2⟩:=Zw (QQ hK);have lB:u.length=B.length:=Nr v
       have xB:∀ j,j<B.length->X (i+1+j)=false:=fun j hj=>by
        cases e:X (i+1+j) with
        | false=>rfl
        | true=>have:=x8 X hX (i+1+j) (by omega) (by omega) e;rw [T] at this;cases this
       have eF:frX (s.map zn++⟨some d,r,[],[]⟩::u) (YO X i) ⟨st.fr,l⟩=get ((d,r)::fr'):=by
        simp only [frX];rw [qmD,XW,zQ,wI,qmq,y7];simp only [qy,qnS];rw [if_pos (by simp [YO])];have a0:qy (s.map Rec.F) (YO X i) (get st.fr)=get fr':=by rw [z4];funext t;refine qk rfl fun k o _=>?_;simp only [qmq] at o;simp only [YO];rw [if_neg (by omega)]
        rw [a0,QN];funext t;rw [qk (Y:=fun _=>false) (F':=get (zb fr' (some d) r)) rfl fun k o _=>?_,qP (fun _=>rfl)]
        . rfl
        simp only [qmq] at o;simp only [YO];rw [if_neg (by omega),<-xB k (by omega)];congr 1;omega
       have eH:hpX (s.map zn++⟨some d,r,[],[]⟩::u) (YO X i) ⟨st.fr,l⟩=hpf l:=by
        funext x;simp only [hpX];rw [qk (Y:=fun _=>false) (F':=hpf l) rfl fun k o L=>?_,qP (fun _=>rfl)];simp only [qmq] at o;simp only [qmv] at L;have L:=Zk L
        have b6:i<k:=by
         rcases qmV i k with h | h
         . exact h
         exfalso
         have:((s.map zn++⟨some d,r,[],[]⟩::u)[k]).ws=[]:=by
          rcases qoK h with e | e
          . rw [qmx (by simp;omega)];simp [show k - s.length=0 by omega]
          rw [qmz (by simp;omega)];simp [zn]
         rw [this] at L;simp at L
        simp only [YO];rw [if_neg (by omega)];simp only [qmI,qmq,qm5] at o;have:=xB (k - i - 1) (by omega);rw [show i+1+(k - i - 1)=k by omega] at this;exact this
       refine x4 _ _ (.inr ⟨by simp [YO],fun j hj u4=>?_,r,l,u,O,g3,v,x1,y2,u2.1,a6.trans k2,?_,?_,?_⟩)
       . simp only [YO];rw [if_neg (by omega)];exact hr j (x5 j hj u4)
       . rw [eF];exact u2.2.1
       . rw [eH];exact u2.2.2
       rw [eH];exact k5.trans a9
     have:=y8 X hX i y5 x3 hr;rw [J] at this;cases this
   -- behind the call
   have lB:u.length=B.length:=Nr v;obtain ⟨x9,y0⟩:=EB v
   have a2:Fx P pre C (fun k=>p<k\/∃ h:k<C.length,k<p/\C[k].2.touch=false) ⟨st.fr,l⟩ (s.map zn++⟨some D,r,[],[]⟩::u):=by
    have lR:(s.map zn++⟨some D,r,[],[]⟩::u).length=C.length:=by simp;omega
    have r1:∀ k (o:k<p) (h':k<(s.map zn++⟨some D,r,[],[]⟩::u).length),(s.map zn++⟨some D,r,[],[]⟩::u)[k]=zn (s[k]'(by omega)):=fun k o h'=>by rw [qmz (by simp;omega)];simp
    have r2:∀ (h':p<(s.map zn++⟨some D,r,[],[]⟩::u).length),(s.map zn++⟨some D,r,[],[]⟩::u)[p]=⟨some D,r,[],[]⟩:=fun h'=>by rw [qmx (by simp;omega)];simp [show p - s.length=0 by omega]
    have r3:∀ j (hj:j<u.length) (h':p+1+j<(s.map zn++⟨some D,r,[],[]⟩::u).length),(s.map zn++⟨some D,r,[],[]⟩::u)[p+1+j]=u[j]:=fun j hj h'=>by rw [qmx (by simp;omega)];simp [show p+1+j - s.length=j+1 by omega]
    have wq:∀ k (o:k<=p) (h':k<(s.map zn++⟨some D,r,[],[]⟩::u).length),((s.map zn++⟨some D,r,[],[]⟩::u)[k]).ws=[]/\((s.map zn++⟨some D,r,[],[]⟩::u)[k]).foot=[]:=fun k o h'=>by
     rcases qoK o with e | e
     . subst e;rw [r2 h'];exact ⟨rfl,rfl⟩
     rw [r1 k e h'];exact ⟨rfl,rfl⟩
    have u8:∀ (Y:Nat->Bool),qy ((s.map zn).map Rec.H) Y (hpf l)=hpf l:=fun Y=>by funext x;rw [qk (Y:=fun _=>false) (F':=hpf l) rfl fun k o L=>?_,qP (fun _=>rfl)];simp only [qmv] at L;have:=Zk L;simp [zn] at this
    refine ⟨lR,fun k h h'=>?_,fun k h h' u9=>?_,⟨O.hp.length,(ZV v).1,fun R hR q hq=>?_⟩,fun x k y6 o h1 V hp=>?_⟩
    . rcases qnT k p with e | e | e
      . rw [r1 k e h',gA k e h (by omega)];exact y1.dst k (by omega) (by omega)
      . subst e;rw [r2 h',gP h];exact z1.symm
      obtain ⟨j,rfl⟩:∃ j,k=p+1+j:=⟨k - p - 1,by omega⟩;rw [r3 j (by omega) h',gB j h (by omega)];exact (ZA v j (by omega) (by omega)).choose_spec.1.1
    . rcases u9 with e | ⟨_,e,tq⟩
      . obtain ⟨j,rfl⟩:∃ j,k=p+1+j:=⟨k - p - 1,by omega⟩;obtain ⟨new,ok,z6⟩:=ZA v j (by omega) (by omega)
        have eF:qy ((s.map zn++⟨some D,r,[],[]⟩::u).map Rec.F) (fun k=>decide (k<p+1+j)) (get st.fr)=qy (u.map Rec.F) (fun k=>decide (k<j)) (get ((D,r)::x0.fr)):=by
         rw [qmD,XW,zQ,wI,qmq,y7];simp only [qy,qnS];rw [if_pos (by simp;omega)];have a0:qy (s.map Rec.F) (fun k=>decide (k<p+1+j)) (get st.fr)=get x0.fr:=by rw [x2];funext t;refine qk rfl fun k o _=>?_;simp only [qmq] at o;simp;omega
         rw [a0,QN];have a1:(fun k=>decide (p+(k+1)<p+1+j))=fun k=>decide (k<j):=by funext k;congr 1;apply propext;omega
         rw [a1];rfl
        have eH:qy ((s.map zn++⟨some D,r,[],[]⟩::u).map Rec.H) (fun k=>decide (k<p+1+j)) (hpf l)=qy (u.map Rec.H) (fun k=>decide (k<j)) (hpf l):=by
         rw [qmD,zQ,u8,wI,qmq,qmq,y7];simp only [qy,qnS];rw [if_pos (by simp;omega),Jk];have a1:(fun k=>decide (p+(k+1)<p+1+j))=fun k=>decide (k<j):=by funext k;congr 1;apply propext;omega
         rw [a1];rfl
        refine ⟨new,?_,?_⟩
        . rw [eF,eH,r3 j (by omega) h',gB j h (by omega)];exact ok
        rw [eH];exact z6
      obtain ⟨new,ok,z6⟩:=ZA M k (by omega) (by omega);have ek:=gA k e h (by omega);rw [ek] at tq;have eF:qy ((s.map zn++⟨some D,r,[],[]⟩::u).map Rec.F) (fun j=>decide (j<k)) (get st.fr)=qy (s.map Rec.F) (fun j=>decide (j<k)) (get st.fr):=by rw [qmD,XW,zQ];funext t;rw [qk (Y:=fun _=>false) (F':=qy (s.map Rec.F) (fun j=>decide (j<k)) (get st.fr)) rfl fun j hj _=>?_,qP (fun _=>rfl)];simp;omega
      have eH:qy ((s.map zn++⟨some D,r,[],[]⟩::u).map Rec.H) (fun j=>decide (j<k)) (hpf l)=hpf l:=by rw [qmD,zQ,u8];funext t;rw [qk (Y:=fun _=>false) (F':=hpf l) rfl fun j hj _=>?_,qP (fun _=>rfl)];simp;omega
      obtain ⟨q1,q2⟩:=Zy tq ok;refine ⟨l.length,?_,by rw [eH];simp [hpf]⟩;rw [eF,eH,r1 k e h',ek];refine ⟨ok.1,?_⟩;rcases ok.2 with ⟨h1,V,h3⟩ | ⟨h1,V,h3,h4⟩
      . refine .inl ⟨h1,?_,?_⟩
        . have u0:∀ F H,A[k].2.foot F H=[]:=fun F H=>WP tq F H;rw [q1] at V;exact ZX (ws:=[]) V (fun _ _=>rfl) (fun id v6=>by rw [u0] at v6;cases v6) (fun h=>by simp at h)
        show []=_;exact (WP tq _ _).symm
      exact .inr ⟨h1,V,rfl,rfl⟩
    . rw [xm] at hR;rcases hR with hR | hR
      . obtain ⟨R0,_,rfl⟩:=gm.1 hR;simp [zn] at hq
      rcases sg.1 hR with rfl | hR
      . simp at hq
      exact (ZV v).2 R hR q hq
    obtain ⟨o1,o2⟩:=x7 x k y6 o hp
    have dk:((s.map zn++⟨some D,r,[],[]⟩::u)[k]).dst=C[k].2.dst:=by
     rcases qnT k p with e | e | e
     . rw [r1 k e V,gA k e o (by omega)];exact y1.dst k (by omega) (by omega)
     . subst e;rw [r2 V,gP o];exact z1.symm
     obtain ⟨j,rfl⟩:∃ j,k=p+1+j:=⟨k - p - 1,by omega⟩;rw [r3 j (by omega) V,gB j o (by omega)];exact (ZA v j (by omega) (by omega)).choose_spec.1.1
    have dx:((s.map zn++⟨some D,r,[],[]⟩::u)[x]).dst=(C[x]'(by omega)).2.dst:=by
     rcases qnT x p with e | e | e
     . rw [r1 x e h1,gA x e (by omega) (by omega)];exact y1.dst x (by omega) (by omega)
     . subst e;rw [r2 h1,gP (by omega)];exact z1.symm
     obtain ⟨j,rfl⟩:∃ j,x=p+1+j:=⟨x - p - 1,by omega⟩;rw [r3 j (by omega) h1,gB j (by omega) (by omega)];exact (ZA v j (by omega) (by omega)).choose_spec.1.1
    by_cases e:x<=p
    . obtain ⟨v1,v2⟩:=wq x e h1;refine Gb o1 dx dk ?_ ?_ ?_
      . rw [v1];simp
      . rw [v1];simp
      rw [v2];simp
    obtain ⟨j,rfl⟩:∃ j,x=p+1+j:=⟨x - p - 1,by omega⟩;obtain ⟨m,rfl⟩:∃ m,k=p+1+m:=⟨k - p - 1,by omega⟩;have ex:=r3 j (by omega) h1;have z7:=r3 m (by omega) V;obtain ⟨nx,ox,_⟩:=ZA v j (by omega) (by omega);obtain ⟨nk,ok,_⟩:=ZA v m (by omega) (by omega);have gx:=gB j (by omega) (by omega);have gk:=gB m o (by omega);rw [gx,gk] at o2
    have K:(∀ x∈u[j].ws.map (·.1),x∉u[m].foot)/\(∀ x∈u[j].ws.map (·.1),x∉u[m].ws.map (·.1))/\(∀ x∈u[m].ws.map (·.1),x∉u[j].foot):=by
     cases t1:B[j].2.touch with
     | false=>obtain ⟨e1,e2⟩:=Zy t1 ox;simp [e1,e2]
     | true =>
       cases t2:B[m].2.touch with
       | false=>obtain ⟨e1,e2⟩:=Zy t2 ok;simp [e1,e2]
       | true =>
         obtain ⟨y,z,b1,b2,b3,b4,b5⟩:=Yi x1 (o2 t1 t2);have e1:(List.replicate (p+1) (([],[]):List Nat×List Nat)++u.map EO)[p+1+j]?=some (EO u[j]):=by rw [qmy (by simp)];simp [show j<u.length by omega]
         have e2:(List.replicate (p+1) (([],[]):List Nat×List Nat)++u.map EO)[p+1+m]?=some (EO u[m]):=by rw [qmy (by simp)];simp [show m<u.length by omega]
         rw [e1] at b1;rw [e2] at b2;cases b1;cases b2;exact ⟨fun x T=>ZI b3 T,fun x T=>ZI b4 T,fun x T=>ZI b5 T⟩
    refine Gb o1 dx dk ?_ ?_ ?_
    . rw [ex,z7];exact K.1
    . rw [ex,z7];exact K.2.1
    rw [ex,z7];exact K.2.2
   obtain ⟨c1,c2⟩:=y9 i hi;have b7:i≠p:=fun e=>by rw [e] at T;rw [J] at T;cases T
   refine a2.step (by omega) hX hi x3 ?_ T hr c1 c2 k1 k3 k4 fun a' w' g' q1 q2 q3 q4 q5=>x4 _ _ (.inr ⟨?_,?_,r,l,u,O,g',v,x1,y2,q1,q2.trans k2,q3,q4,k5.trans q5⟩)
   . rcases qmV i p with e | e
     . refine .inr ⟨x3,e,?_⟩;cases t:C[i].2.touch with
       | false=>rfl
       | true=>have:=u3 i e t;rw [T] at this;cases this
     exact .inl (by omega)
   . simp only [YO];split
     . rfl
     exact J
   intro j hj u4;simp only [YO];split
   . rfl
   exact u3 j hj u4
 . -- the end
   intro X a1 w2 x6 y4;rcases y4 with ⟨J,_⟩ | ⟨J,u3,r,l,u,O,g2,v,x1,y2,k1,k2,k3,k4,k5⟩
   . rw [x6 p (by omega)] at J;cases J
   have lB:u.length=B.length:=Nr v;obtain ⟨x9,y0⟩:=EB v
   have u5:frX (s.map zn++⟨some D,r,[],[]⟩::u) X ⟨st.fr,l⟩=get O.fr:=by
    simp only [frX];rw [qmD,XW,zQ,wI,qmq,y7];simp only [qy,qnS];rw [if_pos J];have a0:qy (s.map Rec.F) X (get st.fr)=get x0.fr:=by rw [x2];funext t;refine qk rfl fun k o _=>?_;simp only [qmq] at o;exact x6 k (by omega)
    rw [a0,QN,x9];funext t;refine qk rfl fun k o _=>?_;simp only [qmq] at o;exact x6 _ (by omega)
   have u6:hpX (s.map zn++⟨some D,r,[],[]⟩::u) X ⟨st.fr,l⟩=hpf O.hp:=by
    simp only [hpX];rw [qmD,zQ,wI,qmq,qmq,y7];simp only [qy,qnS];rw [if_pos J,Jk];have a0:qy ((s.map zn).map Rec.H) X (hpf l)=hpf l:=by funext x;rw [qk (Y:=fun _=>false) (F':=hpf l) rfl fun k o L=>?_,qP (fun _=>rfl)];simp only [qmv] at L;have:=Zk L;simp [zn] at this
    rw [a0,y0];funext t;refine qk rfl fun k o _=>?_;simp only [qmq] at o;exact x6 _ (by omega)
   rw [u5] at k3;rw [u6] at k4 k5;exact hl _ _ a1 w2 g2 y2 (Sim.keep (st:=O) ⟨k1,k3,k4⟩ ks) k5 (.nil k2)
 . rw [Qd _ k o] at v7;cases v7
 . have:∀ m,unl (lst (Array.replicate ops.size false)) m<=m:=fun m=>by
    induction m with
    | zero=>exact Qs _
    | succ m ih=>simp only [unl];split <;> omega
   exact this _
 refine .inl ⟨Qd _ p (by omega),g,hs.1,rfl,?_,?_,?_⟩
 . rw [e1];exact hs.2.1.mono w4.tr
 . rw [e2];exact v9
 rw [e2];exact w4
theorem Oc (Y:YS P E w1 g1) {g:List Grp} (gsA gsB:List Grp) {u:List (Nat×Nat)} (unA:List (Nat×Nat)) {k:List Nat} {w:St} (p:Nat) (T:Tr) (v:Option (Nat×Bool)) (o:AOp)
 (l:p=((je g).take p).length) (j:je g=(je g).take p++(v,o)::(je g).drop (p+1)) (z:Lv (je g) u p=true) (A:grp ((je g).take p)=gsA) (a:grp ((je g).drop (p+1))=gsB) (n:(u.all fun q=>decide (p<=q.2) || unA.contains q)=true) (r:List.replicate (p+1) ([],[])=T) (c:(∃ d f as,o = .call d f as)\/∃ d x as,o = .callv d x as)
 (h:zu P gsA w [] fun s m=>Qm m unA=true/\Ir v (get s.fr)/\US P E w1 g1 o s fun b=>zu P gsB b T fun y m=>Qm m u=true/\Q .normal (y.keep k)) :
 Il P w1 g1 (.drw g u k) w Q:=by
 subst r;refine Tu Y (gsA:=gsA) (gsB:=gsB) (unA:=unA) ((je g).take p) ((je g).drop (p+1)) v o j (by rw [<-l];exact z) A a (fun q e t=>?_) c (by rw [<-l];exact h);rw [<-l] at t;have:=LL.1 n q e;simp only [qm2,qmE,qmX] at this;rcases this with h | h
 . omega
 exact h
end
section
variable {P:Program} {E:HE} {N:Nat} {ro:Option Nat} {n:Nat}
theorem Oi {X:World} {O:G} {f:FuncId} {z:Func} {c:Code} {A:AC} {R:RC} {x:List AV} (hf:P.funcs[f]?=some z) (J:z.body=some c) (hc:NI P z.ntmps c A)
 (hr:jg P z.results.toList=some R) (hl:x.length<=z.ntmps) (h:Il P X O A { fr:=Jx 0 x,hp:=hp } (bm R K)):NH P X O f x hp K:=by
 intro ro n w g vs k m l y
 have Y:CallsIn (W none) n P f vs w fun e u=>∃ v r p j,e = .returned v/\K r p/\Rep u j false r v/\HeapOK (hpf p) j u/\Upd (hpf hp) g w (hpf p) j u:=by
  refine qph hf J trivial (h _ _ _ _ g _ _ _ hc (.inl rfl) m ?_ ?_) rfl
  . refine ⟨by simp [l];omega,fun t=>?_,k⟩;show Rep w g false (get (Jx 0 x) t) _;rw [Vx];simp only [qmQ,qmA,qoL];by_cases b:t<x.length
    . have o:x.getD t .any=x[t]:=by simp [b]
      rw [o];have:=y t b;simp only [qmB] at this ⊢;rw [qmN (by omega)];exact this
    have o:x.getD t .any = .any:=by simp [qoA b]
    rw [o];exact .any _ _
  intro e s a u j q Q hu hd;obtain ⟨V,d,L,M⟩:=hd;simp only [qm3] at d;have fin:(∃ x,Up (hpf s.hp) s.fr R x/\K (NQ x) s.hp)->LeavesInM (W none) n P z a.tmps (fun e u=>∃ v r p j,e = .returned v/\K r p/\Rep u j false r v/\HeapOK (hpf p) j u/\Upd (hpf hp) g w (hpf p) j u) a.defers .returning u:=fun ⟨ys,hy,C⟩=>by rw [d];obtain ⟨T,k2,k3⟩:=YA V u L M Q.2.2 hu;refine jm V u L (fun D Z=>(M D Z).2.1) ?_;obtain ⟨v,j1,j2⟩:=JY (P:=P) T (fun i=>(Q.2.1 i).mono k3) hr hy;exact ⟨v,j1,v,_,_,j,rfl,C,j2,T,k2⟩
  cases e with
  | normal=>exact fin q
  | ret=>exact fin q
  | _=>exact q.elim
 exact Y
end
def p0P (x:AV) (y n:Prop):Prop:=match x with
 | .v _=>y
 | .sl .. => y
 | .ptr .. => y
 | _=>n
theorem sr {x:AV} {y n:Prop} (h:p0P x y n):(x.isPure0=true/\y)\/n:=by unfold p0P at h;split at h <;> first | exact .inl ⟨rfl,h⟩ | exact .inr h
def Ts (c:List AV) (y n:Prop):Prop:=List.rec (motive:=fun _=>Prop) y (fun a _ i=>p0P a i n) c
theorem Vv:∀ {c:List AV} {y n:Prop},Ts c y n->(c.all AV.isPure0=true/\y)\/n
 | [],y,n,h => .inl ⟨rfl,h⟩
 | a::c,y,n,h=>by
   rcases sr (show p0P a (Ts c y n) n from h) with ⟨j,u⟩ | u
   . rcases Vv u with ⟨z,v⟩ | v
     . exact .inl ⟨by rw [qmC,j,z];rfl,v⟩
     exact .inr v
   exact .inr u
def pcP (x:AV) (y n:Prop):Prop:=match x with
 | .v _=>y
 | .sl .. => y
 | .ptr .. => y
 | x=>Bool.rec (motive:=fun _=>Prop) n y (AV.isPure x)
theorem ss {x:AV} {y n:Prop} (h:pcP x y n):(x.isPure=true/\y)\/n:=by
 unfold pcP at h;split at h
 . exact .inl ⟨rfl,h⟩
 . exact .inl ⟨rfl,h⟩
 . exact .inl ⟨rfl,h⟩
 cases e:AV.isPure x with
 | true=>rw [e] at h;exact .inl ⟨rfl,h⟩
 | false=>rw [e] at h;exact .inr h
def Mx (c:List AV) (y n:Prop):Prop:=List.rec (motive:=fun _=>Prop) y (fun a _ i=>pcP a i n) c
theorem XF:∀ {c:List AV} {y n:Prop},Mx c y n->(c.all AV.isPure=true/\y)\/n
 | [],y,n,h => .inl ⟨rfl,h⟩
 | a::c,y,n,h=>by
   rcases ss (show pcP a (Mx c y n) n from h) with ⟨j,u⟩ | u
   . rcases XF u with ⟨z,v⟩ | v
     . exact .inl ⟨by rw [qmC,j,z];rfl,v⟩
     exact .inr v
   exact .inr u
def qfQ (h:List HObj) (id:Nat) (k:List AV->Prop) (n:Prop):Prop:=XS h id fun o=>match o with
 | .cells c=>k c
 | _=>n
theorem Ot {id:Nat} {n:Prop} (h:qfQ p id k n):(∃ c,hpf p id=some (.cells c)/\k c)\/n:=by
 obtain ⟨o,v,u⟩:=zW h;split at u
 . exact .inl ⟨_,v,u⟩
 exact .inr u
def EK (h:List HObj) (x:AV) (k:AV->List Nat->Prop) (n:Prop):Prop:=match qH (hpf h) x with
 | some (y,ids)=>faP 6 y fun y=>fmP fnP ids fun ids=>k y ids
 | none=>n
theorem Jm {x:AV} {k:AV->List Nat->Prop} {n:Prop} (h:EK p x k n):(∃ y ids,qH (hpf p) x=some (y,ids)/\k y ids)\/n:=by
 unfold EK at h;split at h
 . rename_i y ids e;rw [QR,QI qC] at h;exact .inl ⟨y,ids,e,h⟩
 exact .inr h
def wo (h:List HObj) (x:AV) (k:AV->List Nat->Prop) (n:Prop):Prop:=match x with
 | .v y=>k (.v y) []
 | .sl f m C=>k (.sl f m C) []
 | .ptr C o=>k (.ptr C o) []
 | .ms id off m s=>qfQ h id (fun C=>Mx C (NA C off (Nat.mul m s) fun l=>k (.sl false m l) [id]) (EK h (.ms id off m s) k n)) n
 | .mc id off m c s=>qfQ h id (fun C=>Mx C (NA C off (Nat.mul m s) fun l=>k (.sl false m l) [id]) (EK h (.mc id off m c s) k n)) n
 | .ref id off=>qfQ h id (fun C=>Mx C (k (.ptr C off) [id]) (EK h (.ref id off) k n)) n
 | .agg C=>Ts C (k (.agg C) []) (EK h (.agg C) k n)
 | .tup C=>Ts C (k (.tup C) []) (EK h (.tup C) k n)
 | .fn f u b=>Ts u (Ts b (k (.fn f u b) []) (EK h (.fn f u b) k n)) (EK h (.fn f u b) k n)
 | _=>n
theorem fw {p:Hp} {x:AV} (h:x.isPure0=true):zA p x=some (x,[]):=by cases x <;> first | rfl | cases h
theorem Eo {p:Hp}:∀ {c:List AV},c.all AV.isPure0=true->zY p c=some (c,[])
 | [],_=>rfl
 | a::c,h=>by rw [qmC,qd] at h;simp only [zY,fw h.1,Eo h.2,qmF]
theorem fy {p:Hp} {x:AV} (h:x.isPure0=true):qR p x=some (x,[]):=by cases x <;> first | rfl | cases h
theorem Ep {p:Hp}:∀ {c:List AV},c.all AV.isPure0=true->zC p c=some (c,[])
 | [],_=>rfl
 | a::c,h=>by rw [qmC,qd] at h;simp only [zC,fy h.1,Ep h.2,qmF]
theorem PF {x:AV} {k:AV->List Nat->Prop} {n:Prop} (h:wo p x k n):(∃ y ids,qH (hpf p) x=some (y,ids)/\k y ids)\/n:=by
 unfold wo at h;split at h
 . exact .inl ⟨_,_,rfl,h⟩
 . exact .inl ⟨_,_,rfl,h⟩
 . exact .inl ⟨_,_,rfl,h⟩
 . rcases Ot h with ⟨c,j,u⟩ | u
   . rcases XF u with ⟨z,v⟩ | v
     . obtain ⟨o,q⟩:=Jo v;refine .inl ⟨_,_,?_,q⟩;simp only [qH,qR]
       first | exact JT j ⟨o,z⟩ | exact pur0_mc j ⟨o,z⟩
     exact Jm v
   exact .inr u
 . rcases Ot h with ⟨c,j,u⟩ | u
   . rcases XF u with ⟨z,v⟩ | v
     . obtain ⟨o,q⟩:=Jo v;refine .inl ⟨_,_,?_,q⟩;simp only [qH,qR]
       first | exact JT j ⟨o,z⟩ | exact pur0_mc j ⟨o,z⟩
     exact Jm v
   exact .inr u
 . rcases Ot h with ⟨c,j,u⟩ | u
   . rcases XF u with ⟨z,v⟩ | v
     . refine .inl ⟨_,_,?_,v⟩;simp only [qH,qR];exact SF j z
     exact Jm v
   exact .inr u
 . rcases Vv h with ⟨j,u⟩ | u
   . exact .inl ⟨_,_,by simp only [qH,Ep j,qm6],u⟩
   exact Jm u
 . rcases Vv h with ⟨j,u⟩ | u
   . exact .inl ⟨_,_,by simp only [qH,Ep j,qm6],u⟩
   exact Jm u
 . rcases Vv h with ⟨j,u⟩ | u
   . rcases Vv u with ⟨z,v⟩ | v
     . exact .inl ⟨_,_,by simp only [qH,qR,Eo j,Eo z,qmF],v⟩
     exact Jm v
   exact Jm u
 exact .inr h
def qf3 (a b:List Nat) (k:List Nat->Prop):Prop:=match a with
 | []=>k b
 | a=>flP (a++b) k
theorem uk (a b:List Nat) (k:List Nat->Prop):qf3 a b k=k (a++b):=by
 unfold qf3;split
 . rfl
 exact zM _ _
def WN (h:List HObj) (X:List AV) (k:List AV->List Nat->Prop) (n:Prop):Prop :=
 List.rec (motive:=fun _=>(List AV->List Nat->Prop)->Prop) (fun k=>k [] []) (fun x _ i k=>wo h x (fun y a=>i fun Y b=>qf3 a b fun ids=>k (y::Y) ids) n) X k
theorem QM {hp:List HObj} {n:Prop}:∀ {xs:List AV} {k:List AV->List Nat->Prop},WN hp xs k n->(∃ Y ids,qj (hpf hp) xs=some (Y,ids)/\k Y ids)\/n
 | [],k,h => .inl ⟨[],[],rfl,h⟩
 | x::xs,k,h=>by
   rcases PF (show wo hp x (fun y a=>WN hp xs (fun Y b=>qf3 a b fun ids=>k (y::Y) ids) n) n from h) with ⟨y,a,j,v⟩ | v
   . rcases QM v with ⟨Y,b,z,u⟩ | u
     . rw [uk] at u;exact .inl ⟨_,_,by simp only [qj,j,z],u⟩
     exact .inr u
   exact .inr v
abbrev KE:=Exit->FrL->List HObj->Prop
abbrev CT:=Hd->KE->K1
def thE (k:K1) (K:KE):KE:=fun e=>match e with
 | .normal=>k
 | e=>K e
def pz (id:Nat) (K:KE):KE:=fun e=>match e with
 | .exit i=>Bool.rec (motive:=fun _=>K1) (K (.exit i)) (K .normal) (Nat.beq i id)
 | e=>K e
def ngE (K:KE):KE:=fun e=>match e with
 | .goto _=>fun _ _=>False
 | e=>K e
def jJ (k:List Nat) (c:K1):K1:=fun f h=>YE k f fun f=>c f h
def eT:CT:=fun _ K=>K .normal
def qkE (G:X1) (k:List Nat):CT:=fun H K=>G H (jJ k (K .normal))
def qhd (D:D1) (u:List (Nat×Nat)) (k:List Nat):CT:=fun H K f h=>D H (fun f h t=>okP (Qm t u) (jJ k (K .normal) f h)) f h []
def qlq (X Y:CT):CT:=fun H K=>X H (thE (Y H K) K)
def pK (c:Op1) (X Y:CT):CT:=fun H K f h=>c f fun v=>match v with
 | .v (.bool t)=>Bool.rec (motive:=fun _=>Prop) (Y H K f h) (X H K f h) t
 | _=>False
def qlk (id:Nat) (X:CT):CT:=fun H K=>X H (pz id K)
def uT (F:K1->K1) (n:Nat):K1:=Nat.rec (motive:=fun _=>K1) (fun _ _=>False) (fun _ i=>F i) n
def eG (X:CT):CT:=fun H K=>uT (fun i=>X H (thE i K)) 1000000
def qhf (id:Nat):CT:=fun _ K=>K (.exit id)
def qlo:CT:=fun _ K=>K .ret
def eO (X:CT):CT:=fun H K=>X H (ngE K)
def Gg:CT:=fun _ _ _ _=>False
def qgh (h:List HObj) (m:Nat) (k:Prop):Prop:=XS h m fun o=>match o with
 | .lp .ready M=>okP (Nat.beq M (m+1)) k
 | _=>False
theorem BV {k:Prop} (h:qgh p m k):hpf p m=some (.lp .ready (m+1))/\k:=by
 obtain ⟨o,v,u⟩:=zW h;split at u
 . obtain ⟨j,z⟩:=qt u;rw [<-qe j];exact ⟨v,z⟩
 exact u.elim
def eq (h:List HObj) (m:Nat) (k:Prop):Prop:=XS h m fun o=>match o with
 | .lp .busy M=>okP (Nat.beq M (m+1)) k
 | _=>False
theorem pB {k:Prop} (h:eq p m k):hpf p m=some (.lp .busy (m+1))/\k:=by
 obtain ⟨o,v,u⟩:=zW h;split at u
 . obtain ⟨j,z⟩:=qt u;rw [<-qe j];exact ⟨v,z⟩
 exact u.elim
def qkW (m:Nat) (k:AV->List HObj->Prop):KE:=fun e _ h=>match e with
 | .normal=>eq h m (jf h m (.lp .ready (m+1)) fun h=>k (B true) h)
 | .ret=>eq h m (jf h m (.lp (.done none) (m+1)) fun h=>k (B false) h)
 | .exit e=>eq h m (jf h m (.lp (.done (some e)) (m+1)) fun h=>k (B false) h)
 | _=>False
def qkU (m:Nat) (f:FrL) (k:List Nat) (K:KE) (h:List HObj):Prop:=XS h m fun o=>match o with
 | .lp .ready _=>jf h m .gone fun h=>YE k f fun f=>K .normal f h
 | .lp (.done none) _=>jf h m .gone fun h=>K .ret f h
 | .lp (.done (some e)) _=>jf h m .gone fun h=>K (.exit e) f h
 | _=>False
def qlZ (Y:CT) (H:Hd) (m:Nat) (k:AV->List HObj->Prop):KE:=fun e f h=>match e with
 | .normal=>qgh h m (jf h m (.lp .busy (m+1)) fun h=>Y H (qkW m k) f h)
 | _=>False
def qkX (p:List Nat) (X Y:CT) (H:Hd) (f:FrL) (m:Nat):List AV->List HObj->(AV->List HObj->Prop)->Prop:=fun x h k =>
 qgh h m (okP (Nat.beq x.length p.length) (flP (putPs p x f) fun f=>X H (qlZ Y H m k) f h))
def qic (h:List Nat):AOp->Bool
 | .callv .. => true
 | .call _ f _=>h.contains f
 | _=>false
def gdP (g:Option (Nat×Bool)) (f:FrL) (y n:Prop):Prop:=match g with
 | none=>y
 | some (j,b)=>NM f j fun v=>match v with
   | .v (.bool t)=>Bool.rec (motive:=fun _=>Prop) n y (Bool.rec (motive:=fun _=>Bool) (!b) b t)
   | _=>n
theorem ij {g:Option (Nat×Bool)} {y n:Prop} (h:gdP g f y n):(Ir g (get f)/\y)\/n:=by
 match g with
 | none=>exact .inl ⟨trivial,h⟩
 | some (j,b) =>
   unfold gdP at h;simp only [zV] at h;split at h
   . rename_i t u;cases t <;> cases b <;> first | exact .inr h | exact .inl ⟨u,h⟩
   exact .inr h
def qln (D q g:D1) (d:Option (Nat×Bool)) (X:X1) (n o:List (Nat×Nat)) (t:Tr) (k:List Nat):CT:=fun H K z y =>
 D H (fun f h T=>gdP d f (okP (Qm T n) (X H (fun r p=>q H (fun u v j=>okP (Qm j o) (jJ k (K .normal) u v)) r p t) f h)) (qhd g o k H K z y)) z y []
def RG (P:Program):AV->List HObj->(List AV->List HObj->(AV->List HObj->Prop)->Prop)->(List HObj->Prop)->Prop:=fun v hp H u =>
 ∃ f c,v = .fn (.func f) [] c/\jB P f=true/\∀ (w:World) (g:G),(∀ xs h K,H xs h K->bn P w g hp.length xs h K)->NH P w g f (.yl hp.length::c) (hp++[.lp .ready (hp.length+1),.gone]) fun _ h=>u h
theorem Ez {P:Program} (Y):RS P ⟨Y,RG P⟩:=fun _ _ _ _ h=>h
theorem fF {v:AV} {H u:List AV->List HObj->(AV->List HObj->Prop)->Prop} {j:List HObj->Prop} (b:∀ x p K,H x p K->u x p K) (h:RG P v p H j):RG P v p u j:=by obtain ⟨f,c,z,y,o⟩:=h;exact ⟨f,c,z,y,fun w g q=>o w g fun x m r s=>q _ _ _ (b _ _ _ s)⟩
section
variable {P:Program} {Y:Nat->List AV->List HObj->(AV->List HObj->Prop)->Prop} {H:Hd}
def AG (P:Program) (Y:Nat->List AV->List HObj->(AV->List HObj->Prop)->Prop) (a:AC) (s:St) (Q:Exit->St->Prop):Prop:=∀ w g,YS P ⟨Y,RG P⟩ w g->Il P w g a s Q
theorem Mv {a:AC} {s:St} {u:Exit->St->Prop} (k:∀ e s,Q e s->u e s) (h:AG P Y a s Q):AG P Y a s u:=fun w g v=>ME k (h w g v)
end
theorem RB {Y} {g:G} (v:YS P ⟨Y,RG P⟩ w g) {f:FuncId} {n:Func} {a:AC} {t:List Nat} {r:RC} {x:List AV} (j:P.funcs[f]?=some n) (u:qg P n t=some a)
 (z:jg P n.results.toList=some r) (l:x.length<=n.ntmps) (h:AG P Y a { fr:=Jx 0 x,hp:=hp } (bm r K)):NH P w g f x hp K:=by
 simp only [qg,RL] at u;obtain ⟨c,b,rfl⟩:=u;exact Oi j b (Qu (zK c)) z l (h w g v)
theorem qem {g:G}:YS P ⟨noY,RG P⟩ w g:=fun _ _ _ _ h=>h.elim
def BW:RC->FrL->List HObj->(List AV->Prop)->Prop
 | [],_,_,k=>k []
 | (t,none)::r,f,h,k=>NM f t fun x=>BW r f h fun X=>k (x::X)
 | (a,some (agg,s))::r,f,h,k=>NM f a fun v=>match v with
   | .ptr c off=>ldP agg s off c fun x=>BW r f h fun X=>k (x::X)
   | .ref id off=>VC h id fun c=>ldP agg s off c fun x=>BW r f h fun X=>k (x::X)
   | _=>False
def qgp (xs:List AV) (k:AV->Prop):Prop:=match xs with
 | [x]=>k x
 | xs=>k (.tup xs)
theorem lu (X:List AV) (k:AV->Prop):qgp X k=k (NQ X):=by
 match X with
 | []=>rfl
 | [x]=>rfl
 | x::y::r=>rfl
def qgi (r:RC) (k:AV->List HObj->Prop):KE:=fun e f h=>match e with
 | .normal=>BW r f h fun X=>qgp X fun x=>k x h
 | .ret=>BW r f h fun X=>qgp X fun x=>k x h
 | _=>False
def qfC (x:List AV) (k:FrL->Prop):Prop:=List.rec (motive:=fun _=>Nat->(FrL->Prop)->Prop) (fun _ k=>k []) (fun a _ i n k=>fnP n fun n=>i (Nat.succ n) fun t=>k ((n,a)::t)) x 0 k
theorem Rx:∀ (x:List AV) (n:Nat) (k:FrL->Prop),(List.rec (motive:=fun _=>Nat->(FrL->Prop)->Prop) (fun _ k=>k []) (fun a _ i n k=>fnP n fun n=>i (Nat.succ n) fun t=>k ((n,a)::t)) x n k:Prop)=k (Jx n x)
 | [],n,k=>rfl
 | a::x,n,k=>by show fnP n (fun n=>(List.rec (motive:=fun _=>Nat->(FrL->Prop)->Prop) (fun _ k=>k []) (fun a _ i n k=>fnP n fun n=>i (Nat.succ n) fun t=>k ((n,a)::t)) x (Nat.succ n) fun t=>k ((n,a)::t):Prop))=_;rw [qC,Rx x];rfl
theorem MB (x:List AV) (k:FrL->Prop):qfC x k=k (Jx 0 x):=Rx x 0 k
inductive Kn where
 | code
 | pure (g:List AV->Option AV)
 | law (w:List AV->List HObj->(AV->List HObj->Prop)->Prop)
 | mix (g:List AV->Option PR)
def Kn.isCode:Kn->Bool
 | .code=>true
 | .mix _=>true
 | _=>false
structure Cd where
 f:FuncId
 md:Bool
 n:Nat
 rc:RC
 ct:CT
 kn:Kn
abbrev TBL:=FuncId->Cd
def tNo:Cd:=⟨0,false,0,[],Gg,.law fun _ _ _=>False⟩
def qO (m:Nat) (l r:TBL):TBL:=fun f=>cond (Nat.blt f m) (l f) (r f)
def lnP {α:Type} (l:List α) (k:Nat->Prop):Prop:=List.rec (motive:=fun _=>Nat->(Nat->Prop)->Prop) (fun n k=>k n) (fun _ _ i n k=>i (Nat.succ n) k) l 0 k
theorem Bm {α:Type}:∀ (l:List α) (n:Nat) (k:Nat->Prop),(List.rec (motive:=fun _=>Nat->(Nat->Prop)->Prop) (fun n k=>k n) (fun _ _ i n k=>i (Nat.succ n) k) l n k:Prop)=k (n+l.length)
 | [],n,k=>rfl
 | a::l,n,k=>by show (List.rec (motive:=fun _=>Nat->(Nat->Prop)->Prop) (fun n k=>k n) (fun _ _ i n k=>i (Nat.succ n) k) l (Nat.succ n) k:Prop)=_;rw [Bm l];congr 1;simp;omega
theorem Xp (l:List α) (k:Nat->Prop):lnP l k=k l.length:=by have:=Bm l 0 k;rw [qnt] at this;exact this
def Mi (H:Hd) (c:Cd) (x:List AV) (h:List HObj) (k:AV->List HObj->Prop):Prop:=lnP x fun n=>okP (Nat.ble n c.n) (qfC x fun f=>c.ct H (qgi c.rc k) f h)
theorem fJ (H:Hd) (c:Cd) (x:List AV) (h:List HObj) (k:AV->List HObj->Prop):Mi H c x h k=okP (Nat.ble x.length c.n) (qfC x fun f=>c.ct H (qgi c.rc k) f h):=Xp _ _
def ID (c:List AV) (y n:Prop):Prop:=List.rec (motive:=fun _=>Prop) y (fun a _ i=>Bool.rec (motive:=fun _=>Prop) n i (AV.isPC a)) c
theorem Rn:∀ {c:List AV} {y n:Prop},ID c y n->(c.all AV.isPC=true/\y)\/n
 | [],y,n,h => .inl ⟨rfl,h⟩
 | a::c,y,n,h=>by
   have h:Bool.rec (motive:=fun _=>Prop) n (ID c y n) (AV.isPC a):=h;cases e:AV.isPC a with
   | false=>rw [e] at h;exact .inr h
   | true =>
     rw [e] at h;rcases Rn (show ID c y n from h) with ⟨v,u⟩ | u
     . exact .inl ⟨by rw [qmC,e,v];rfl,u⟩
     exact .inr u
def FL (E:List (Value×Nat×AV)) (k:List (Value×Nat×AV)->Prop) (n:Prop):Prop:=List.rec (motive:=fun _=>(List (Value×Nat×AV)->Prop)->Prop) (fun k=>k []) (fun e _ i k=>Prod.rec (motive:=fun _=>Prop) (fun K b=>Prod.rec (motive:=fun _=>Prop) (fun _ x=>Bool.rec (motive:=fun _=>Prop) n (i fun t=>k ((K,0,x)::t)) (AV.isPC x)) b) e) E k
theorem RQ:∀ {E:List (Value×Nat×AV)} {k:List (Value×Nat×AV)->Prop} {n:Prop},FL E k n->((E.all fun e=>AV.isPC e.2.2)=true/\k (E.map fun e=>(e.1,0,e.2.2)))\/n
 | [],k,n,h => .inl ⟨rfl,h⟩
 | (K,b,x)::E,k,n,h=>by
   have h:Bool.rec (motive:=fun _=>Prop) n (FL E (fun t=>k ((K,0,x)::t)) n) (AV.isPC x):=h;cases e:AV.isPC x with
   | false=>rw [e] at h;exact .inr h
   | true =>
     rw [e] at h;rcases RQ (show FL E _ n from h) with ⟨v,u⟩ | u
     . exact .inl ⟨by rw [qmC,e,v];rfl,u⟩
     exact .inr u
def qgg (r:AV) (h:List HObj) (k:PR->Prop) (K:Prop):Prop:=match r with
 | .ms id off m s=>Nat.rec (motive:=fun _=>Prop) (VC h id fun C=>ID C (k (.made m s C)) K) (fun _ _=>wo h (.ms id off m s) (fun y _=>k (.val y)) K) off
 | .mp id=>XS h id fun o=>match o with
   | .mp e c=>Nat.rec (motive:=fun _=>Prop) (FL e (fun e=>k (.mapp e)) K) (fun _ _=>K) c
   | _=>K
 | r=>wo h r (fun y _=>k (.val y)) K
def cS (r:AV) (h:List HObj) (k:PR->Prop):Prop:=qgg r h k False
def Mz (T:TBL) (H:Hd) (f:FuncId) (y:List AV) (k:PR->Prop):Prop:=match T f with
 | ⟨g,md,n,R,c,kn⟩=>okP (Nat.beq g f) (match kn with
   | .pure w=>(match w y with
     | some r=>faP 6 r fun r=>k (.val r)
     | none=>False)
   | .law w=>w y [] fun r h=>cS r h k
   | .mix w=>(match w y with
     | some q=>k q
     | none=>Mi H ⟨g,md,n,R,c,.code⟩ y [] fun r h=>cS r h k)
   | .code=>Mi H ⟨g,md,n,R,c,.code⟩ y [] fun r h=>cS r h k)
def Bc (g:List AV->Option AV) (xs:List AV) (hp:List HObj) (k:AV->List HObj->Prop):Prop:=WN hp xs (fun y ids=>match g y with
    | some r=>faP 6 r fun r=>wsP (bif r.scalar then [] else gones ids) hp fun hp=>k r hp
    | none=>False) False
def Ll (u H:Hd) (c:Cd) (x:List AV) (h:List HObj) (k:AV->List HObj->Prop):Prop:=Bool.rec (motive:=fun _=>Prop) (Mi H c x h k)
 (WN h x (fun y ids=>match ids with
  | []=>Mi u c y [] fun r p=>qgg r p (fun q=>match q with
    | .val r=>k r h
    | .made m s C=>JA h (.cells C) fun n h=>k (.ms n 0 m s) h
    | .mapp e=>JA h (.mp e 0) fun n h=>k (.mp n) h) (Mi H c x h k)
  | _=>Mi H c x h k) (Mi H c x h k)) c.md
def qiC (w:List AV->Option PR) (u H:Hd) (c:Cd) (xs:List AV) (hp:List HObj) (k:AV->List HObj->Prop):Prop :=
 WN hp xs (fun y ids=>match ids with
  | []=>(match w y with
    | some q=>(match q with
      | .val r=>k r hp
      | .made m s C=>JA hp (.cells C) fun n hp=>k (.ms n 0 m s) hp
      | .mapp e=>JA hp (.mp e 0) fun n hp=>k (.mp n) hp)
    | none=>Ll u H c xs hp k)
  | _=>Ll u H c xs hp k) (Ll u H c xs hp k)
def IZ (T:TBL) (u H:Hd) (f:FuncId) (xs:List AV) (hp:List HObj) (k:AV->List HObj->Prop):Prop:=match T f with
 | ⟨g,md,n,r,c,kn⟩=>okP (Nat.beq g f) (match kn with
   | .pure w=>Bc w xs hp k
   | .law w=>w xs hp k
   | .mix w=>qiC w u H ⟨g,md,n,r,c,.code⟩ xs hp k
   | .code=>Ll u H ⟨g,md,n,r,c,.code⟩ xs hp k)
abbrev YT:=Nat->List AV->List HObj->(AV->List HObj->Prop)->Prop
def Me:YT:=fun _ _ _ _=>False
def rfP (T:TBL) (Y:YT->Hd) (v:AV) (h:List HObj) (G:List AV->List HObj->(AV->List HObj->Prop)->Prop) (k:List HObj->Prop):Prop:=match v with
 | .fn (.func f) [] c=>(match T f with
   | ⟨g,md,n,R,C,kn⟩=>okP (Nat.beq g f) <| okP kn.isCode <| okP (Nat.ble (c.length+1) n) (fnP h.length fun m=>flP (h++[.lp .ready (m+1),.gone]) fun u=>qfC (.yl m::c) fun r =>
     C (Y fun id x p K=>okP (Nat.beq id m) (G x p K)) (qgi R fun _ h=>k h) r u))
 | _=>False
def hdY (T:TBL):Nat->YT->Hd
 | 0,_=>⟨fun _ _ _ _=>False,fun _ _ _ _=>False,fun _ _ _=>False,fun _ _ _ _=>False,fun _ _ _ _=>False,fun _ _=>False,none⟩
 | n+1,Y=>⟨IZ T (hdY T n Me) (hdY T n Y),IZ T (hdY T n Me) (hdY T n Me),Mz T (hdY T n Me),Y,rfP T (hdY T n),fun f k=>okP (Nat.beq (T f).f f&&(T f).kn.isCode) k,none⟩
def hdN (T:TBL) (n:Nat):Hd:=hdY T n Me
abbrev YSp:=Nat->List AV->List HObj->AV->List HObj->Prop
abbrev YF:=Nat->List AV->List HObj->(AV->List HObj->Prop)->Prop
def Xd (Y:YF) (S:YSp):Prop:=∀ Z id xs hp r h,S id xs hp r h->∀ q,HR Z hp q->Y id xs q (fun R u=>R=r/\HR Z h u)
structure HzOK (P:Program) (S:YSp) (H:Hd):Prop where
 C:∀ f xs hp k,H.C f xs hp k->∃ r hp',(∀ Y,Xd Y S->∀ Z hq,HR Z hp hq->YC P ⟨Y,RG P⟩ f xs hq (fun r1 h1=>r1=r/\HR Z hp' h1))/\k r hp'
 C0:∀ f xs hp k,H.C0 f xs hp k->∃ r hp',(∀ Z hq,HR Z hp hq->qB P f xs hq (fun r1 h1=>r1=r/\HR Z hp' h1))/\k r hp'
 D:∀ f ys k,H.D f ys k->∃ q,Jp P f ys q/\k q
 Y:∀ id xs hp k,H.Y id xs hp k->∃ r hp',S id xs hp r hp'/\k r hp'
 R:∀ v hp G k,H.R v hp G k->∀ Gq:List AV->List HObj->AV->List HObj->Prop,(∀ xs hp1 kk,G xs hp1 kk->∃ r hp2,Gq xs hp1 r hp2/\kk r hp2) ->
  ∃ hp',(∀ Z hq,HR Z hp hq->∀ G':List AV->List HObj->(AV->List HObj->Prop)->Prop,(∀ Z1 xs hp1 r hp2,Gq xs hp1 r hp2->∀ hq1,HR Z1 hp1 hq1->G' xs hq1 (fun r1 h1=>r1=r/\HR Z1 hp2 h1))->RG P v hq G' (fun h=>HR Z hp' h))/\k hp'
 ok:∀ f k,H.ok f k->jB P f=true/\k
def FJ (J:List Nat) (fr f:FrL):Prop:=∀ t,J.contains t=false->get f t=get fr t
theorem FJ.refl {J fr}:FJ J fr fr:=fun _ _=>rfl
theorem FJ.cons {J q y} (h:FJ J q y) (d:Nat) (a:AV):FJ J ((d,a)::q) ((d,a)::y):=fun t e=>by
 simp only [get];split
 . rfl
 exact h t e
theorem FJ.put {J fr y} (h:FJ J fr y) (d:Option Nat) (a:AV):FJ J (zb fr d a) (zb y d a):=by
 cases d with
 | none=>exact h
 | some d=>exact h.cons d a
theorem FJ.junk {J fr y} (h:FJ J fr y) (O:J.contains d=true) (a:AV):FJ J fr ((d,a)::y):=fun t q=>by
 simp only [get];split
 . rename_i e;subst e;rw [O] at q;cases q
 exact h t q
theorem Vi:∀ (u fr:FrL) (t:Nat),get (u++fr) t=if (u.map (·.1)).contains t then get u t else get fr t
 | [],fr,t=>by simp
 | (k,x)::u,fr,t=>by
   simp only [qmP,get,wI,qoJ];by_cases e:k=t
   . subst e;simp
   have:(t==k)=false:=by simpa using fun h=>e h.symm
   rw [if_neg e,if_neg e,Vi u fr t,this,qpO]
theorem FJ.app {J q y} (h:FJ J q y) (u:FrL):FJ J (u++q) (u++y):=fun t e=>by rw [Vi,Vi,h t e]
def XD (J:List Nat) (x:Opd):Bool:=x.tmp.all fun t => !J.contains t
theorem FJ.ev {J fr y} (h:FJ J fr y) {x:Opd} (e:XD J x=true):evF (get y) x=evF (get fr) x:=Js fun t q=>h t (by have:=LL.1 e t q;simpa using this)
theorem FJ.evs {J q y} (h:FJ J q y) {X:List Opd} (e:X.all (XD J)=true):X.map (evF (get y))=X.map (evF (get q)) :=
 qmL fun x hm=>h.ev (LL.1 e x hm)
def uM (J k:List Nat):Bool:=k.all fun t => !J.contains t
theorem FJ.keep {J y fr'} (h:FJ J y fr') {K:List Nat} (q:uM J K=true):(K.map fun t=>(t,get fr' t))=K.map fun t=>(t,get y t) :=
 qmL fun t hm=>by have:=LL.1 q t hm;rw [h t (by simpa using this)]
def AOp.hangs (o:AOp) (e:Opd->AV):List AV:=match o with
 | .bsl _ _ _ _ y=>y.map fun p=>e p.2
 | .call _ _ A=>A.map e
 | .callv _ x A=>match e x with
   | .fn _ first q=>first++A.map e++q
   | _=>[]
 | _=>[]
theorem Po (o:AOp) (e:Opd->AV) (H:Hp):o.more e H=yN H (o.hangs e):=by
 cases o <;> first | rfl | skip
 rename_i d x as;simp only [AOp.more,AOp.hangs];generalize e x=u;cases u <;> rfl
theorem HR.foot {Z hp y} (h:HR Z hp y) {o:AOp} {F:Nat->AV} (O:∃ q,qj (hpf hp) (o.hangs (evF F))=some q):o.foot F (hpf y)=o.foot F (hpf hp):=by obtain ⟨⟨K,X⟩,e⟩:=O;unfold AOp.foot;rw [Po,Po,Zh e,Zh (h.purA e)]
theorem AP {P:Program} {o:AOp} {e:Opd->AV} {H:Hp} {n r w} (h:o.sem P e H n r w):∃ q,qj H (o.hangs e)=some q:=by
 cases o <;> first | exact ⟨_,rfl⟩ | skip
 . obtain ⟨y,ids,k,_⟩:=h;exact ⟨_,k⟩
 . obtain ⟨y,ids,k,_⟩:=h;exact ⟨_,k⟩
 simp only [AOp.sem] at h;split at h
 . rename_i x;obtain ⟨_,y,ids,k,_⟩:=h;simp only [AOp.hangs,x];exact ⟨_,k⟩
 exact h.elim
theorem Vj {as:List Opd} {e:Opd->AV} {f first c} (h:e x = .fn f first c):(AOp.callv d x as).hangs e=first++as.map e++c:=by simp only [AOp.hangs,h]
theorem Hn {d x as F H y i f first c} (u:evF F x = .fn f first c) (h:qj H (first++as.map (evF F)++c)=some (y,i)):(AOp.callv d x as).foot F H=i:=by unfold AOp.foot;rw [Po,Vj u,Zh h];rfl
theorem FJ.foot {J q fr'} (h:FJ J q fr') {o:AOp} (e:o.opds.all (XD J)=true) (H:Hp):o.foot (get fr') H=o.foot (get q) H:=by
 have mp:∀ {xs:List Opd},(∀ x∈xs,x∈o.opds)->xs.map (evF (get fr'))=xs.map (evF (get q)):=fun hs=>qmL fun x O=>h.ev (LL.1 e x (hs x O));have K:(o.opds.flatMap fun x=>(evF (get fr') x).ids)=o.opds.flatMap fun x=>(evF (get q) x).ids:=by have:=mp (xs:=o.opds) (fun _ O=>O);have:=qnH (List.map AV.ids) this;rw [qmU,qmU] at this;rw [List.flatMap_def,List.flatMap_def];exact qnH List.flatten this
 have A:o.more (evF (get fr')) H=o.more (evF (get q)) H:=by
  cases o <;> first | rfl | skip
  . rename_i d n sz z X;simp only [AOp.more];have:(X.map fun p=>evF (get fr') p.2)=X.map fun p=>evF (get q) p.2:=qmL fun p hp=>h.ev (LL.1 e _ (by simp [AOp.opds];exact ⟨_,hp⟩));rw [this]
  . simp only [AOp.more];rw [mp (by simp [AOp.opds])]
  rename_i d x as;simp only [AOp.more];rw [h.ev (LL.1 e x (by simp [AOp.opds])),mp (xs:=as) (by intro y hy;simp [AOp.opds,hy])]
 unfold AOp.foot;rw [K,A]
theorem Uy {P:Program} {o:AOp} {J:List Nat} {u:FrL} (h:FJ J u f) (v:o.opds.all (XD J)=true) {p:Hp} {r:AV} {w:List (Nat×HObj)} (s:o.sem P (evF (get u)) p n r w):o.sem P (evF (get f)) p n r w :=
 ZX s (fun x j=>h.ev (LL.1 v x j)) (fun _ _=>rfl) (fun _=>rfl)
section
variable {P:Program} {S:YSp} {H:Hd} {J:List Nat}
def qhm (o:AOp):X1:=fun _ c f h=>match vy o (evF (get f)) h with
 | some [(r,[])]=>faP 6 r fun r=>c (zb f o.dst r) h
 | _=>False
def pZ:AOp->X1
 | .call d f a=>pH d f (ZQ a)
 | .callv d x a=>MQ d (qK x) (ZQ a)
 | .callx .. => YX
 | .rng .. => YX
 | .nxt .. => YX
 | .ent .. => YX
 | .isn d b k x=>qhm (.isn d b k x)
 | o=>br (cD o)
def Stp (P:Program) (S:YSp) (J:List Nat) (o:List AOp) (u:FrL) (p:List HObj) (r:FrL) (h:List HObj):Prop :=
 ∀ Y,Xd Y S->∀ Z q f,HR Z p q->FJ J u f->zz P ⟨Y,RG P⟩ o ⟨f,q⟩ (fun s=>FJ J r s.fr/\HR Z h s.hp)
theorem Rz (N:HzOK P S H) {o:AOp} (z:o.opds.all (XD J)=true) {c:K1} {m:FrL} {g:List HObj} (h:pZ o H c m g):∃ j p,Stp P S J [o] m g j p/\c j p:=by
 have T:∀ {O:AOp},O.opds.all (XD J)=true->(∀ d f as,O≠.call d f as)->cD O c m g->(∀ Y i K,(∃ r Q,O.sem P (evF (get i.fr)) (hpf i.hp) i.hp.length r Q/\K (i.step O.dst r Q))->aop P ⟨Y,RG P⟩ O i K)->∃ j p,Stp P S J [O] m g j p/\c j p:=fun {O} z A h D=>by obtain ⟨r,p,wi,l,t⟩:=Gh (P:=P) O A _ _ _ h;refine ⟨_,p,fun Y n Z v q s u=>?_,t⟩;obtain ⟨Q,y,k,_⟩:=l Z v s;exact D _ _ _ ⟨r,Q,Uy u z y,u.put _ _,k⟩
 cases o with
 | call d f a =>have h:pH d f (ZQ a) H c m g:=h;unfold pH at h;rw [Qj] at h;obtain ⟨r,p,l,t⟩:=N.C _ _ _ _ h;refine ⟨_,p,fun Y n Z v q s u=>?_,t⟩;show YC P _ f (a.map (evF (get q))) v _;rw [u.evs (by simpa [AOp.opds] using z)];exact Yf (fun R M ⟨E,L⟩=>by rw [E];exact ⟨u.cons d r,L⟩) (l Y n Z v s)
 | callv d x a =>
   have h:MQ d (qK x) (ZQ a) H c m g:=h;unfold MQ at h;rw [qi,Qj] at h;rw [show (AOp.callv d x a).opds=x::a from rfl,qmC,qd] at z;split at h
   . rename_i f first C V
     obtain ⟨l,t⟩:=N.ok _ _ h;rw [zM] at t;obtain ⟨r,p,y,k⟩:=N.C0 _ _ _ _ t;refine ⟨_,p,fun Y n Z v q s u=>?_,k⟩;simp only [zz,aop,u.ev z.1,V,u.evs z.2];exact ⟨l,jK (fun R M ⟨E,L⟩=>by rw [E];exact ⟨u.cons d r,L⟩) (y Z v s)⟩
   . rename_i id V;obtain ⟨r,p,y,k⟩:=N.Y _ _ _ _ h;refine ⟨_,p,fun Y n Z v q s u=>?_,k⟩;simp only [zz,aop,u.ev z.1,V,u.evs z.2];exact ⟨_,n Z _ _ _ _ _ y v s,fun R M ⟨E,L⟩=>by rw [E];exact ⟨u.cons d r,L⟩⟩
   exact h.elim
 | callx d f a=>exact (show False from h).elim
 | rng d x=>exact (show False from h).elim
 | nxt d x=>exact (show False from h).elim
 | ent d x=>exact (show False from h).elim
 | isn d b X x =>
   have h:qhm (.isn d b X x) H c m g:=h;unfold qhm at h;split at h
   . rename_i r hm;rw [QR] at h;refine ⟨_,g,fun Y n Z v q s u=>?_,h⟩;have l:=Bs hm;have t:(AOp.isn d b X x).many (evF (get q)) (hpf v) v.length fun R w=>(R,w)∈[(r,([]:List (Nat×HObj)))]:=by simp only [AOp.many] at l ⊢;rw [u.ev (x:=x) (by simpa [AOp.opds] using z)];exact l
     have k:(AOp.isn d b X x).many (evF (get q)) (hpf v) v.length fun R w=>FJ J (zb m (some d) r) (St.step ⟨q,v⟩ (some d) R w).fr/\HR Z g (St.step ⟨q,v⟩ (some d) R w).hp:=jS (fun R w y=>by simp only [qnv,qmm] at y;rw [y.1,y.2];exact ⟨u.put _ _,s⟩) t;exact k
   exact h.elim
 | _=>exact T z (fun _ _ _ e=>by cases e) h (fun Y i K h=>h)
inductive XO where
 | op (o:AOp)
 | ups (d:Nat) (ks:KS) (z:AV) (m key:Opd) (d2:Nat) (v:Opd)
 | bsm (d n sz:Nat) (zero:List AV) (parts:List (Nat×Opd))
def XO.ops:XO->List AOp
 | .op o=>[o]
 | .ups d e z m K q v=>[.mpe d e z m K,.ext q (.t d) 1,.est m (.t q) v]
 | .bsm d n O zero y=>[.bsl d n O zero y]
def XO.off (J:List Nat):XO->Bool
 | .op o=>o.opds.all (XD J)
 | .ups d _ _ m K q v=>J.contains d&&J.contains q&&d != q&&XD J m&&XD J K&&XD J v
 | .bsm _ _ _ _ y=>(y.map (·.2)).all (XD J)
def preO:List AOp->List XO
 | .mpe d K z m k :: .ext u (.t j) 1 :: .est M (.t D) v::r =>if d=j/\u=D/\BH m M=true then .ups d K z m k u v::preO r else .op (.mpe d K z m k) :: .op (.ext u (.t j) 1) :: .op (.est M (.t D) v)::preO r
 | o::r => .op o::preO r
 | []=>[]
theorem vS (O:List AOp):(preO O).flatMap XO.ops=O:=by
 induction O using preO.induct with
 | case1 d K z m k j u M D v r h i =>obtain ⟨rfl,rfl,e⟩:=h;have:=Eh e;subst this;rw [preO,if_pos ⟨rfl,rfl,e⟩,qmH,i];rfl
 | case2 d K z m k j u M D v r h i =>rw [preO,if_neg h,qmH,qmH,qmH,i];rfl
 | case3 o r n i =>
   rw [preO]
   . rw [qmH,i];rfl
   exact n
 | case4=>rfl
theorem Wz {e:Ent}:∀ {E:List Ent} {i:Nat},(E.map (·.2.1)).Nodup->E[i]?=some e->E.findIdx? (fun x=>x.2.1==e.2.1)=some i
 | [],i,_,h=>by simp at h
 | a::E,0,_,h=>by simp at h;subst h;simp [qpo]
 | a::E,i+1,n,h=>by
   rw [wI,qm7] at n;have h:E[i]?=some e:=by simpa using h
   have hm:=qn7 h;have u:(a.2.1==e.2.1)=false:=by rw [qnm];intro q;exact n.1 (gm.2 ⟨e,hm,q.symm⟩)
   rw [qpo,u];simp only [qmM,qnc];rw [Wz n.2 h];rfl
theorem Cy {a b:HObj} (h:i<l.length):qz (qz l i a) i b=qz l i b:=by simp [qz,h]
theorem VN {a:HObj} (h:i<l.length):hpf (qz l i a) i=some a:=by simp [hpf,qz,h]
theorem EQ {p:KS} {m K v:Opd} {D:Nat} {z:AV} {id:Nat} {k:Value} {b:Bool} {fr:FrL} {y:List HObj} {c:Nat}
 (Q:(XO.ups d p z m K D v).off J=true) (r:evF (get fr) m = .mp id) (N:(evF (get fr) K).val=some k) (O:eqK p k k=some true) (g:hpf u id=some (.mp E c)) (o:(E.map (·.2.1)).Nodup) (C:∀ e∈E,e.2.1<c)
 (h:cn p k (evF (get fr) v) id u E c b y) :
 ∃ x n w s,(AOp.mpe d p z m K).sem P (evF (get fr)) (hpf u) u.length (.tup [x,I n]) w/\(AOp.est m (.t D) v).sem P (evF (get ((D,I n)::(d,.tup [x,I n])::fr))) (hpf (qf u w)) (qf u w).length .any s /\
   qf (qf u w) s=y/\w.map (·.1)=(bif b then [] else [id])/\s.map (·.1)=[id]/\(evF (get ((D,I n)::(d,.tup [x,I n])::fr)) m=evF (get fr) m)/\(evF (get ((D,I n)::(d,.tup [x,I n])::fr)) v=evF (get fr) v):=by
 simp only [XO.off,qd,qpe,ne_eq] at Q;obtain ⟨⟨⟨⟨⟨Y,Z⟩,A⟩,l⟩,j5⟩,t⟩:=Q;have f:∀ x n,FJ J fr ((D,I n)::(d,.tup [x,I n])::fr):=fun x n=>((FJ.refl (J:=J) (fr:=fr)).junk Y _).junk Z _;have lt:=qF g;rcases h with ⟨rfl,i,j,L,M,rfl⟩ | ⟨rfl,L,rfl⟩
 . refine ⟨j.2.2,j.2.1,[],[(id,.mp (E.set i (j.1,j.2.1,evF (get fr) v)) c)],?_,?_,rfl,rfl,rfl,(f _ _).ev l,(f _ _).ev t⟩
   . simp only [AOp.sem,r,g];exact ⟨k,N,O,.inl ⟨i,j,L,M,by trivial,by trivial⟩⟩
   simp only [AOp.sem,(f _ _).ev l,r,qf,g,(f _ _).ev t];exact ⟨i,j,by simp [evF,get],Wz o M,M,by trivial,by trivial⟩
 refine ⟨z,c,[(id,.mp (E++[(k,c,z)]) (c+1))],[(id,.mp ((E++[(k,c,z)]).set E.length (k,c,evF (get fr) v)) (c+1))],?_,?_,?_,rfl,rfl,(f _ _).ev l,(f _ _).ev t⟩
 . simp only [AOp.sem,r,g];exact ⟨k,N,O,.inr ⟨L,by trivial,by trivial⟩⟩
 . simp only [AOp.sem,(f _ _).ev l,r,qf,VN lt,(f _ _).ev t];have X:((E++[(k,c,z)]).map (·.2.1)).Nodup:=by rw [qmD,qns];refine ⟨o,by simp,fun a V b R=>?_⟩;simp at R;subst R;obtain ⟨q,u,rfl⟩:=gm.1 V;exact qof (C q u)
   have T:(E++[(k,c,z)])[E.length]?=some (k,c,z):=by rw [qmy (Qs _)];simp
   exact ⟨E.length,(k,c,z),by simp [evF,get],Wz X T,T,by trivial,by trivial⟩
 simp only [qf];rw [Cy lt,CA]
def cX:XO->X1
 | .op o=>pZ o
 | .ups d K z m k D v=>br (TC K (qK m) (qK k) (qK v))
 | .bsm .. => fun _ _ _ _=>False
theorem eZ (ok:HzOK P S H) {x:XO} (q:x.off J=true) {c:K1} {r:FrL} {y:List HObj} (h:cX x H c r y):∃ f p,Stp P S J x.ops r y f p/\c f p:=by
 cases x with
 | bsm=>exact (show False from h).elim
 | op o=>exact Rz ok q h
 | ups d ks z m x0 d2 v =>
   obtain ⟨id,kv,b,p,hm,R,a,k,i,L⟩:=VA (show TC _ _ _ _ c r y from h);refine ⟨r,p,fun Y hY Z l t V j=>?_,i⟩;have u:=q;simp only [XO.off,qd,qpe,ne_eq] at u;obtain ⟨⟨⟨⟨⟨X,C⟩,j3⟩,D⟩,E⟩,K⟩:=u;obtain ⟨e,c',T,M,O,Q,g,N⟩:=L Z l V;rw [<-j.ev K] at g;obtain ⟨x,n,w,s,A,k2,k3,_,_,_,_⟩:=EQ (P:=P) q ((j.ev D).trans hm) (by rw [j.ev E];exact a) k M O Q g;refine ⟨_,w,A,_,[],?_,_,s,k2,?_,?_⟩
   . simp only [AOp.sem,evF,St.step,zb,AOp.dst,get,qmA];exact ⟨I n,by simp,by trivial,by trivial⟩
   . exact (j.junk X _).junk C _
   show HR Z p (qf (qf (qf l w) []) s);simp only [qf];rw [k3];exact N
theorem XH {E:HE}:∀ {a b:List AOp} {s:St} {K:St->Prop},zz P E a s (fun s=>zz P E b s K)->zz P E (a++b) s K
 | [],b,s,K,h=>h
 | o::a,b,s,K,h=>jZ (fun t _ h=>XH h) h
def cXs:List XO->X1
 | []=>qkC
 | x::X=>eX (cX x) (cXs X)
theorem Dk (O:HzOK P S H):∀ {X:List XO} {c:K1} {f:FrL} {p:List HObj},(X.all (XO.off J))=true->cXs X H c f p->∃ r u,Stp P S J (X.flatMap XO.ops) f p r u/\c r u
 | [],c,f,p,_,h=>⟨f,p,fun Y j Z b q o z=>⟨z,o⟩,h⟩
 | x::X,c,f,p,g,h=>by rw [qmC,qd] at g;obtain ⟨m,a,l,t⟩:=eZ O g.1 (show cX x H (cXs X H c) f p from h);obtain ⟨v,y,d,w⟩:=Dk O g.2 t;refine ⟨v,y,fun Y j Z b q o z=>?_,w⟩;rw [qmH];exact XH (QG (fun s ⟨Q,e⟩=>d Y j Z s.hp s.fr e Q) (l Y j Z b q o z))
structure XG where
 guard:Option (Nat×Bool)
 ops:List XO
def XG.grp (g:XG):Grp:=⟨g.guard,g.ops.flatMap XO.ops⟩
def En (g:Grp):XG:=⟨g.guard,preO g.ops⟩
theorem vR (g:Grp):(En g).grp=g:=by cases g;simp only [En,XG.grp,vS]
theorem SE (s:List Grp):(s.map En).map XG.grp=s:=by
 rw [qmU]
 conv=>rhs;rw [<-qoH s]
 exact qmL fun g _=>vR g
def XG.off (J:List Nat) (g:XG):Bool:=(match g.guard with
 | some (j,_) => !J.contains j
 | none=>true)&&g.ops.all (XO.off J)
def cXG:List XG->X1
 | []=>qkC
 | ⟨none,o⟩::g=>eX (cXs o) (cXG g)
 | ⟨some (j,b),o⟩::g=>cGd j b (Ya (o.flatMap XO.ops)) (cXs o) (cXG g)
def qkB (P:Program) (S:YSp) (J:List Nat) (gs:List Grp) (u:FrL) (p:List HObj) (r:FrL) (h:List HObj):Prop :=
 ∀ Y,Xd Y S->∀ Z q f,HR Z p q->FJ J u f->zx P ⟨Y,RG P⟩ gs ⟨f,q⟩ (fun s=>FJ J r s.fr/\HR Z h s.hp)
theorem Dj (n:HzOK P S H):∀ {l:List XG} {c:K1} {v:FrL} {o:List HObj},(l.all (XG.off J))=true->cXG l H c v o->∃ y g,qkB P S J (l.map XG.grp) v o y g/\c y g
 | [],c,v,o,_,h=>⟨v,o,fun Y z Z q f m u=>⟨u,m⟩,h⟩
 | ⟨none,O⟩::l,c,v,o,a,h=>by rw [qmC,qd] at a;obtain ⟨L,T,M,N⟩:=Dk n (by simpa [XG.off] using a.1) (show cXs O H (cXG l H c) v o from h);obtain ⟨r,p,d,w⟩:=Dj n a.2 N;exact ⟨r,p,fun Y z Z q f m u=>QG (fun s ⟨V,X⟩=>d Y z Z s.hp s.fr X V) (M Y z Z q f m u),w⟩
 | ⟨some (j,b),O⟩::l,c,v,o,a,h=>by
   rw [qmC,qd] at a;obtain ⟨x,k⟩:=a;simp only [XG.off,qd] at x;have h:cGd j b (Ya (O.flatMap XO.ops)) (cXs O) (cXG l) H c v o:=h;unfold cGd at h;rw [zV] at h;have Q:∀ {f},FJ J v f->get f j=get v j:=fun u=>u j (by simpa using x.1);have C:ku (Ya (O.flatMap XO.ops)) v (fun v=>cXG l H c v o)->∃ y g,(∀ Y,Xd Y S->∀ Z q f,HR Z o q->FJ J v f->zx P ⟨Y,RG P⟩ (l.map XG.grp) (zd (O.flatMap XO.ops) ⟨f,q⟩) (fun s=>FJ J y s.fr/\HR Z g s.hp))/\c y g:=fun h=>by rw [OC] at h;obtain ⟨r,p,d,w⟩:=Dj n k h;exact ⟨r,p,fun Y z Z q f m u=>d Y z Z q _ m (u.app _),w⟩
   split at h
   . rename_i t i;cases e:(Bool.rec (motive:=fun _=>Bool) (!b) b t:Bool) with
     | true =>
       rw [e] at h;have E:t=b:=by cases t <;> cases b <;> first | rfl | cases e
       obtain ⟨L,T,M,N⟩:=Dk n x.2 (show cXs O H (cXG l H c) v o from h);obtain ⟨r,p,d,w⟩:=Dj n k N;refine ⟨r,p,fun Y z Z q f m u=>?_,w⟩;simp only [wI,XG.grp,zx,Q u,i];exact ⟨fun _=>QG (fun s ⟨V,X⟩=>d Y z Z s.hp s.fr X V) (M Y z Z q f m u),fun R=>absurd E R⟩
     | false =>
       rw [e] at h;have E:t≠b:=by cases t <;> cases b <;> first | (cases e;done) | decide
       obtain ⟨r,p,d,w⟩:=C (show ku _ _ _ from h);refine ⟨r,p,fun Y z Z q f m u=>?_,w⟩;simp only [wI,XG.grp,zx,Q u,i];exact ⟨fun e=>absurd e E,fun _=>d Y z Z q f m u⟩
   . rename_i t i;obtain ⟨r,p,d,w⟩:=C h;refine ⟨r,p,fun Y z Z q f m u=>?_,w⟩;simp only [wI,XG.grp,zx,Q u,i];exact d Y z Z q f m u
   exact h.elim
def cr (P:Program) (J:List Nat) (o:List AOp) (u:FrL) (p:List HObj) (tr:Tr) (r:FrL) (hp':List HObj) (T:Tr):Prop :=
 ∀ Z h f,HR Z p h->FJ J u f->QL P o ⟨f,h⟩ tr (fun s t=>FJ J r s.fr/\HR Z hp' s.hp/\t=T)
def ftP (f wi:List Nat) (t:Tr) (k:Tr->Prop):Prop:=fmP fnP f fun f=>fmP fnP wi fun wi=>trP t (f,wi) k
theorem KO (f wi:List Nat) (t:Tr) (k:Tr->Prop):ftP f wi t k=k (t++[(f,wi)]):=by unfold ftP trP;simp only [QI qC,zM]
def qlu (d:Nat) (K:KS) (z:AV) (o:Bool) (m k:Opd):D1:=fun _ c r p t=>eD d K z o (qK m) (qK k) (fun f h=>ftP ((AOp.lku d K z o m k).foot (get r) (hpf p)) [] t fun t=>c f h t) r p
def qlv (d:Nat) (m:Opd):D1:=fun _ c r p t=>eE d (qK m) (fun f h=>ftP ((AOp.lnm d m).foot (get r) (hpf p)) [] t fun t=>c f h t) r p
def qlt (K:KS) (m k v:Opd):D1:=fun _ c f h t=>TC K (qK m) (qK k) (qK v) (fun r p=>mpP (evF (get f) m) h fun id _ _=>ftP ((AOp.ins K m k v).foot (get f) (hpf h)) [id] t fun t=>c r p t) f h
def qhy (K:KS) (m k:Opd):D1:=fun _ c f h t=>qK m f fun x=>qK k f fun y=>mpP x h fun id e C=>Iv K y fun v=>qfU K v C id e h fun wi p=>ftP ((AOp.del K m k).foot (get f) (hpf h)) wi t fun t=>c f p t
def qhz (d:Nat) (K:KS) (z:AV) (m k:Opd) (D:Nat) (v:Opd):D1:=fun _ c f h t=>qK m f fun x=>qK k f fun y=>qK v f fun a=>mpP x h fun id e C=>frP C (Iv K y fun u=>qgl K u a id e h fun b p =>
 ftP ((AOp.mpe d K z m k).foot (get f) (hpf h)) (bif b then [] else [id]) t fun t=>ftP [] [] t fun t=>ftP (x.ids++a.ids) [id] t fun t=>c f p t)
def Fw (d:Nat) (x:Opd) (a:List Opd):D1:=fun H c u h t=>qK x u fun v=>ZQ a u fun X=>match v with
 | .fn (.func f) first C=>H.ok f (okP ((first++C).all AV.isFlat) (WN h (first++X++C) (fun y ids=>H.D f y fun q=>match q with
   | .val r=>wsP (bif r.scalar then [] else gones ids) h fun h=>ftP ids ((bif r.scalar then [] else gones ids).map (·.1)) t fun t=>c ((d,r)::u) h t
   | .made m z s=>fnP h.length fun n=>wsP (Wg s ids++[(n,.cells s)]) h fun h=>ftP ids ((Wg s ids++[(n,HObj.cells s)]).map (·.1)) t fun t=>c ((d,.ms n 0 m z)::u) h t
   | .mapp _=>False) False))
 | _=>False
def aB:AOp->D1
 | .callv d x a=>Fw d x a
 | .call d f a=>my d f a
 | .lku d K zero ok m k=>qlu d K zero ok m k
 | .lnm d m=>qlv d m
 | .ins K m k v=>qlt K m k v
 | .del K m k=>qhy K m k
 | .mpe .. => fun _ _ _ _ _=>False
 | .est .. => fun _ _ _ _ _=>False
 | o=>aC (ZB o) o
set_option maxHeartbeats 1000000 in
theorem kD (ok:HzOK P S H) {o:AOp} (N:o.opds.all (XD J)=true) {c:KD} {s:FrL} {t:Tr} (h:aB o H c s u t):∃ l hp' T,cr P J [o] s u t l hp' T/\c l hp' T:=by
 have Y:∀ {O:AOp},O.opds.all (XD J)=true->∀ {r:AV} {hp':List HObj} {wi:List Nat},(∀ Z L,HR Z u L->∃ i,O.sem P (evF (get s)) (hpf L) L.length r i/\HR Z hp' (qf L i)/\i.map (·.1)=wi)->(∃ q,qj (hpf u) (O.hangs (evF (get s)))=some q)->c (zb s O.dst r) hp' (t++[(O.foot (get s) (hpf u),wi)])->∃ l hp' T,cr P J [O] s u t l hp' T/\c l hp' T:=fun {O} N {r hp' wi} M hh w =>
  ⟨_,hp',_,fun Z L x8 y hf=>by obtain ⟨i,g,Q,D⟩:=M Z L y;exact ⟨r,i,Uy hf N g,hf.put _ _,Q,by rw [hf.foot N,y.foot hh,D]⟩,w⟩
 have x2:∀ {O:AOp},O.opds.all (XD J)=true->O.noMap=true->aC (ZB O) O H c s u t->∃ l hp' T,cr P J [O] s u t l hp' T/\c l hp' T:=fun {O} N x4 h=>by
  unfold aC trP at h;split at h
  . rename_i r i hs;simp only [QI qC,QR,Yd,zM] at h;refine Y N (fun Z L y=>?_) (AP (EG (P:=P) hs)) h;obtain ⟨g,Q⟩:=y.sem x4 (EG (P:=P) hs);exact ⟨i,g,y.write Q,rfl⟩
  exact h.elim
 have none:∀ {O:AOp},(∀ ev u new r i,¬ O.sem P ev u new r i)->aC (ZB O) O H c s u t->∃ l hp' T,cr P J [O] s u t l hp' T/\c l hp' T:=fun {O} hn h=>by
  unfold aC at h;split at h
  . rename_i r i hs;exact absurd (EG (P:=P) hs) (hn _ _ _ _ _)
  exact h.elim
 cases o with
 | call d f x0 =>
   have h:my d f x0 H c s u t:=h;unfold my trP at h;rw [Qj] at h;split at h
   . rename_i ys ids j;rw [QI (QR 6)] at h;obtain ⟨q,M,w⟩:=ok.D _ _ _ h;split at w
     . simp only [QI qC,QR,Yd,zM] at w;rename_i r;refine Y N (r:=r) (hp':=qf u (bif r.scalar then [] else gones ids)) (fun Z L y=>⟨_,⟨ys,ids,y.purA j,.inl ⟨M,rfl⟩⟩,?_,rfl⟩) ⟨_,j⟩ (by rw [Dv j];exact w);cases r.scalar with
       | true=>exact y
       | false=>exact y.write (y.gones j)
     . simp only [QI qC,qC,QR,Yd,zM] at w;rename_i m sz C;refine Y N (r := .ms u.length 0 m sz) (hp':=qf u (Wg C ids++[(u.length,HObj.cells C)])) (wi:=List.map (fun x:Nat×HObj=>x.1) (Wg C ids++[(u.length,HObj.cells C)])) (fun Z L y=>?_) ⟨_,j⟩ (by rw [Dv j];exact w);refine ⟨Wg C ids++[(u.length,.cells C)],⟨ys,ids,y.purA j,.inr (.inl ⟨_,_,_,M,by rw [y.len],by rw [y.len]⟩)⟩,y.write fun p hp'=>?_,rfl⟩;rcases xm.1 hp' with k | k
       . exact y.gones j p (Yo k)
       simp at k;subst k;exact ⟨y.new _ (Qs _),Qs _,rfl⟩
     exact w.elim
   exact h.elim
 | lku d E z b m K =>
   obtain ⟨r,hp',wi,M,w⟩:=MR (P:=P) _ _ _ (show eD d E z b (qK m) (qK K) (fun R X=>ftP ((AOp.lku d E z b m K).foot (get s) (hpf u)) [] t fun t=>c R X t) s u from h);rw [KO] at w;refine Y N (r:=r) (hp':=hp') (wi:=[]) (fun Z L y=>?_) ⟨_,rfl⟩ w;obtain ⟨i,g,Q,_⟩:=M Z L y;refine ⟨i,g,Q,?_⟩
   have:i=[]:=by
    simp only [AOp.sem] at g;split at g
    . split at g
      . obtain ⟨_,_,_,e,_⟩:=g;exact e
      . obtain ⟨_,_,_,_,e,_⟩:=g;exact e
      exact g.elim
    exact g.elim
   rw [this];rfl
 | lnm d m =>
   obtain ⟨r,hp',wi,M,w⟩:=MS (P:=P) _ _ _ (show eE d (qK m) (fun R X=>ftP ((AOp.lnm d m).foot (get s) (hpf u)) [] t fun t=>c R X t) s u from h);rw [KO] at w;refine Y N (r:=r) (hp':=hp') (wi:=[]) (fun Z L y=>?_) ⟨_,rfl⟩ w;obtain ⟨i,g,Q,_⟩:=M Z L y;refine ⟨i,g,Q,?_⟩
   have:i=[]:=by
    simp only [AOp.sem] at g
    (repeat' split at g) <;> first | exact g.2 | exact g.elim
   rw [this];rfl
 | ins E m K v =>obtain ⟨id,kv,b,hp',hm,x9,M,w,g,Q⟩:=VA (show TC E (qK m) (qK K) (qK v) (fun R X=>mpP (evF (get s) m) u fun id _ _=>ftP ((AOp.ins E m K v).foot (get s) (hpf u)) [id] t fun t=>c R X t) s u from h);obtain ⟨y1,_,_,x1,_,g⟩:=VT g;rw [hm] at x1;cases x1;rw [KO] at g;refine Y N (r := .any) (hp':=hp') (wi:=[id]) (fun Z L y=>?_) ⟨_,rfl⟩ g;obtain ⟨x7,c',y0,D,_,_,h6,V⟩:=Q Z L y;obtain ⟨i,h8,h9,x3⟩:=AX (P:=P) hm M w D h6;exact ⟨i,h8,by rw [h9];exact V,x3⟩
 | del E m K =>have h:qhy E m K H c s u t:=h;unfold qhy at h;rw [qi,qi] at h;obtain ⟨id,es,cl,hm,x5,h⟩:=VT h;obtain ⟨kv,M,w,h⟩:=WF h;obtain ⟨hp',wi,g,Q⟩:=FA h x5;rw [KO] at g;exact Y N (r := .any) (hp':=hp') (wi:=wi) (Q P m K _ hm M w) ⟨_,rfl⟩ g
 | mpe=>exact (show False from h).elim
 | est=>exact (show False from h).elim
 | callv d x as =>
   have h:Fw d x as H c s u t:=h;unfold Fw at h;rw [qi,Qj] at h;split at h
   . rename_i f first x6 A
     obtain ⟨M,w⟩:=ok.ok _ _ h;obtain ⟨g,Q⟩:=qt w;rcases QM Q with ⟨ys,ids,j,D⟩ | D
     . obtain ⟨q,h6,V⟩:=ok.D _ _ _ D;cases q with
       | val r =>
         have V:wsP (bif r.scalar then [] else gones ids) u fun u=>ftP ids ((bif r.scalar then [] else gones ids).map (·.1)) t fun t=>c ((d,r)::s) u t:=V;rw [Yd,KO] at V;refine Y N (r:=r) (hp':=qf u (bif r.scalar then [] else gones ids)) (fun Z L y=>⟨(bif r.scalar then [] else gones ids),?_,?_,rfl⟩) (by rw [Vj A];exact ⟨_,j⟩) (by rw [Hn A j];exact V)
         . simp only [AOp.sem,A];exact ⟨⟨M,g⟩,ys,ids,y.purA j,.inl ⟨h6,rfl⟩⟩
         cases r.scalar with
         | true=>exact y
         | false=>exact y.write (y.gones j)
       | made m sz C =>
         have V:fnP u.length fun n=>wsP (Wg C ids++[(n,.cells C)]) u fun u=>ftP ids ((Wg C ids++[(n,HObj.cells C)]).map (·.1)) t fun t=>c ((d,.ms n 0 m sz)::s) u t:=V;rw [qC,Yd,KO] at V;refine Y N (r := .ms u.length 0 m sz) (hp':=qf u (Wg C ids++[(u.length,HObj.cells C)])) (wi:=List.map (fun x:Nat×HObj=>x.1) (Wg C ids++[(u.length,HObj.cells C)])) (fun Z L y=>⟨Wg C ids++[(u.length,.cells C)],?_,y.write fun p hp'=>?_,rfl⟩) (by rw [Vj A];exact ⟨_,j⟩) (by rw [Hn A j];exact V)
         . simp only [AOp.sem,A];exact ⟨⟨M,g⟩,ys,ids,y.purA j,.inr ⟨_,_,_,h6,by rw [y.len],by rw [y.len]⟩⟩
         rcases xm.1 hp' with k | k
         . exact y.gones j p (Yo k)
         simp at k;subst k;exact ⟨y.new _ (Qs _),Qs _,rfl⟩
       | mapp es=>exact (show False from V).elim
     exact D.elim
   exact h.elim
 | callx d x as=>exact none (fun _ _ _ _ _ h=>h) h
 | rng d x=>exact none (fun _ _ _ _ _ h=>h) h
 | nxt d x=>exact none (fun _ _ _ _ _ h=>h) h
 | ent d x=>exact none (fun _ _ _ _ _ h=>h) h
 | isn d a b x=>exact none (fun _ _ _ _ _ h=>h) h
 | _=>exact x2 N rfl h
def dX:XO->D1
 | .op o=>aB o
 | .ups d K z m k D v=>qhz d K z m k D v
 | .bsm .. => fun _ _ _ _ _=>False
theorem qhA (ok:HzOK P S H) {x:XO} (l:x.off J=true) {c:KD} {r:FrL} {tr:Tr} (h:dX x H c r q tr):∃ j p t,cr P J x.ops r q tr j p t/\c j p t:=by
 cases x with
 | bsm=>exact (show False from h).elim
 | op o=>exact kD ok l h
 | ups d K z m k D v =>
   have h:qhz d K z m k D v H c r q tr:=h;unfold qhz at h;rw [qi,qi,qi] at h;obtain ⟨id,es,cl,hm,M,h⟩:=VT h;obtain ⟨rfl,h⟩:=RZ h;obtain ⟨kv,X,Y,h⟩:=WF h;obtain ⟨b,p,i,A⟩:=Cz h;simp only [KO] at i;refine ⟨r,p,_,fun Z N f O u=>?_,i⟩;have y:=l;simp only [XO.off,qd,qpe,ne_eq] at y;obtain ⟨⟨⟨⟨⟨j1,j2⟩,j3⟩,a⟩,Q⟩,R⟩:=y;obtain ⟨e,C,h5,g,hz⟩:=O.mp0 M;obtain ⟨x0,L,h7⟩:=A Z N e C O hz (qmu (qF M)) g;rw [<-u.ev R] at L;obtain ⟨x,n,w,s,k1,k2,k3,k4,k5,k6,k7⟩:=EQ (P:=P) l ((u.ev a).trans hm) (by rw [u.ev Q];exact X) Y h5 g.born g.clk L;have E:∀ H,(AOp.mpe d K z m k).foot (get f) H=(AOp.mpe d K z m k).foot (get r) (hpf q):=fun H=>u.foot (o := .mpe d K z m k) (by simp [AOp.opds,a,Q]) H;refine ⟨_,w,k1,_,[],?_,_,s,k2,(u.junk j1 _).junk j2 _,?_,?_⟩
   . simp only [AOp.sem,evF,St.step,zb,AOp.dst,get,qmA];exact ⟨I n,by simp,by trivial,by trivial⟩
   . show HR Z p (qf (qf (qf N w) []) s);simp only [qf];rw [k3];exact h7
   have T:∀ H,(AOp.est m (.t D) v).foot (get ((D,I n)::(d,.tup [x,I n])::f)) H=(evF (get r) m).ids++(evF (get r) v).ids:=by
    intro H;have V:evF (get ((D,I n)::(d,.tup [x,I n])::f)) (.t D)=I n:=by simp [evF,get]
    simp only [AOp.foot,AOp.looks,AOp.heapy,AOp.more,AOp.opds,qpq,qmH,qoW,k6,k7,V,u.ev a,u.ev R];simp [AV.ids,AV.ids1]
   show _++[((AOp.est m (.t D) v).foot (get ((D,I n)::(d,.tup [x,I n])::f)) _,s.map (·.1))]=_;rw [T,k5];show tr++[((AOp.mpe d K z m k).foot (get f) _,w.map (·.1))]++[((AOp.ext D (.t d) 1).foot _ _,[])]++_=_;rw [E,k4];simp [AOp.foot,AOp.looks,AOp.heapy,AOp.more]
theorem Gt {tr:Tr}:∀ {a b:List AOp} {s:St} {tr:Tr} {K:St->Tr->Prop},QL P a s tr (fun s tr=>QL P b s tr K)->QL P (a++b) s tr K
 | [],b,s,tr,K,h=>h
 | o::a,b,s,tr,K,⟨r,w,u,v⟩=>⟨r,w,u,Gt (tr:=tr) v⟩
def dXs:List XO->D1
 | []=>qkF
 | x::X=>aD (dX x) (dXs X)
theorem Fy (O:HzOK P S H):∀ {X:List XO} {c:KD} {f:FrL} {p:List HObj} {tr:Tr},(X.all (XO.off J))=true->dXs X H c f p tr->∃ r u T,cr P J (X.flatMap XO.ops) f p tr r u T/\c r u T
 | [],c,f,p,tr,_,h=>⟨f,p,tr,fun Z b q y j=>⟨j,y,rfl⟩,h⟩
 | x::X,c,f,p,tr,o,h=>by rw [qmC,qd] at o;obtain ⟨m,e,i,l,d⟩:=qhA O o.1 (show dX x H (dXs X H c) f p tr from h);obtain ⟨v,z,g,w,a⟩:=Fy O o.2 d;refine ⟨v,z,g,fun Z b q y j=>?_,a⟩;rw [qmH];exact Gt (tr:=tr) (QH (fun s t ⟨Q,k,n⟩=>by rw [n];exact w Z s.hp s.fr k Q) (l Z b q y j))
def dXG:List XG->D1
 | []=>qkF
 | ⟨none,o⟩::g=>aD (dXs o) (dXG g)
 | ⟨some (j,b),o⟩::g=>dGd j b (Ya (o.flatMap XO.ops)) ((o.flatMap XO.ops).map fun _=>([],[])) (dXs o) (dXG g)
def qgL (P:Program) (J:List Nat) (g:List Grp) (u:FrL) (p:List HObj) (v:Tr) (r:FrL) (h:List HObj) (T:Tr):Prop :=
 ∀ Z q f,HR Z p q->FJ J u f->zu P g ⟨f,q⟩ v (fun s t=>FJ J r s.fr/\HR Z h s.hp/\t=T)
theorem Hk (i:HzOK P S H):∀ {d:List XG} {c:KD} {v:FrL} {o:List HObj} {z:Tr},(d.all (XG.off J))=true->dXG d H c v o z->∃ y g l,qgL P J (d.map XG.grp) v o z y g l/\c y g l
 | [],c,v,o,z,_,h=>⟨v,o,z,fun Z q f m u=>⟨u,m,rfl⟩,h⟩
 | ⟨none,O⟩::d,c,v,o,z,k,h=>by rw [qmC,qd] at k;obtain ⟨M,X,K,N,Q⟩:=Fy i (by simpa [XG.off] using k.1) (show dXs O H (dXG d H c) v o z from h);obtain ⟨r,p,T,w,a⟩:=Hk i k.2 Q;exact ⟨r,p,T,fun Z q f m u=>QH (fun s t ⟨Y,C,D⟩=>by rw [D];exact w Z s.hp s.fr C Y) (N Z q f m u),a⟩
 | ⟨some (j,b),O⟩::d,c,v,o,z,k,h=>by
   rw [qmC,qd] at k;obtain ⟨x,n⟩:=k;simp only [XG.off,qd] at x;have h:dGd j b (Ya (O.flatMap XO.ops)) ((O.flatMap XO.ops).map fun _=>([],[])) (dXs O) (dXG d) H c v o z:=h;unfold dGd at h;rw [zV] at h;have R:∀ {f},FJ J v f->get f j=get v j:=fun u=>u j (by simpa using x.1)
   have A:ku (Ya (O.flatMap XO.ops)) v (fun v=>flP (z++(O.flatMap XO.ops).map fun _=>([],[])) fun z=>dXG d H c v o z) ->
    ∃ y g l,(∀ Z q f,HR Z o q->FJ J v f->zu P (d.map XG.grp) (zd (O.flatMap XO.ops) ⟨f,q⟩) (z++(O.flatMap XO.ops).map fun _=>([],[])) (fun s t=>FJ J y s.fr/\HR Z g s.hp/\t=l))/\c y g l:=fun h=>by
    rw [OC,zM] at h;obtain ⟨r,p,T,w,a⟩:=Hk i n h;exact ⟨r,p,T,fun Z q f m u=>w Z q _ m (u.app _),a⟩
   split at h
   . rename_i t L;cases e:(Bool.rec (motive:=fun _=>Bool) (!b) b t:Bool) with
     | true =>
       rw [e] at h;have E:t=b:=by cases t <;> cases b <;> first | rfl | cases e
       obtain ⟨M,X,K,N,Q⟩:=Fy i x.2 (show dXs O H (dXG d H c) v o z from h);obtain ⟨r,p,T,w,a⟩:=Hk i n Q;refine ⟨r,p,T,fun Z q f m u=>?_,a⟩;simp only [wI,XG.grp,zu,R u,L];exact ⟨fun _=>QH (fun s t ⟨Y,C,D⟩=>by rw [D];exact w Z s.hp s.fr C Y) (N Z q f m u),fun V=>absurd E V⟩
     | false =>
       rw [e] at h;have E:t≠b:=by cases t <;> cases b <;> first | (cases e;done) | decide
       obtain ⟨r,p,T,w,a⟩:=A (show ku _ _ _ from h);refine ⟨r,p,T,fun Z q f m u=>?_,a⟩;simp only [wI,XG.grp,zu,R u,L];exact ⟨fun e=>absurd e E,fun _=>w Z q f m u⟩
   . rename_i t L;obtain ⟨r,p,T,w,a⟩:=A h;refine ⟨r,p,T,fun Z q f m u=>?_,a⟩;simp only [wI,XG.grp,zu,R u,L];exact w Z q f m u
   exact h.elim
def jOf (s:List XG):List Nat:=s.flatMap fun g=>g.ops.flatMap fun x=>match x with
 | .op _=>[]
 | .ups d _ _ _ _ D _=>[d,D]
 | .bsm .. => []
def okR (g:List XG) (k:List Nat):Bool:=g.all (XG.off (jOf g))&&uM (jOf g) k
end
def RoK (κ:Option Nat) (g:G) (r:Option Nat) (a:AC):Prop:=match κ with
 | none=>r=none\/a.noRf=true
 | some m=>a.noRf=true\/∃ c,r=some c/\g.ρ m=some (.blk c 0)
theorem RoK.imp {κ:Option Nat} {g:G} {ro:Option Nat} {ac ac':AC} (h:RoK κ g ro ac) (k:ac.noRf=true->ac'.noRf=true):RoK κ g ro ac':=by
 cases κ with
 | none=>exact Or.imp id k h
 | some m=>exact Or.imp k id h
theorem RoK.mono {κ:Option Nat} {w w':World} {g g':G} {ro:Option Nat} {ac:AC} (h:RoK κ g ro ac) (t:Trans w g w' g'):RoK κ g' ro ac:=by
 cases κ with
 | none=>exact h
 | some m=>exact Or.imp id (fun ⟨c,y,q⟩=>⟨c,y,t.ρ _ _ q⟩) h
def ZC (κ:Option Nat) (P:Program) (v:World) (u:G) (A:AC) (s:St) (Q:Exit->St->Prop):Prop :=
 ∀ (N:Nat) (c:Go.Code) (a:Act) (w:World) (g:G) (R:Exit->Act->World->Prop) (r:Option Nat) (n:Nat),
   NI P N c A->RoK κ g r A->Trans v u w g->Sim N s a w g->Dc N s a w g Q R->c.wpIn (W r) n P R a w
section
variable {P:Program} {E:HE} {κ:Option Nat} {w1:World} {g1:G}
theorem Vz {A:AC} {s:St} (u:A.noRf=true) (h:Il P w1 g1 A s Q):ZC κ P w1 g1 A s Q:=fun N c a w g R r n f j t v l=>h N c a w g R r n f (.inr u) t v l
theorem YW (Y:YS P E w1 g1) (R:RS P E) {a:AC} {s:St} (n:a.noRf=true) (h:AWP P E a s Q):ZC κ P w1 g1 a s Q:=Vz n (pq Y R h)
theorem ji {x:AC} (h:ZC κ P w1 g1 x t (Exit.th (fun t=>ZC κ P w1 g1 y t Q) Q)):ZC κ P w1 g1 (.seq x y) t Q:=fun N c a w g R b n f z o k l=>by
 cases c <;> first | exact f.elim | skip
 rename_i C c2;have r:RoK κ g b x:=z.imp (fun h=>by simp [AC.noRf] at h;exact h.1);have v:RoK κ g b y:=z.imp (fun h=>by simp [AC.noRf] at h;exact h.2);refine wpIn_seq (h _ _ _ _ _ _ _ _ f.1 r o k fun e M T X V q s u d=>?_);cases e with
 | normal=>exact q _ _ _ _ _ _ _ _ f.2 (v.mono u.tr) (o.trans u.tr) s (fun e j A O p i L m D=>l e j A O p i L (u.trans m) (d.trans u.tr.size m D))
 | _=>exact l _ _ _ _ _ q s u d
theorem Wj {id:Nat} {x:AC} (h:ZC κ P w1 g1 x t (Exit.blk id Q)):ZC κ P w1 g1 (.block id x) t Q:=fun N c a w g R o n f r j v l=>by
 cases c <;> first | exact f.elim | skip
 obtain ⟨rfl,f⟩:=f;refine wpIn_block (h _ _ _ _ _ _ _ _ f (r.imp fun h=>h) j v fun e z A b y q s u d=>?_);cases e with
 | exit i =>
   simp only [Exit.blk] at q;simp only [Exit.inBlock];split
   . rename_i e;rw [if_pos e] at q;exact l _ _ _ _ _ q s u d
   rename_i e;rw [if_neg e] at q;exact l _ _ _ _ _ q s u d
 | _=>exact l _ _ _ _ _ q s u d
theorem Vy {d:Opd} {x:AC} {s:St} {t:Bool} (i:evF (get s.fr) d = .v (.bool t)) (m:t=true->ZC κ P w1 g1 x s Q) (p:t=false->ZC κ P w1 g1 y s Q):ZC κ P w1 g1 (.cond d x y) s Q:=fun N c a w g R o n f z r j l=>by
 cases c <;> first | exact f.elim | skip
 rename_i D C c2;have u:RoK κ g o x:=z.imp (fun h=>by simp [AC.noRf] at h;exact h.1);have v:RoK κ g o y:=z.imp (fun h=>by simp [AC.noRf] at h;exact h.2);obtain ⟨k,q,b⟩:=f;have:=qr j.2.1 k;rw [i] at this;have L:a.eval D = .bool t:=zZ this;exact wpIn_cond_split L (fun e=>m e _ _ _ _ _ _ _ _ q u r j l) (fun e=>p e _ _ _ _ _ _ _ _ b v r j l)
theorem MG {x:AC} {O:St} (I:α->St) (C:α->Prop) (μ:α->Nat) (z:α) (J:C z) (t:St.le O (I z)) (r:∀ b,C b->ZC κ P w1 g1 x (I b) (Exit.th (Next I C μ b) Q)):ZC κ P w1 g1 (.loop x) O Q:=fun N c a w g R ro n f hr ht hs hl=>by
 cases c <;> first | exact f.elim | skip
 rename_i c;have f:NI P N c x:=f;obtain ⟨q,k,M⟩:=t N a w g hs;let Inv:Nat->Act->World->Prop:=fun m A v=>∃ b y,C b/\μ b=m/\Sim N (I b) A v y/\Upd (hpf O.hp) g w (hpf (I b).hp) y v/\DStep w a (hpf (I b).hp) y v A
 have L:∀ (m:Nat) (A:Act) (v:World),Inv m A v->(Code.loop c).wpIn (W ro) n P R A v:=fun m=>by
  intro A v K;refine qpG Inv m K ?_;intro m A v ⟨b,y,hb,hm,p,u,d⟩;refine r b hb _ _ _ _ _ _ _ _ f ((hr.imp (ac':=x) fun h=>h).mono u.tr) (ht.trans u.tr) p fun e x1 Y w2 q V X o D=>?_;cases e with
  | normal =>obtain ⟨T,s,x0,l⟩:=V;obtain ⟨Z,i,j⟩:=l N Y w2 q X;exact ⟨μ T,by omega,T,Z,s,rfl,i,(u.trans o).trans j,(d.trans u.tr.size o D).keep j⟩
  | _=>exact hl _ _ _ _ _ V X (u.trans o) (d.trans u.tr.size o D)
 exact L (μ z) a w ⟨z,q,J,rfl,k,M,.nil rfl⟩
theorem zI {x:AC} {s:St} {u:Exit->St->Prop} (v:∀ e s,Q e s->u e s) (h:ZC κ P w1 g1 x s Q):ZC κ P w1 g1 x s u:=fun N c a w g R o n f r t j l =>
 h N c a w g R o n f r t j fun e s a w g q=>l e s a w g (v e s q)
theorem Tw {x:AC} (h:ZC κ P w1 g1 x t (Exit.ng Q)):ZC κ P w1 g1 (.scope x) t Q:=fun N c a w g R b n f r j v u=>by
 cases c <;> first | exact f.elim | skip
 refine jd (h _ _ _ _ _ _ _ _ f (r.imp fun h=>h) j v fun e y A m o q s z d=>?_);cases e with
 | goto l=>exact q.elim
 | _=>exact u _ _ _ _ _ q s z d
end
section
variable {P:Program} {E:HE} {N:Nat} {ro:Option Nat} {n:Nat}
theorem Ig {w0:World} {g0:G} {C:G} {g':Operand} {Y:Array Tmp} {A o:Code} {x:AC} {a:Act} {fr:List (Nat×AV)} {id:Nat} {L:Loop} {D:Nat}
 (y9:∀ {Z:St} {Q:Exit->St->Prop} {a:Act} {w:World} {g:G} {R:Exit->Act->World->Prop} {n:Nat},ZC (some id) P w0 g0 x Z Q->Trans w1 C w g->g.ρ id=some (.blk D 0)->Sim N Z a w g->Dc N Z a w g Q R->A.wpIn (W (some D)) n P R a w)
 (z0:∀ {Z:St} {Q:Exit->St->Prop} {a:Act} {w:World} {g:G} {R:Exit->Act->World->Prop} {n:Nat},ZC (some id) P w0 g0 y Z Q->Trans w1 C w g->g.ρ id=some (.blk D 0)->Sim N Z a w g->Dc N Z a w g Q R->o.wpIn (W (some D)) n P R a w)
 (hL:C.ρ (id+1)=some (.base L)) (y5:C.ρ id=some (.blk D 0)) (y1:L.assign=A) (y2:L.body=o) (O:L.params=Y) (x1:L.tmps=a.tmps) (y8:∀ p∈Y.toList,p<N) (hN:a.tmps.size=N)
 (hF:FrOK w1 C (get fr) a) {xs:List AV}  (y7:hpf hp id=some (.lp .ready (id+1))) (l:xs.length=Y.toList.length)
 (h:ZC (some id) P w0 g0 x { fr:=putPs Y.toList xs fr,hp:=hp } (Exit.th (fun s=>hpf s.hp id=some (.lp .ready (id+1))/\ZC (some id) P w0 g0 y { fr:=s.fr,hp:=qz s.hp id (.lp .busy (id+1)) } (Jq id K)) (fun _ _=>False))) :
 bn P w1 C id xs hp K:=by
 intro ro n w g c vs x4 z hc x9 x5;have x0:=z.ρ _ _ hL;have T:=z.ρ _ _ y5;rw [hc] at T;simp only [xl,Loc.blk.injEq,qoM] at T;subst T;obtain ⟨c',k1,k2,k3⟩:=Pk x4 y7 x0;rw [hc] at k1;simp only [xl,Loc.blk.injEq,qoM] at k1;subst k1;have z2:w.heap[c]?=some (.loop { L with state := .ready,pending:=none }):=k2;have z1:=run_yield (P:=P) (args:=vs) z2 (by rw [x9,l,O];simp);refine ⟨L.fn,_,L.assign,L.body,z1,roundIn_of_wpIn (by trivial) ?_⟩;rw [y1,y2];show A.wpIn (W (some c)) n P _ _ w;have ht:(Y.zip vs).foldl (fun tmps (t,a)=>tmps.setIfInBounds t a) a.tmps=(Y.toList.zip vs.toList).foldl (fun tmps (t,a)=>tmps.setIfInBounds t a) a.tmps:=by rw [<-qpl,Array.toList_zip]
 have x8:Sim N { fr:=putPs Y.toList xs fr,hp:=hp } { tmps:=(L.params.zip vs).foldl (fun tmps (t,a)=>tmps.setIfInBounds t a) L.tmps,defers:=[] } w g:=by
  refine ⟨?_,?_,x4⟩
  . rw [O,x1,ht,YL];exact hN
  rw [O,x1,ht];refine FrOK.putPs (df:=[]) (fun p hp=>by rw [hN];exact y8 p hp) l (by simp [x9,l]) (fun i=>(hF i).mono z) (fun i hi=>?_);have:=x5 i hi;simpa [show i<vs.size by omega] using this
 refine y9 h z hc x8 ?_;intro e s a1 w2 g2 hq f d z3;cases e with
 | normal =>
   obtain ⟨k,hb⟩:=hq;have M:=d.tr.ρ _ _ x0;have m:=d.tr.ρ _ _ hc;obtain ⟨c',j1,j2,j3⟩:=Pk f.2.2 k M;rw [m] at j1;simp only [xl,Loc.blk.injEq,qoM] at j1;subst j1;have y4:=run_beginRound (P:=P) (r:={ L with state := .ready,pending:=none }) j2 rfl;obtain ⟨s1,s2⟩:=KV (s' := .busy) f.2.2 k M m;refine ⟨_,y4,?_⟩;show o.wpIn (W (some c)) n P _ a1 _;have V:Sim N { fr:=s.fr,hp:=qz s.hp id (.lp .busy (id+1)) } a1 (w2.putObj c (.loop { L with state := .busy,pending:=none })) g2:=⟨f.1,fun i=>(f.2.1 i).mono s2.tr,s1⟩;refine z0 hb ((z.trans d.tr).trans s2.tr) (s2.tr.ρ _ _ m) V ?_;intro e3 y0 a3 w3 g3 q x7 X z4;have J:=X.tr.ρ _ _ M;have x3:=X.tr.ρ _ _ m
   have fin:∀ (j:Option Code) (s':LpSt) (b:Bool),hpf y0.hp id=some (.lp .busy (id+1))->K (B b) (qz y0.hp id (.lp s' (id+1)))->b=j.isNone->s'.state=(if j.isNone then .ready else .done)->s'.pend=j ->
    ∃ v w',(Instr.endRound c j).run P w3 = .ok v w'/\∃ v' r u g',Ending.returned v = .returned v'/\K r u/\Rep w' g' false r v'/\HeapOK (hpf u) g' w'/\Upd (hpf hp) g w (hpf u) g' w':=fun j s' b x2 hK y3 x6 u=>by
    obtain ⟨c',i1,i2,i3⟩:=Pk x7.2.2 x2 J;rw [x3] at i1;simp only [xl,Loc.blk.injEq,qoM] at i1;subst i1;have y6:=run_endRound (P:=P) (r:={ L with state := .busy,pending:=none }) j i2;obtain ⟨u1,u2⟩:=KV (s':=s') x7.2.2 x2 J x3;refine ⟨_,_,y6,_,B b,_,g3,rfl,hK,by rw [y3];exact .v _ _,?_,?_⟩
    . rw [<-x6,<-u];exact u1
    rw [<-x6,<-u];exact ((d.trans s2).trans X).trans u2
   cases e3 with
   | normal=>exact fin none .ready true q.1 q.2 rfl rfl rfl
   | ret=>exact fin (some .ret) (.done none) false q.1 q.2 rfl rfl rfl
   | exit i=>exact fin (some (.exit i)) (.done (some i)) false q.1 q.2 rfl rfl rfl
   | _=>exact q.elim
 | _=>exact hq.elim
theorem Od {g1:G} (hR:RS P E) {gg:Opd} {qs:List Nat} {x:AC}  (h:∃ K0,E.R (evF (get t.fr) gg) t.hp (fun xs p K'=>hpf p t.hp.length=some (.lp .ready (t.hp.length+1))/\xs.length=qs.length /\
  ZC (some t.hp.length) P w1 g1 x { fr:=putPs qs xs t.fr,hp:=p } (Exit.th (fun k=>hpf k.hp t.hp.length=some (.lp .ready (t.hp.length+1))/\ZC (some t.hp.length) P w1 g1 y { fr:=k.fr,hp:=qz k.hp t.hp.length (.lp .busy (t.hp.length+1)) } (Jq t.hp.length K')) (fun _ _=>False))) K0 /\
  ∀ p,K0 p->Vu t.hp.length t.fr ks Q p):ZC none P w1 g1 (.rf gg qs x y ks) t Q:=fun N c a w g R ro n hf hr ht hs hl=>by
 cases c <;> first | exact hf.elim | skip
 rename_i g' ps assign body;obtain ⟨hg,rfl,u5,hx,hy⟩:=hf;have u6:ro=none:=Or.resolve_right (show ro=none\/_ from hr) (by simp [AC.noRf]);subst u6;obtain ⟨K0,z1,x3⟩:=h;obtain ⟨f,x2,hv,y1,V⟩:=hR _ _ _ _ z1;obtain ⟨id,L⟩:∃ id,id=t.hp.length:=⟨_,rfl⟩;rw [<-L] at V x3;have eg:=qr hs.2.1 hg;rw [hv] at eg;generalize z7:a.eval g'=gv at eg;cases eg with
 | fn _ _ _ _ as bs la lb ra rb =>
   have u9:as=[]:=qmk (by simpa using la);subst u9;refine qpL ?_;intro fn v3;obtain ⟨b,u⟩:∃ b:Loop,b={ state := .ready,pending:=none,fn,tmps:=a.tmps,params:=ps,assign,body,defers:=w.heap.size }:=⟨_,rfl⟩;obtain ⟨x4,u7⟩:=hs.2.2.allocX (.deferred (some []));have z9:hpf t.hp (id+1)=none:=by simp [hpf,L]
   obtain ⟨y4,u8⟩:=x4.mark z9 b;have u0:Hp.set (hpf t.hp) (id+1) .gone id=none:=by rw [Hp.set_other _ _ (by omega)];simp [hpf,L]
   have v5:(w.alloc (.deferred (some []))).heap.size=w.heap.size+1:=by simp
   obtain ⟨M,x0⟩:=y4.allocO u0 (.loop b) (.lp .ready (id+1)) (fun tr=>⟨b,tr.ρ _ _ (by simp [G.home]),by rw [zk,u];rfl,rfl,fun q h=>WL x4 q h⟩);have y5:hpf (t.hp++[.lp .ready (id+1),.gone])=Hp.set (Hp.set (hpf t.hp) (id+1) .gone) id (.lp .ready (id+1)):=by rw [L];exact GR _ _ _
   rw [<-y5] at M x0;obtain ⟨O,x6⟩:∃ O,O=(w.alloc (.deferred (some []))).alloc (.loop b):=⟨_,rfl⟩;rw [<-x6] at M x0;obtain ⟨T,C⟩:∃ T,T=(g.home (id+1) (.base b)).home id (.blk (w.alloc (.deferred (some []))).heap.size 0):=⟨_,rfl⟩;rw [<-C] at M x0;have x9:T.ρ (id+1)=some (.base b):=by rw [C];simp [G.home]
   have Z:T.ρ id=some (.blk (w.heap.size+1) 0):=by rw [C];simp [G.home]
   have x1:=(u7.trans u8).trans x0;have y8:=ht.trans x1.tr
   have X:∀ xs p K',(hpf p id=some (.lp .ready (id+1))/\xs.length=ps.toList.length /\
    ZC (some id) P w1 g1 x { fr:=putPs ps.toList xs t.fr,hp:=p } (Exit.th (fun k=>hpf k.hp id=some (.lp .ready (id+1))/\ZC (some id) P w1 g1 y { fr:=k.fr,hp:=qz k.hp id (.lp .busy (id+1)) } (Jq id K')) (fun _ _=>False)))->bn P O T id xs p K':=fun xs p K' ⟨q1,q2,q3⟩=>by
    exact Ig (g':=g') (a:=a) (fun {t Q a w g R n} f3 f4 f7 f5 f6=>f3 _ _ _ _ _ _ _ _ hx (.inr ⟨_,rfl,f7⟩) (y8.trans f4) f5 f6) (fun {t Q a w g R n} f3 f4 f7 f5 f6=>f3 _ _ _ _ _ _ _ _ hy (.inr ⟨_,rfl,f7⟩) (y8.trans f4) f5 f6) x9 Z (by rw [u]) (by rw [u]) (by rw [u]) (by rw [u]) u5 hs.1 (fun i=>(hs.2.1 i).mono x1.tr) q1 q2 q3
   have hc:=V O T X;refine ⟨w.heap.size+1,[mark w.heap.size],O,{ target := .fn (.func f) bs.toArray,args:=#[.func (.yield (w.heap.size+1)) #[] #[]] },O,f,#[.func (.yield (w.heap.size+1)) #[] #[]]++bs.toArray,O,?_,?_,fun _ _=>trivial,?_,fun h=>by simp [Fence.wide] at h,?_⟩
   . rw [x6,u];exact run_enterLoop_outer _ _ _ _ _
   . simp only [resolve,z7];simp [go_sem]
   . simp [invoke,zS y1]
   have x7:∀ i (h:i<(AV.yl id::x2).length),Rep O T false (AV.yl id::x2)[i] ((#[Value.func (.yield (w.heap.size+1)) #[] #[]]++bs.toArray).getD i undef):=fun i hi=>by
    cases i with
    | zero=>simpa using Rep.yl (w:=O) (g:=T) id (w.heap.size+1) Z
    | succ i =>have h2:=(rb i (by simpa using hi)).mono x1.tr;simp only [qna];simp only [qmB,qmp] at h2 ⊢;rw [qnb (by simp)];simpa using h2
   have z3:=hc none (n - 1) O T (#[Value.func (.yield (w.heap.size+1)) #[] #[]]++bs.toArray) M (.refl _ _) (by simp [lb]) x7;refine z3.mono ?_;rintro e w2 ⟨v,r,p,g2,rfl,hK,v4,x5,A⟩;have he:=x3 p hK;have v0:=A.tr.ρ _ _ x9;have y0:=A.tr.ρ _ _ Z;have z0:O.heap[w.heap.size]?=some (.deferred (some [])):=by rw [x6];exact (qne _ _ _ (by simp)).trans (zk _ _)
   have K:¬ UU (hpf (t.hp++[.lp .ready (id+1),.gone])) T w.heap.size:=by
    rintro ⟨i,o,d,ho,hl,hr⟩;rw [y5] at ho;by_cases e:i=id
    . subst e;rw [Z] at hr;simp at hr
    rw [Hp.set_other _ _ e] at ho;by_cases e2:i=id+1
    . subst e2;rw [Hp.set_same] at ho;cases ho;cases hl
    rw [Hp.set_other _ _ e2] at ho;rw [C] at hr;simp [G.home,e,e2] at hr;exact absurd (hs.2.2.lt ho hl hr) (qny _)
   have z4:DStep w a (hpf (t.hp++[.lp .ready (id+1),.gone])) T O { a with defers:=[mark w.heap.size]++a.defers } :=
    ⟨[w.heap.size],rfl,by simp,fun D hD=>by simp at hD;subst hD;exact ⟨Qs _,z0,K⟩⟩
   have fin:∀ (s:LpSt) (mk:Nat) (Qe:Exit) (J:Option Code),hpf p id=some (.lp s mk)->s.state ≠ .busy->s.pend=J->(∀ Y w4,Sim N { fr:=t.fr,hp:=qz p id .gone } { a with defers:=[mark w.heap.size]++a.defers } w4 Y->Upd (hpf t.hp) g w (hpf (qz p id .gone)) Y w4->DStep w a (hpf (qz p id .gone)) Y w4 { a with defers:=[mark w.heap.size]++a.defers } ->
    (match J with
     | none=>R .normal { a with defers:=[mark w.heap.size]++a.defers } w4
     | some c=>c.wpIn (W none) n P R { a with defers:=[mark w.heap.size]++a.defers } w4)) ->
    ∃ J w₄,(Instr.endLoop (w.heap.size+1)).run P w2 = .ok J w₄ /\
    (match J with
     | none=>R .normal { a with defers:=[mark w.heap.size]++a.defers } w₄
     | some c=>c.wpIn (W none) n P R { a with defers:=[mark w.heap.size]++a.defers } w₄):=fun s mk Qe J z y7 u3 z6=>by
    subst u3;have z8:∃ L',g2.ρ mk=some (.base L')/\w2.heap[w.heap.size+1]?=some (.loop { L' with state:=s.state,pending:=s.pend }):=by obtain ⟨l,h1,h2⟩:=x5.rep id _ z;rw [y0] at h1;cases h1;obtain ⟨L',m0,m1,m2,m3⟩:=h2;exact ⟨L',m0,m1⟩
    obtain ⟨L',z2,y3⟩:=z8;have z5:=run_endLoop (P:=P) (r:={ L' with state:=s.state,pending:=s.pend }) y3 y7
    have x8:∃ s':LpSt,s'.state = .exhausted/\s'.pend=s.pend:=by
     cases s with
     | ready=>exact ⟨.over none,rfl,rfl⟩
     | busy=>exact absurd rfl y7
     | done j =>
       cases j with
       | none=>exact ⟨.over (some none),rfl,rfl⟩
       | some i=>exact ⟨.over (some (some i)),rfl,rfl⟩
     | over j=>exact ⟨.over j,rfl,rfl⟩
    obtain ⟨s',e1,e2⟩:=x8;obtain ⟨u1,u2⟩:=KV (s':=s') x5 z z2 y0;rw [e1,e2] at u1 u2;have m:id<p.length:=qF z;have y2:hpf (qz p id (.lp s' mk)) id=some (.lp s' mk):=by rw [Zg (qmu m)];exact Hp.set_same _ _ _
    obtain ⟨v1,v2⟩:=u1.drop y2;have y6:Hp.set (hpf (qz p id (.lp s' mk))) id .gone=hpf (qz p id .gone):=by rw [Zg (qmu m),Zg (qmu m),Hp.set_set]
    rw [y6] at v1 v2;have y9:=((x1.trans A).trans u2).trans v2;refine ⟨_,_,z5,?_⟩;exact z6 g2 _ ⟨hs.1,fun i=>(hs.2.1 i).mono y9.tr,v1⟩ y9 (((z4.keep A).keep u2).keep v2)
   simp only [Vu] at he;show ∃ J w₄,_/\_;split at he
   . rename_i z;exact fin .ready _ .normal none z (by simp [LpSt.state]) rfl (fun Y w4 s4 u4 d4=>hl _ _ _ _ Y he (s4.keep ks) u4 d4)
   . rename_i z;exact fin (.done none) _ .ret (some .ret) z (by simp [LpSt.state]) rfl (fun Y w4 s4 u4 d4=>wpIn_ret (hl _ _ _ _ Y he s4 u4 d4))
   . rename_i i _ z;exact fin (.done (some i)) _ (.exit i) (some (.exit i)) z (by simp [LpSt.state]) rfl (fun Y w4 s4 u4 d4=>wpIn_exit (hl _ _ _ _ Y he s4 u4 d4))
   exact he.elim
theorem Tv {g1:G} {m0:Nat} (hR:RS P E) {gg:Opd} {qs:List Nat} {x:AC} {s0:LpSt} {u8:Nat} (y0:hpf t.hp m0=some (.lp s0 u8))
 (h:∃ K0,E.R (evF (get t.fr) gg) t.hp (fun xs p K'=>hpf p t.hp.length=some (.lp .ready (t.hp.length+1))/\xs.length=qs.length /\
  ZC (some t.hp.length) P w1 g1 x { fr:=putPs qs xs t.fr,hp:=p } (Exit.th (fun b=>hpf b.hp t.hp.length=some (.lp .ready (t.hp.length+1))/\ZC (some t.hp.length) P w1 g1 y { fr:=b.fr,hp:=qz b.hp t.hp.length (.lp .busy (t.hp.length+1)) } (Jq t.hp.length K')) (fun _ _=>False))) K0 /\
  ∀ p,K0 p->Vu t.hp.length t.fr ks Q p):ZC (some m0) P w1 g1 (.rf gg qs x y ks) t Q:=fun N c a w g R ro n hf hr ht hs hl=>by
 cases c <;> first | exact hf.elim | skip
 rename_i g' ps assign body;obtain ⟨hg,rfl,u0,hx,hy⟩:=hf;obtain ⟨l0,u5,z4⟩:∃ c,ro=some c/\g.ρ m0=some (.blk c 0):=Or.resolve_left (show _\/_ from hr) (by simp [AC.noRf]);subst u5;obtain ⟨r0,u3⟩:∃ r0,w.heap[l0]?=some (.loop r0):=by obtain ⟨l,k1,k2⟩:=hs.2.2.rep m0 _ y0;rw [z4] at k1;cases k1;obtain ⟨L,_,k3,_⟩:=k2;exact ⟨_,k3⟩
 obtain ⟨K0,y7,K⟩:=h;obtain ⟨f,D,hv,x8,O⟩:=hR _ _ _ _ y7;obtain ⟨id,m⟩:∃ id,id=t.hp.length:=⟨_,rfl⟩;rw [<-m] at O K;have eg:=qr hs.2.1 hg;rw [hv] at eg;generalize z3:a.eval g'=gv at eg;cases eg with
 | fn _ _ _ _ as bs la lb ra rb =>
   have u7:as=[]:=qmk (by simpa using la);subst u7;refine qpL ?_;intro fn v0;obtain ⟨o,u⟩:∃ o:Loop,o={ state := .ready,pending:=none,fn,tmps:=a.tmps,params:=ps,assign,body,defers:=r0.defers }:=⟨_,rfl⟩;have A:=hs.2.2;have z6:hpf t.hp (id+1)=none:=by simp [hpf,m]
   obtain ⟨y2,u6⟩:=A.mark z6 o;have z7:Hp.set (hpf t.hp) (id+1) .gone id=none:=by rw [Hp.set_other _ _ (by omega)];simp [hpf,m]
   obtain ⟨k,Z⟩:=y2.allocO z7 (.loop o) (.lp .ready (id+1)) (fun tr=>⟨o,tr.ρ _ _ (by simp [G.home]),by rw [zk,u];rfl,rfl,fun q h=>WL A q h⟩);have z8:hpf (t.hp++[.lp .ready (id+1),.gone])=Hp.set (Hp.set (hpf t.hp) (id+1) .gone) id (.lp .ready (id+1)):=by rw [m];exact GR _ _ _
   rw [<-z8] at k Z;obtain ⟨M,x6⟩:∃ M,M=w.alloc (.loop o):=⟨_,rfl⟩;rw [<-x6] at k Z;obtain ⟨V,x3⟩:∃ V,V=(g.home (id+1) (.base o)).home id (.blk w.heap.size 0):=⟨_,rfl⟩;rw [<-x3] at k Z;have x5:V.ρ (id+1)=some (.base o):=by rw [x3];simp [G.home]
   have x2:V.ρ id=some (.blk (w.heap.size) 0):=by rw [x3];simp [G.home]
   have C:=u6.trans Z;have y5:=ht.trans C.tr
   have T:∀ xs p K',(hpf p id=some (.lp .ready (id+1))/\xs.length=ps.toList.length /\
    ZC (some id) P w1 g1 x { fr:=putPs ps.toList xs t.fr,hp:=p } (Exit.th (fun b=>hpf b.hp id=some (.lp .ready (id+1))/\ZC (some id) P w1 g1 y { fr:=b.fr,hp:=qz b.hp id (.lp .busy (id+1)) } (Jq id K')) (fun _ _=>False)))->bn P M V id xs p K':=fun xs p K' ⟨q1,q2,q3⟩=>by
    exact Ig (g':=g') (a:=a) (fun {t Q a w g R n} f3 f4 f7 f5 f6=>f3 _ _ _ _ _ _ _ _ hx (.inr ⟨_,rfl,f7⟩) (y5.trans f4) f5 f6) (fun {t Q a w g R n} f3 f4 f7 f5 f6=>f3 _ _ _ _ _ _ _ _ hy (.inr ⟨_,rfl,f7⟩) (y5.trans f4) f5 f6) x5 x2 (by rw [u]) (by rw [u]) (by rw [u]) (by rw [u]) u0 hs.1 (fun i=>(hs.2.1 i).mono C.tr) q1 q2 q3
   have hc:=O M V T;refine ⟨w.heap.size,[],M,{ target := .fn (.func f) bs.toArray,args:=#[.func (.yield (w.heap.size)) #[] #[]] },M,f,#[.func (.yield (w.heap.size)) #[] #[]]++bs.toArray,M,?_,?_,fun _ _=>trivial,?_,fun h=>by simp [Fence.wide] at h,?_⟩
   . rw [x6,u];exact run_enterLoop_inner u3 _ _ _ _ _
   . simp only [resolve,z3];simp [go_sem]
   . simp [invoke,zS x8]
   have x1:∀ i (h:i<(AV.yl id::D).length),Rep M V false (AV.yl id::D)[i] ((#[Value.func (.yield (w.heap.size)) #[] #[]]++bs.toArray).getD i undef):=fun i hi=>by
    cases i with
    | zero=>simpa using Rep.yl (w:=M) (g:=V) id (w.heap.size) x2
    | succ i =>have h2:=(rb i (by simpa using hi)).mono C.tr;simp only [qna];simp only [qmB,qmp] at h2 ⊢;rw [qnb (by simp)];simpa using h2
   have y9:=hc (some l0) (n - 1) M V (#[Value.func (.yield (w.heap.size)) #[] #[]]++bs.toArray) k (.refl _ _) (by simp [lb]) x1;refine y9.mono ?_;rintro e w2 ⟨v,r,p,g2,rfl,hK,v3,x0,Y⟩;have he:=K p hK;have u9:=Y.tr.ρ _ _ x5;have x7:=Y.tr.ρ _ _ x2;have z0:DStep w a (hpf (t.hp++[.lp .ready (id+1),.gone])) V M { a with defers:=[]++a.defers } := .nil rfl
   have fin:∀ (s:LpSt) (mk:Nat) (Qe:Exit) (J:Option Code),hpf p id=some (.lp s mk)->s.state ≠ .busy->s.pend=J->(∀ X w4,Sim N { fr:=t.fr,hp:=qz p id .gone } { a with defers:=[]++a.defers } w4 X->Upd (hpf t.hp) g w (hpf (qz p id .gone)) X w4->DStep w a (hpf (qz p id .gone)) X w4 { a with defers:=[]++a.defers } ->
    (match J with
     | none=>R .normal { a with defers:=[]++a.defers } w4
     | some c=>c.wpIn (W (some l0)) n P R { a with defers:=[]++a.defers } w4)) ->
    ∃ J w₄,(Instr.endLoop (w.heap.size)).run P w2 = .ok J w₄ /\
    (match J with
     | none=>R .normal { a with defers:=[]++a.defers } w₄
     | some c=>c.wpIn (W (some l0)) n P R { a with defers:=[]++a.defers } w₄):=fun s mk Qe J z y4 z9 z2=>by
    subst z9;have z5:∃ L',g2.ρ mk=some (.base L')/\w2.heap[w.heap.size]?=some (.loop { L' with state:=s.state,pending:=s.pend }):=by obtain ⟨l,h1,h2⟩:=x0.rep id _ z;rw [x7] at h1;cases h1;obtain ⟨L',m0,m1,m2,m3⟩:=h2;exact ⟨L',m0,m1⟩
    obtain ⟨L',y8,y1⟩:=z5;have z1:=run_endLoop (P:=P) (r:={ L' with state:=s.state,pending:=s.pend }) y1 y4
    have x4:∃ s':LpSt,s'.state = .exhausted/\s'.pend=s.pend:=by
     cases s with
     | ready=>exact ⟨.over none,rfl,rfl⟩
     | busy=>exact absurd rfl y4
     | done j =>
       cases j with
       | none=>exact ⟨.over (some none),rfl,rfl⟩
       | some i=>exact ⟨.over (some (some i)),rfl,rfl⟩
     | over j=>exact ⟨.over j,rfl,rfl⟩
    obtain ⟨s',e1,e2⟩:=x4;obtain ⟨u1,u2⟩:=KV (s':=s') x0 z y8 x7;rw [e1,e2] at u1 u2;have d:id<p.length:=qF z;have x9:hpf (qz p id (.lp s' mk)) id=some (.lp s' mk):=by rw [Zg (qmu d)];exact Hp.set_same _ _ _
    obtain ⟨v1,v2⟩:=u1.drop x9;have y3:Hp.set (hpf (qz p id (.lp s' mk))) id .gone=hpf (qz p id .gone):=by rw [Zg (qmu d),Zg (qmu d),Hp.set_set]
    rw [y3] at v1 v2;have y6:=((C.trans Y).trans u2).trans v2;refine ⟨_,_,z1,?_⟩;exact z2 g2 _ ⟨hs.1,fun i=>(hs.2.1 i).mono y6.tr,v1⟩ y6 (((z0.keep Y).keep u2).keep v2)
   simp only [Vu] at he;show ∃ J w₄,_/\_;split at he
   . rename_i z;exact fin .ready _ .normal none z (by simp [LpSt.state]) rfl (fun X w4 s4 u4 d4=>hl _ _ _ _ X he (s4.keep ks) u4 d4)
   . rename_i z;exact fin (.done none) _ .ret (some .ret) z (by simp [LpSt.state]) rfl (fun X w4 s4 u4 d4=>wpIn_ret (hl _ _ _ _ X he s4 u4 d4))
   . rename_i i _ z;exact fin (.done (some i)) _ (.exit i) (some (.exit i)) z (by simp [LpSt.state]) rfl (fun X w4 s4 u4 d4=>wpIn_exit (hl _ _ _ _ X he s4 u4 d4))
   exact he.elim
end
def G.cutL (g:G) (n:Nat):G:={ g with ρ:=fun id=>if id<n then g.ρ id else none }
def ltV:Nat->Nat->AV->Bool
 | _,_,.v _=>true
 | _,_,.any=>true
 | _,_,.sl .. => true
 | _,_,.ptr .. => true
 | _,n,.ref i _=>Nat.blt i n
 | _,n,.ms i _ _ _=>Nat.blt i n
 | _,n,.mc i _ _ _ _=>Nat.blt i n
 | _,n,.mp i=>Nat.blt i n
 | _,n,.yl i=>Nat.blt i n
 | 0,_,_=>false
 | d+1,n,.agg c=>c.all (ltV d n)
 | d+1,n,.tup c=>c.all (ltV d n)
 | d+1,n,.fn _ as b=>as.all (ltV d n)&&b.all (ltV d n)
def ltO (n:Nat):HObj->Bool
 | .cells c=>c.all (ltV 4 n)
 | .mp E _=>E.all fun e=>ltV 4 n e.2.2
 | .mpp _=>false
 | .it m _ _ _=>Nat.blt m n
 | .lp _ M=>Nat.blt M n
 | .gone=>true
theorem Eu {g:G} :∀ (d:Nat) {x:AV} {p:Bool} {v:Value},ltV d n x=true->Rep w g p x v->Rep w (g.cutL n) p x v:=by
 have A:∀ {id},id<n->(g.cutL n).ρ id=g.ρ id:=fun h=>by simp [G.cutL,h]
 have X:∀ {d:Nat} {x:AV} {p:Bool} {v:Value},ltV d n x=true->(∀ s,x ≠ .agg s)->(∀ s,x ≠ .tup s)->(∀ f as Q,x ≠ .fn f as Q)->Rep w g p x v->Rep w (g.cutL n) p x v:=fun {d x p v} u h1 h2 h3 h=>by
  cases h with
  | v p x=>exact .v _ _
  | any p x=>exact .any _ _
  | sl p R m s a C V D Z O z=>exact .sl _ _ _ _ a C V D Z O (fun i j=>(z i j).pure rfl _)
  | ptr p s off b o V O z=>exact .ptr _ _ _ b o V O (fun i j=>(z i j).pure rfl _)
  | agg p s V y z=>exact absurd rfl (h1 s)
  | tup p s V y z=>exact absurd rfl (h2 s)
  | fn p f as Q E J _ _ _ _=>exact absurd rfl (h3 f as Q)
  | ref id off c e y=>exact .ref _ _ c e ((A (zJ (by cases d <;> exact u))).trans y)
  | ms id off m P c e C r T N K t L M=>exact .ms _ _ _ _ c e C r T N ((A (zJ (by cases d <;> exact u))).trans K) t L M
  | msz id off P a l K=>exact .msz _ _ _ a l ((A (zJ (by cases d <;> exact u))).trans K)
  | mp id c e k=>exact .mp _ c e ((A (zJ (by cases d <;> exact u))).trans k)
  | mc id off m C P c e r T N K t L M=>exact .mc _ _ _ _ _ c e r T N ((A (zJ (by cases d <;> exact u))).trans K) t L M
  | mcz id off P a l K=>exact .mcz _ _ _ a l ((A (zJ (by cases d <;> exact u))).trans K)
  | yl id c k=>exact .yl _ c ((A (zJ (by cases d <;> exact u))).trans k)
 intro d
 induction d with
 | zero =>intro x p v u h;exact X u (fun s e=>by subst e;cases u) (fun s e=>by subst e;cases u) (fun f as Q e=>by subst e;cases u) h
 | succ d Y =>
   intro x p v u h;cases h with
   | agg p s V q z =>have u:s.all (ltV d n)=true:=u;exact .agg _ _ V q fun i j=>Y (LL.1 u _ (qmr j)) (z i j)
   | tup p s V q z =>have u:s.all (ltV d n)=true:=u;exact .tup _ _ V q fun i j=>Y (LL.1 u _ (qmr j)) (z i j)
   | fn p f as Q E J K t L M =>have u:(as.all (ltV d n)&&Q.all (ltV d n))=true:=u;rw [qd] at u;exact .fn _ _ _ _ E J K t (fun i j=>Y (LL.1 u.1 _ (qmr j)) (L i j)) (fun i j=>Y (LL.1 u.2 _ (qmr j)) (M i j))
   | v p x=>exact .v _ _
   | any p x=>exact .any _ _
   | sl p R m s a C V D Z O z=>exact .sl _ _ _ _ a C V D Z O (fun i j=>(z i j).pure rfl _)
   | ptr p s off b o V O z=>exact .ptr _ _ _ b o V O (fun i j=>(z i j).pure rfl _)
   | ref id off c e y=>exact .ref _ _ c e ((A (zJ u)).trans y)
   | ms id off m P c e C r T N K t L M=>exact .ms _ _ _ _ c e C r T N ((A (zJ u)).trans K) t L M
   | msz id off P a l K=>exact .msz _ _ _ a l ((A (zJ u)).trans K)
   | mp id c e k=>exact .mp _ c e ((A (zJ u)).trans k)
   | mc id off m C P c e r T N K t L M=>exact .mc _ _ _ _ _ c e r T N ((A (zJ u)).trans K) t L M
   | mcz id off P a l K=>exact .mcz _ _ _ a l ((A (zJ u)).trans K)
   | yl id c k=>exact .yl _ c ((A (zJ u)).trans k)
def LeT (L:Nat) (t s:St):Prop:=∀ N a w g j v h,(∀ id l,v.ρ id=some l->id<L)->Sim N t a w g->Upd h v j (hpf t.hp) g w->∃ u,Sim N s a w u/\Upd h v j (hpf s.hp) u w/\∀ c,UU (hpf s.hp) u c->UU (hpf t.hp) g c\/w.heap.size<=c
theorem LeT.of {e y:St} (h:St.le e y):LeT L e y:=fun N a w g w0 g0 K _ A hu=>by obtain ⟨O,X,q⟩:=h N a w g A;exact ⟨O,X,hu.trans q,q.live⟩
theorem vi {V:List (Nat×AV)} {M:List HObj} (hL:L<=n) (hl:u.length=n) (x8:n<=M.length) (D:∀ (i:Nat) (o:HObj),u[i]?=some o->(M[i]?=some o/\ltO n o=true)\/o = .gone)
 (Y:∀ p∈V,ltV 4 n p.2=true):LeT L ⟨V,M⟩ ⟨V,u⟩:=fun N a w g w0 g0 x9 hd hs z=>by
 obtain ⟨s1,s2,j⟩:=hs;have A:∀ {id},id<n->(g.cutL n).ρ id=g.ρ id:=fun h=>by simp [G.cutL,h]
 have X:∀ t,ltV 4 n (get V t)=true:=by
  intro t;clear z j s2
  induction V with
  | nil=>rfl
  | cons p V ih =>
    obtain ⟨k,x⟩:=p;simp only [get];split
    . exact Y (k,x) (by simp)
    exact ih fun q M=>Y q (by simp [M])
 have lt:∀ {id o},u[id]?=some o->id<n:=fun h=>by rw [<-hl];exact (qml.1 h).1
 have back:∀ {id o},hpf u id=some o->o.live=true->hpf M id=some o:=fun {id o} h T=>by
  rcases D id o h with ⟨h1,_⟩ | rfl
  . exact h1
  cases T
 have x4:Trans w0 g0 w (g.cutL n):=⟨z.tr.S,z.tr.cell,fun id l h=>(A (qnY (hd id l h) hL)).trans (z.tr.ρ id l h),z.tr.shp,z.tr.os,z.tr.tape,z.tr.output,z.tr.size,z.tr.drawn⟩;have f:∀ c,UU (hpf u) (g.cutL n) c->UU (hpf M) g c:=by rintro c ⟨id,o,d,r,T,hr⟩;exact ⟨id,o,d,back r T,T,by rw [<-A (lt r)];exact hr⟩
 refine ⟨g.cutL n,⟨s1,fun t=>?_,fun id b=>?_,fun id o r=>?_,fun id x5 o o' c d d' r C T x0 hr J=>?_,j.ex,j.tab⟩,⟨x4,fun c hc=>z.live c (f c hc),z.S,z.keep⟩,fun c hc => .inl (f c hc)⟩
 . exact Eu 4 (X t) (s2 t)
 . have:¬ id<n:=fun h=>by have:u[id]?=none:=b;rw [List.getElem?_eq_none_iff] at this;omega
   simp [G.cutL,this]
 . have b:=lt r;rcases D id o r with ⟨h1,v⟩ | rfl
   . obtain ⟨l,k1,K⟩:=j.rep id o h1;refine ⟨l,(A b).trans k1,?_⟩;cases o with
     | gone=>cases l <;> trivial
     | cells cs =>
       have v:cs.all (ltV 4 n)=true:=v;cases l with
       | virg=>exact K
       | base L=>exact K
       | blk c d =>obtain ⟨x2,ty,fz,O,P,Q,R,a5⟩:=K;exact ⟨x2,ty,fz,O,P,Q,R,fun i Z=>by obtain ⟨y,c1,c2⟩:=a5 i Z;exact ⟨y,c1,Eu 4 (LL.1 v _ (qmr Z)) c2⟩⟩
     | mp es x7 =>
       have v:(es.all fun e=>ltV 4 n e.2.2)=true:=v;cases l with
       | virg=>exact K.elim
       | base L=>exact K.elim
       | blk c d =>obtain ⟨E,O,P,Q,R,a5⟩:=K;exact ⟨E,O,P,Q,R,fun i Z=>by obtain ⟨e,c1,c2,c3,c4⟩:=a5 i Z;exact ⟨e,c1,c2,c3,Eu 4 (LL.1 v _ (qmr Z)) c4⟩⟩
     | mpp Φ=>cases v
     | it m x6 seen x1 =>
       have v:=zJ (show Nat.blt m n=true from v);cases l with
       | virg=>exact K.elim
       | base L=>exact K.elim
       | blk c d =>obtain ⟨mb,O,P,Q,R⟩:=K;exact ⟨mb,O,(A v).trans P,Q,R⟩
     | lp s mk =>
       have v:=zJ (show Nat.blt mk n=true from v);cases l with
       | virg=>exact K.elim
       | base L=>exact K.elim
       | blk c d =>obtain ⟨L,O,P,Q,R⟩:=K;exact ⟨L,(A v).trans O,P,Q,R⟩
   obtain ⟨o1,x3⟩:∃ o,hpf M id=some o:=⟨_,Wd (by omega)⟩;obtain ⟨l,k1,_⟩:=j.rep id o1 x3;exact ⟨l,(A b).trans k1,by cases l <;> trivial⟩
 rw [A (lt r)] at hr;rw [A (lt C)] at J;exact j.inj id x5 o o' c d d' (back r T) (back C x0) T x0 hr J
def qgH {α:Type} (L:Nat) (I:α->St) (C:α->Prop) (μ:α->Nat) (b:α) (s:St):Prop:=∃ u,C u/\μ u<μ b/\LeT L s (I u)
section
variable {P:Program} {E:HE} {κ:Option Nat} {w1:World} {g1:G}
theorem NX {x:AC} {v:St} (I:α->St) (C:α->Prop) (μ:α->Nat) (A:α) (h0:C A) (k:I A=v)
 (r:(∀ i m c s t,hpf v.hp i=some (.it m c s t)->m<v.hp.length)->∀ b,C b->ZC κ P w1 g1 x (I b) (Exit.th (qgH v.hp.length I C μ b) Q)):ZC κ P w1 g1 (.loop x) v Q:=fun N c a w g R ro n M hr ht Z z=>by
 cases c <;> first | exact M.elim | skip
 rename_i c;have M:NI P N c x:=M
 have o:∀ id l,g.ρ id=some l->id<v.hp.length:=fun id l z=>by
  rcases qmV id v.hp.length with h | h
  . exact h
  have:=Z.2.2.dom id (by simp [hpf,h]);rw [this] at z;cases z
 have x2:∀ i m c s t,hpf v.hp i=some (.it m c s t)->m<v.hp.length:=fun i m c s t hi=>by
  obtain ⟨l,_,V⟩:=Z.2.2.rep i _ hi;cases l with
  | virg=>exact V.elim
  | base L=>exact V.elim
  | blk c d =>obtain ⟨mb,_,T,_⟩:=V;exact o _ _ T
 let Inv:Nat->Act->World->Prop:=fun m a' j=>∃ b f,C b/\μ b=m/\Sim N (I b) a' j f/\Upd (hpf v.hp) g w (hpf (I b).hp) f j/\DStep w a (hpf (I b).hp) f j a'
 have p:∀ (m:Nat) (a':Act) (j:World),Inv m a' j->(Code.loop c).wpIn (W ro) n P R a' j:=fun m=>by
  intro a' j k;refine qpG Inv m k ?_;intro m a' j ⟨b,f,hb,hm,J,u,y⟩;refine r x2 b hb _ _ _ _ _ _ _ _ M ((hr.imp (ac':=x) fun h=>h).mono u.tr) (ht.trans u.tr) J fun e x3 T w2 g2 q2 s2 O d2=>?_;cases e with
  | normal =>
    obtain ⟨b',X,Y,q⟩:=q2;obtain ⟨g3,K,x0,x1⟩:=q N T w2 g2 w g (hpf v.hp) o s2 (u.trans O);refine ⟨μ b',by omega,b',g3,X,rfl,K,x0,?_⟩;obtain ⟨ms,m1,m2,m3⟩:=y.trans u.tr.size O d2;refine ⟨ms,m1,m2,fun D hD=>?_⟩;obtain ⟨k1,k2,k3⟩:=m3 D hD;have Y:D<w2.heap.size:=(qms.1 k2).1;refine ⟨k1,k2,fun z=>?_⟩;rcases x1 D z with h | h
    . exact k3 h
    omega
  | _=>exact z _ _ _ _ _ q2 s2 (u.trans O) (y.trans u.tr.size O d2)
 exact p (μ A) a w ⟨A,g,h0,rfl,by rw [k];exact Z,by rw [k];exact .refl _ _ _,.nil rfl⟩
end
def AGk (κ:Option Nat) (P:Program) (Y:YF) (a:AC) (s:St) (Q:Exit->St->Prop):Prop:=∀ w g,YS P ⟨Y,RG P⟩ w g->ZC κ P w g a s Q
theorem XE {κ:Option Nat} {P:Program} {Y:YF} {a:AC} {s:St} {u:Exit->St->Prop} (k:∀ e s,Q e s->u e s) (h:AGk κ P Y a s Q):AGk κ P Y a s u:=fun w g v=>zI k (h w g v)
def Go2 (κ:Option Nat) (P:Program) (S:YSp) (a:AC) (fr:FrL) (p:List HObj) (e:Exit) (f:FrL) (h:List HObj):Prop :=
 ∀ Y,Xd Y S->∀ Z q,HR Z p q->AGk κ P Y a ⟨fr,q⟩ (fun E s=>E=e/\s.fr=f/\HR Z h s.hp)
def HM (p h:List HObj):Prop:=∀ Z q,HR Z p q->HR Z h q
theorem HM.refl {y}:HM y y:=fun _ _ h=>h
theorem HM.trans {a b c} (h:HM a b) (k:HM b c):HM a c:=fun Z y q=>k Z y (h Z y q)
def isG:HObj->Bool
 | .gone=>true
 | _=>false
def qf6:Option PK->Bool
 | some (.ex _)=>true
 | _=>false
def trq (Z:ZZ):Nat->List HObj->List HObj->List HObj
 | i,o::O,q::Q=>(bif isG o && !qf6 (Z i) then .gone else q)::trq Z (i+1) O Q
 | _,_,_=>[]
theorem PZ {Z:ZZ}:∀ {O Q:List HObj} {i j:Nat} {x:HObj},(trq Z i O Q)[j]?=some x->∃ o q,O[j]?=some o/\Q[j]?=some q/\x=bif isG o && !qf6 (Z (i+j)) then .gone else q
 | [],Q,i,j,x,h=>by cases Q <;> simp [trq] at h
 | o::O,[],i,j,x,h=>by simp [trq] at h
 | o::O,q::Q,i,0,x,h=>by simp only [trq,List.getElem?_cons_zero,xl] at h;exact ⟨o,q,rfl,rfl,h.symm⟩
 | o::O,q::Q,i,j+1,x,h=>by simp only [trq,qog] at h;obtain ⟨y,g,u,v,z⟩:=PZ h;exact ⟨y,g,by simpa using u,by simpa using v,by rw [z,show i+1+j=i+(j+1) by omega]⟩
theorem CQ {Z:ZZ}:∀ {O Q:List HObj} {i:Nat},O.length<=Q.length->(trq Z i O Q).length=O.length
 | [],Q,i,_=>by cases Q <;> rfl
 | o::O,[],i,h=>by simp at h
 | o::O,q::Q,i,h=>by simp only [trq,qm5] at h ⊢;rw [CQ (by omega)]
def ltE (n:Nat):HObj->Bool
 | .it .. => true
 | o=>ltO n o
def Trn (L:Nat) (f:FrL) (a b:List HObj):Prop:=b=a\/∃ n,L<=n/\n<=a.length/\b=a.take n/\(∀ p∈f,ltV 4 n p.2=true)/\∀ o∈b,ltE n o=true
def HT (L:Nat) (f:FrL) (a c:List HObj):Prop:=∃ b d,HM a b/\Trn L f b d/\HM d c
theorem HR.trunc {Z:ZZ} {O hq:List HObj} (h:HR Z O hq) {n:Nat} {fr:FrL} (hL:L<=n) (hn:n<=O.length) (hZ:∀ i,L<=i->Z i=none) (hX:∀ i z,Z i=some (.ex z)->ltO L z=true) (ho:∀ o∈O.take n,ltE n o=true) (hf:∀ p∈fr,ltV 4 n p.2=true) :
 HR Z (O.take n) (trq Z 0 (O.take n) hq)/\LeT L ⟨fr,hq⟩ ⟨fr,trq Z 0 (O.take n) hq⟩:=by
 have A:(O.take n).length=n:=by simp;omega
 have x4:(O.take n).length<=hq.length:=by rw [A,h.len];exact hn
 have hl:=CQ (Z:=Z) (i:=0) x4;have x2:∀ {i:Nat} {o:HObj},(O.take n)[i]?=some o->i<n/\O[i]?=some o:=fun {i o} hi=>by have x1:=(qml.1 hi).1;rw [A] at x1;rw [qnQ x1] at hi;exact ⟨x1,hi⟩
 refine ⟨⟨hl,fun i hi=>hZ i (by rw [A] at hi;omega),fun i o o' h1 h2=>?_⟩,vi hL (hl.trans A) (by rw [h.len];exact hn) (fun i x hx=>?_) hf⟩
 . obtain ⟨o1,q,k1,k2,K⟩:=PZ h2;rw [h1] at k1;cases k1;rw [qnt] at K;have y:=h.obj i o q (x2 h1).2 k2;cases e:(isG o && !qf6 (Z i)) with
   | false=>rw [e] at K;rw [K];exact y
   | true =>
     rw [e] at K;rw [K];simp only [qd,qmZ] at e;have eo:o = .gone:=by cases o <;> first | rfl | cases e.1
     subst eo;cases hz:Z i with
     | none=>rfl
     | some z =>
       rw [hz] at y e;cases z with
       | ex z=>cases e.2
       | add B=>rfl
       | pin E c V E0=>obtain ⟨_,_,_,h3,_⟩:=y;cases h3
 obtain ⟨o,q,k1,k2,K⟩:=PZ hx;rw [qnt] at K;obtain ⟨x7,x3⟩:=x2 k1;have y:=h.obj i o q x3 k2;have X:ltE n o=true:=ho o (qn7 k1);cases e:(isG o && !qf6 (Z i)) with
 | true=>rw [e] at K;exact .inr K
 | false =>
   rw [e] at K;have K:x=q:=K;subst K;refine .inl ⟨k2,?_⟩;have x0:∀ {es es':List Ent} {c:Nat},Sh es es' c->(es.all fun e=>ltV 4 n e.2.2)=true->(es'.all fun e=>ltV 4 n e.2.2)=true:=fun hs ha=>by rw [LL] at ha ⊢;intro e he;obtain ⟨e',q1,_,q3⟩:=hs.back he;rw [<-q3];exact ha e' q1
   cases hz:Z i with
   | none =>
     rw [hz] at y e;cases o with
     | gone=>cases e
     | cells cs=>rw [show x = .cells cs from y];exact X
     | lp s mk=>rw [show x = .lp s mk from y];exact X
     | it m c s t=>exact y.elim
     | mpp Φ=>exact y.elim
     | mp es k =>obtain ⟨_,es',c,rfl,hs⟩:=y;exact x0 hs X
   | some z =>
     rw [hz] at y;cases z with
     | ex z =>
       have x5:=hX i z hz;rw [y.2.1];have hi:=y.2.2;cases z with
       | it m c s t =>have:=zJ (show Nat.blt m L=true from x5);exact qnE (by omega:m+1<=n)
       | _=>cases hi
     | add B =>
       cases o with
       | gone=>rw [hz] at e;cases e
       | it w c s t =>obtain ⟨es',x6,rfl,hs,_⟩:=y;show (es'.all fun e=>ltV 4 n e.2.2)=true;rw [LL];intro e he;obtain ⟨l,_,_,h3⟩:=hs.ent e he;rw [h3];rfl
       | _=>exact y.elim
     | pin E c V E0 =>obtain ⟨es,k,es',rfl,_,rfl,hs,_⟩:=y;exact x0 hs X
theorem jQ {f:FrL} {t:Nat}:∀ {K:List Nat},t∈K->get (K.map fun t=>(t,get f t)) t=get f t
 | [],h=>by cases h
 | k::K,h=>by
   simp only [wI,get];split
   . rename_i e;subst e;rfl
   rename_i e;rcases sg.1 h with u | u
   . exact absurd u.symm e
   exact jQ u
def bkE (E:Nat):Exit->Exit
 | .exit id=>if id=E then .normal else .exit id
 | e=>e
theorem MN {E:Nat} {e:Exit} {s:St} (h:Q (bkE E e) s):Exit.blk E Q e s:=by
 cases e with
 | exit id =>
   simp only [Exit.blk,bkE] at h ⊢;split
   . rename_i q;rw [if_pos q] at h;exact h
   rename_i q;rw [if_neg q] at h;exact h
 | _=>exact h
structure RMd where
 it:Nat
 a:Nat
 b:Nat
 c:Nat
 eb:Nat
 bb:Nat
 ks1:List Nat
 ks2:List Nat
 os2:List AOp
 gs2:List Grp
 rest:AC
def RMd.bd (r:RMd):AC := .block r.bb (.seq (.rgn (⟨none,.ent r.c (.t r.it)::r.os2⟩::r.gs2) r.ks2) r.rest)
def RMd.rd (r:RMd):AC := .seq (.rgn [⟨none,[.nxt r.a (.t r.it),.ext r.b (.t r.a) 0]⟩] r.ks1) (.seq (.cond (.t r.b) .skip (.exit r.eb)) r.bd)
def RMd.rm (r:RMd) (O:List AOp) (x:Opd) (K:List Nat):AC := .seq (.rgn [⟨none,O++[.rng r.it x]⟩] K) (.block r.eb (.loop r.rd))
def RMd.ok (r:RMd):Bool:=r.ks1.contains r.b&&r.ks1.contains r.it && !Nat.beq r.a r.it && !Nat.beq r.b r.it
def cV (e:Ent):AV := .tup [AV.ofValue e.1,e.2.2]
def qcT (e:Ent):AV := .tup [B true,AV.ofValue e.1,e.2.2]
theorem lk {E:Ent} (h:kvE e=kvE E):cV e=cV E:=by simp only [kvE,qmm] at h;simp only [cV,h.1,h.2]
theorem CR {E:Ent} (h:kvE e=kvE E):qcT e=qcT E:=by simp only [kvE,qmm] at h;simp only [qcT,h.1,h.2]
def RMd.bdFr (r:RMd) (e:Ent) (y:FrL):FrL:=r.ks1.map fun t=>(t,get ((r.b,B true)::(r.a,qcT e)::y) t)
def RMd.enFr (r:RMd) (y:FrL):FrL:=r.ks1.map fun t=>(t,get ((r.b,B false)::(r.a,.tup [B false])::y) t)
def RMd.Bd (r:RMd) (κ:Option Nat) (P:Program) (S:YSp) (e:Ent) (fr:FrL) (hp:List HObj) (ex:Exit) (O:FrL) (X:List HObj):Prop :=
 ∃ y q K,(∀ Y,Xd Y S->∀ Z A,HR Z hp A->zx P ⟨Y,RG P⟩ (⟨none,r.os2⟩::r.gs2) ⟨(r.c,cV e)::r.bdFr e fr,A⟩ (fun s=>(s.keep r.ks2).fr=y/\HR Z q s.hp))/\Go2 κ P S r.rest y q K O X/\ex=bkE r.bb K
section
variable {κ:Option Nat} {P:Program} {S:YSp} {Y:YF} {w1:World} {g1:G} {r:RMd}
theorem KG {e:Ent}:∀ {E:List Ent},(E.map (·.2.1)).Nodup->e∈E->E.find? (fun x=>x.2.1==e.2.1)=some e
 | [],_,h=>by cases h
 | a::E,n,h=>by
   rw [wI,qm7] at n;rcases sg.1 h with u | u
   . subst u;simp
   have:(a.2.1==e.2.1)=false:=by rw [qnm];intro q;exact n.1 (gm.2 ⟨e,u,q.symm⟩)
   rw [qo8,this];exact KG n.2 u
theorem ep (g:YS P ⟨Y,RG P⟩ w1 g1) (b:Xd Y S) {E:Ent} {z:FrL} {h:List HObj} {x:Exit} (w:r.Bd κ P S e z p x f h) (O:HR Z p q) {m n c0:Nat} {seen:List Nat} {es':List Ent}
 (a:kvE E=kvE e) (i:get (r.bdFr e z) r.it = .ref n 0) (M:hpf q n=some (.it m c0 (seen++[E.2.1]) c0)) (L:hpf q m=some (.mp es' c0)) (j:E∈es') (c:(es'.map (·.2.1)).Nodup) :
 ZC κ P w1 g1 r.bd ⟨r.bdFr e z,q⟩ (fun v u=>v=x/\u.fr=f/\HR Z h u.hp):=by
 obtain ⟨y,N,C,o,t,d⟩:=w;refine Wj (ji (YW g (Ez Y) rfl ?_));have o:=o Y b Z q O
 have k:zx P ⟨Y,RG P⟩ (⟨none,r.os2⟩::r.gs2) ⟨(r.c,cV E)::r.bdFr e z,q⟩ (fun s=>Exit.th (fun X=>ZC κ P w1 g1 r.rest X (Exit.blk r.bb fun v u=>v=x/\u.fr=f/\HR Z h u.hp)) (Exit.blk r.bb fun v u=>v=x/\u.fr=f/\HR Z h u.hp) .normal (s.keep r.ks2)):=by
  rw [lk a];refine Qt (fun s ⟨T,V⟩=>?_) o;show ZC κ P w1 g1 r.rest (s.keep r.ks2) _;have l:s.keep r.ks2=⟨y,s.hp⟩:=by rw [<-T];rfl
  rw [l];exact zI (fun v u ⟨K,Q,R⟩=>MN ⟨by rw [K,d],Q,R⟩) (t Y b Z s.hp V w1 g1 g)
 simp only [AWP,zx,zz,aop,AOp.many,evF,i,M,L];exact ⟨trivial,E.2.1,E,by simp,KG c j,k⟩
theorem sI (z:YS P ⟨Y,RG P⟩ w1 g1) (y:r.ok=true) {m n c0:Nat} {seen:List Nat} {es':List Ent} (i:get f r.it = .ref n 0) (o:hpf u m=some (.mp es' c0)) (s:hpf u n=some (.it m c0 seen c0)) (c:∀ e∈es',e.2.1<c0)
 (d:(∀ e∈es',e.2.1∈seen)->Q (.exit r.eb) ⟨r.enFr f,u⟩)
 (h:∀ e∈es',e.2.1∉seen->ZC κ P w1 g1 r.bd ⟨r.bdFr e f,qz u n (.it m c0 (seen++[e.2.1]) c0)⟩ Q):ZC κ P w1 g1 r.rd ⟨f,u⟩ Q:=by
 simp only [RMd.ok,qd,qmX] at y;obtain ⟨⟨⟨b,p⟩,_⟩,_⟩:=y;refine ji (YW z (Ez Y) rfl ?_);simp only [AWP,zx,zz,aop,AOp.many,evF,i,s,o];refine ⟨?_,fun j=>?_,fun e j t=>?_⟩
 . cases es' with
   | nil=>simp
   | cons e E =>
     have:=c e (by simp);have:decide (c0<=e.2.1)=false:=by simp;omega
     simp [this]
 . have a:∀ e∈es',e.2.1∈seen:=fun e v=>by have l:=c e v;rw [qpB] at j;have:=qop.1 j e v;simpa [l] using this
   refine ⟨B false,[],?_,?_⟩
   . simp only [AOp.sem,evF,St.step,zb,get,qmA];exact ⟨B false,by simp,by trivial,by trivial⟩
   show ZC κ P w1 g1 _ ⟨r.enFr f,u⟩ _;have g:evF (get (r.enFr f)) (.t r.b) = .v (.bool false):=by show get (r.enFr f) r.b=_;rw [RMd.enFr,jQ b];simp [get]
   refine ji (Vy g (fun q=>by cases q) fun _=>YW z (Ez Y) rfl ?_);exact d a
 refine ⟨B true,[],?_,?_⟩
 . simp only [AOp.sem,evF,St.step,zb,get,qmA];exact ⟨B true,by simp,by trivial,by trivial⟩
 show ZC κ P w1 g1 _ ⟨r.bdFr e f,qz u n (.it m c0 (seen++[e.2.1]) c0)⟩ _;have g:evF (get (r.bdFr e f)) (.t r.b) = .v (.bool true):=by show get (r.bdFr e f) r.b=_;rw [RMd.bdFr,jQ b];simp [get]
 refine ji (Vy g (fun _=>YW z (Ez Y) rfl ?_) fun q=>by cases q);exact h e j (by simpa using t)
def Zp (Z:ZZ) (m n:Nat) (E:List Ent) (c0:Nat) (V:List Value) (u:List Ent) (seen:List Nat):ZZ:=fun i=>if i=m then some (.pin E c0 V u) else if i=n then some (.ex (.it m c0 seen c0)) else Z i
def RMd.Runs (r:RMd) (κ:Option Nat) (P:Program) (S:YSp) (m n:Nat) (F:Exit->FrL->List HObj->Prop):Nat->List Ent->FrL->List HObj->Prop
 | 0,O,A,hp=>O=[]/\get A r.it = .ref n 0/\F (.exit r.eb) (r.enFr A) hp
 | N+1,O,A,hp=>O.length=N+1/\get A r.it = .ref n 0/\∀ r1 e r2,O=r1++e::r2->∃ ex y q,(∃ es,hpf hp m=some (.mp es 1)/\r.Bd κ P S e A (qz hp m (.mp es e.2.1)) ex y q) /\
    ((ex = .normal/\∃ K k1 x0 X,hpf q m=some (.mp K k1)/\HT (n+1) y (qz q m (.mp K 1)) x0/\X.Perm (r1++r2)/\r.Runs κ P S m n F N X y x0)\/(ex≠.normal/\F ex y q))
theorem wk {E c V v s} (h:HR (Zp Z m n E c V v s) p q) {u k} (o:hpf p m=some (.mp u k)):∃ e,hpf q m=some (.mp e c)/\k≠0/\Sh u e c/\PinR E V v k u e:=by obtain ⟨O,y,j⟩:=h.at o;simp only [Zp,qmA] at j;obtain ⟨z,K,e,Q,g,rfl,b,f⟩:=j;cases Q;exact ⟨e,y,g,b,f⟩
theorem itZ {m n:Nat} {E c0 V j seen} (h:HR (Zp Z m n E c0 V j seen) p q) (u:m≠n) (y:n<p.length):hpf q n=some (.it m c0 seen c0):=by obtain ⟨o,z,v⟩:=h.at (i:=n) (Wd y);simp only [Zp,if_neg (qmG u),qmA] at v;rw [<-v.2.1];exact z
theorem Ys {m n:Nat} {E c0 V u seen} (h:HR (Zp Z m n E c0 V u seen) p q):m<p.length/\n<p.length:=by
 constructor
 . refine qo0 fun l=>?_;have:=h.new m l;simp [Zp] at this
 refine qo0 fun l=>?_;have:=h.new n l;simp only [Zp] at this;split at this
 . cases this
 simp at this
theorem XV {m n:Nat} {E c0 V V' z seen seen'} {j:List HObj} (h:HR (Zp Z m n E c0 V z seen) p j) (s:m≠n) {e k} (a:hpf p m=some (.mp e k)) {k':Nat} (c:k'≠0)
 (f:∀ es',Sh e es' c0->PinR E V z k e es'->PinR E V' z k' e es'):HR (Zp Z m n E c0 V' z seen') (qz p m (.mp e k')) (qz j n (.it m c0 seen' c0)):=by
 obtain ⟨l,b⟩:=Ys h;have q:n<j.length:=by rw [h.len];exact b
 simp only [qz,if_pos l,if_pos q];refine ⟨by simp [h.len],fun i w=>?_,fun i o O v u=>?_⟩
 . have:=h.new i (by simpa using w);simp only [Zp] at this ⊢
   (repeat' split at this) <;> first | cases this | (rename_i Q t;rw [if_neg Q,if_neg t];exact this)
 by_cases y:i=m
 . subst y;rw [qm9 l] at v;rw [qmY (qmG s)] at u;cases v;obtain ⟨es',Q,t,d,x⟩:=wk h a;have:O = .mp es' c0:=by rw [show j[i]?=some (.mp es' c0) from Q] at u;cases u;rfl
   subst this;simp only [Zp,qmA];exact ⟨_,_,_,rfl,c,rfl,d,f es' d x⟩
 rw [qmY (qmG y)] at v;by_cases g:i=n
 . subst g;rw [qm9 q] at u;cases u;have:=h.obj i o (j[i]) v (Wd q);simp only [Zp,if_neg y,qmA] at this ⊢;exact ⟨this.1,rfl,rfl⟩
 rw [qmY (qmG g)] at u;have:=h.obj i o O v u;simp only [Zp,if_neg y,if_neg g] at this ⊢;exact this
theorem HO (h:hpf l i=some o):qz l i o=l:=by have u:=qF h;simp only [qz,if_pos u];obtain ⟨_,v⟩:=qml.1 h;rw [<-v];exact qn0 u
theorem uV (hS:YS P ⟨Y,RG P⟩ w1 g1) (hY:Xd Y S) (hr:r.ok=true) {m n c0:Nat} {M:List Ent} (C:m≠n) (v6:m<n) (hZ:∀ i,n+1<=i->Z i=none) (Eb:(E.map (·.2.1)).Nodup) (Ek:(E.map (·.1)).Nodup) (Ec:∀ e∈E,e.2.1<c0) (z8:(M.map (·.2.1)).Nodup) (E2:∀ e∈M,2<=e.2.1)
 {F:Exit->FrL->List HObj->Prop} (hF:∀ ex O w j V seen,ex≠.normal->F ex O w->HR (Zp Z m n E c0 V M seen) w j->Q ex ⟨O,j⟩)
 {R:List Ent} {O:FrL} {w j:List HObj} {U W:List Ent} (D:r.Runs κ P S m n F N R O w) (hU:E.Perm (U++W)) (f:(R.map kvE).Perm (U.map kvE)) (A:∀ e∈R,e∈M)
 (l:j.length=n+1) (X:HR (Zp Z m n E c0 (W.map (·.1)) M (W.map (·.2.1))) w j):ZC κ P w1 g1 (.loop r.rd) ⟨O,j⟩ Q:=by
 have x6:=X;refine NX (α:=St×Nat) (·.1) (fun b=>∃ R w U W,r.Runs κ P S m n F b.2 R b.1.fr w/\E.Perm (U++W)/\(R.map kvE).Perm (U.map kvE)/\(∀ e∈R,e∈M)/\HR (Zp Z m n E c0 (W.map (·.1)) M (W.map (·.2.1))) w b.1.hp) (·.2) (⟨O,j⟩,N) ⟨R,w,U,W,D,hU,f,A,X⟩ rfl fun z7 b hb=>?_
 have zX:∀ i z,Z i=some (.ex z)->i≠m->i≠n->ltO (n+1) z=true:=fun i z hz h1 h2=>by
  have hi:i<n+1:=qo0 fun h=>by rw [hZ i h] at hz;cases hz
  have u6:i<w.length:=by rw [<-x6.len,l];exact hi
  have y8:i<j.length:=by rw [l];exact hi
  have:=x6.obj i _ _ (Wd u6) (Wd y8);simp only [Zp,if_neg h1,if_neg h2,hz] at this;obtain ⟨_,q2,q3⟩:=this;cases z with
  | it m1 c s t =>have:=z7 i m1 c s t (by show j[i]?=_;rw [Wd y8,q2]);rw [l] at this;exact qnE this
  | _=>cases q3
 rw [l];clear l X x6 z7;obtain ⟨⟨O,j⟩,N⟩:=b;obtain ⟨R,w,U,W,D,hU,f,A,X⟩:=hb;simp only at D X
 have y9:get O r.it = .ref n 0:=by
  cases N with
  | zero=>exact D.2.1
  | succ N=>exact D.2.1
 obtain ⟨u8,z3⟩:=Ys X;obtain ⟨om,x8⟩:∃ o,w[m]?=some o:=⟨_,Wd u8⟩;obtain ⟨w0,x2,hx⟩:=X.at x8;simp only [Zp,qmA] at hx;obtain ⟨es,k,es',rfl,v9,rfl,z6,x3⟩:=hx;have kU:∀ u∈U,u.1∉W.map (·.1)/\u.2.1∉W.map (·.2.1):=fun u hu=>by have n1:=(hU.map (·.1)).nodup_iff.1 Ek;have n2:=(hU.map (·.2.1)).nodup_iff.1 Eb;rw [qmD,qns] at n1 n2;exact ⟨fun q=>n1.2.2 _ (gm.2 ⟨u,hu,rfl⟩) _ q rfl,fun q=>n2.2.2 _ (gm.2 ⟨u,hu,rfl⟩) _ q rfl⟩
 have x4:R.length=U.length:=by simpa using f.length_eq
 refine sI hS hr (m:=m) (n:=n) (c0:=c0) (seen:=W.map (·.2.1)) (es':=es') y9 x2 (itZ X C z3) z6.clk (fun y3=>?_) (fun v y4 hs=>?_)
 . -- no entry is left
   have u0:U=[]:=by
    cases U with
    | nil=>rfl
    | cons u U =>have v3:u∈E:=hU.mem_iff.2 (by simp);have:=y3 u (x3.stay u v3 (kU u (by simp)).1);exact absurd this (kU u (by simp)).2
   have v2:R.length=0:=by rw [x4,u0];rfl
   cases N with
   | zero=>exact hF _ _ _ _ _ _ (by simp) D.2.2 X
   | succ N=>have:=D.1;omega
 have y5:v∈E:=x3.sub.subset y4
 have T:v∈U:=by
  rcases xm.1 (hU.mem_iff.1 y5) with q | q
  . exact q
  exact absurd (gm.2 ⟨v,q,rfl⟩) hs
 cases N with
 | zero =>
   have:U.length=0:=by rw [<-x4,D.1];rfl
   cases U with
   | nil=>cases T
   | cons=>simp at this
 | succ N =>
   obtain ⟨_,_,x9⟩:=D;obtain ⟨e,y6,J⟩:=gm.1 (f.mem_iff.2 (gm.2 ⟨v,T,rfl⟩));obtain ⟨r1,r2,p⟩:=qnX y6;obtain ⟨ex,L,v1,⟨v7,x1,hB⟩,x7⟩:=x9 r1 e r2 p;rw [show hpf w m=some (.mp es k) from x8] at x1;cases x1;have x0:=A e y6;have v8:=E2 e x0
   have y7:HR (Zp Z m n E c0 ((W++[v]).map (·.1)) M ((W++[v]).map (·.2.1))) (qz w m (.mp es e.2.1)) (qz j n (.it m c0 ((W++[v]).map (·.2.1)) c0)):=by
    refine XV X C x8 (by omega) fun es' _ g=>⟨g.sub,fun q j hv=>g.stay q j (fun v4=>hv (by rw [qmD];exact xm.2 (.inl v4))),g.old,fun _ q j hb=>?_⟩;have:=Oe z8 (g.old q j) x0 hb;subst this;have ek:q.1=v.1:=by have:=qnH Prod.fst J;exact this
    rw [ek];simp
   have u3:r.bdFr e O=r.bdFr v O:=by simp only [RMd.bdFr,CR J]
   simp only [RMd.ok,qd,qmX,qmZ] at hr;obtain ⟨⟨⟨_,hi⟩,ha⟩,hb⟩:=hr;have nb:∀ {x y:Nat},Nat.beq x y=false->x≠y:=fun h e=>by rw [e,qoe] at h;cases h
   have z0:get (r.bdFr e O) r.it = .ref n 0:=by rw [RMd.bdFr,jQ hi];simp [get,nb ha,nb hb,y9]
   have z4:n<j.length:=by rw [X.len];exact z3
   have hW:(W++[v]).map (·.2.1)=W.map (·.2.1)++[v.2.1]:=by simp
   have u9:hpf (qz j n (.it m c0 (W.map (·.2.1)++[v.2.1]) c0)) n=some (.it m c0 (W.map (·.2.1)++[v.2.1]) c0):=VN z4;have u7:hpf (qz j n (.it m c0 (W.map (·.2.1)++[v.2.1]) c0)) m=some (.mp es' c0):=by simp only [hpf,qz,if_pos z4];rw [qmY (qmG C)];exact x2
   rw [hW] at y7;rw [<-u3];refine zI (fun e1 s1 ⟨q1,q2,q3⟩=>?_) (ep hS hY hB y7 J.symm z0 u9 u7 y4 z6.born);subst q1;rcases x7 with ⟨rfl,z9,k1,z5,x5,k2,k3,k4,k5⟩ | ⟨z2,hf⟩
   . obtain ⟨u1,u2,hu⟩:=qnX T;have y0:(x5.map kvE).Perm ((u1++u2).map kvE):=by refine (k4.map kvE).trans (XU (a:=e) (a':=v) ?_ J);rw [<-p,<-hu];exact f
     have y1:E.Perm ((u1++u2)++(W++[v])):=by
      refine hU.trans ?_;rw [hu];have p1:(u1++v::u2++W).Perm (v::(u1++u2)++W):=List.perm_middle.append_right W;refine p1.trans ?_;have p2:(v::(u1++u2)++W).Perm ((u1++u2++W)++[v]):=by rw [qmP];exact (qo6 (l₁:=[v]) (l₂:=u1++u2++W))
      rwa [qmo (u1++u2) W [v]] at p2
     have u4:HR (Zp Z m n E c0 ((W++[v]).map (·.1)) M ((W++[v]).map (·.2.1))) (qz v1 m (.mp z9 1)) s1.hp:=by rw [hW];have v0:=itZ q3 C (Ys q3).2;have:=XV (seen':=W.map (·.2.1)++[v.2.1]) (V':=(W++[v]).map (·.1)) q3 C k2 (k':=1) (by decide) fun es' _ g=>⟨g.sub,g.stay,g.old,fun h=>absurd rfl h⟩;rwa [HO v0] at this
     have e0:s1=⟨L,s1.hp⟩:=by rw [<-q2]
     have y2:∀ i,n+1<=i->Zp Z m n E c0 ((W++[v]).map (·.1)) M ((W++[v]).map (·.2.1)) i=none:=fun i hi=>by
      have h1:i≠m:=by omega
      have h2:i≠n:=by omega
      simp only [Zp,if_neg h1,if_neg h2];exact hZ i hi
     have v5:∀ i z,Zp Z m n E c0 ((W++[v]).map (·.1)) M ((W++[v]).map (·.2.1)) i=some (.ex z)->ltO (n+1) z=true:=fun i z hz=>by
      by_cases h1:i=m
      . simp [Zp,h1] at hz
      by_cases h2:i=n
      . simp only [Zp,if_neg h1,if_pos h2,xl,PK.ex.injEq] at hz;subst hz;exact qnE (by omega:m+1<=n+1)
      simp only [Zp,if_neg h1,if_neg h2] at hz;exact zX i z hz h1 h2
     have step:∃ K,LeT (n+1) ⟨L,s1.hp⟩ ⟨L,K⟩/\HR (Zp Z m n E c0 ((W++[v]).map (·.1)) M ((W++[v]).map (·.2.1))) z5 K:=by
      obtain ⟨b,d,t1,t2,t3⟩:=k3;have hb:=t1 _ _ u4;rcases t2 with rfl | ⟨nn,t4,t5,rfl,t6,t7⟩
      . exact ⟨s1.hp,.of (St.le.rfl' _),t3 _ _ hb⟩
      obtain ⟨a1,a2⟩:=hb.trunc t4 t5 y2 v5 t7 t6;exact ⟨_,a2,t3 _ _ a1⟩
     obtain ⟨K,z1,u5⟩:=step;rw [e0];refine ⟨(⟨L,K⟩,N),⟨x5,z5,u1++u2,W++[v],k5,y1,y0,fun q j=>A q ?_,u5⟩,qoB _,z1⟩;rw [p];have:=(k4.mem_iff).1 j;rcases xm.1 this with h | h <;> simp [h]
   have:Q e1 ⟨L,s1.hp⟩:=hF _ _ _ _ _ _ z2 hf q3;have e0:s1=⟨L,s1.hp⟩:=by rw [<-q2]
   cases e1 <;> first | exact absurd rfl z2 | (rw [e0];exact this)
def Yt:Nat->List Ent->List Ent
 | _,[]=>[]
 | n,e::E=>(e.1,n,e.2.2)::Yt (n+1) E
theorem Ef:∀ (E:List Ent) (n:Nat),(Yt n E).map kvE=E.map kvE
 | [],n=>rfl
 | e::E,n=>by simp only [Yt,wI,Ef E];rfl
theorem Ee:∀ {E:List Ent} {n:Nat},∀ e∈Yt n E,n<=e.2.1
 | [],n,e,h=>by cases h
 | x::E,n,e,h=>by
   rcases sg.1 h with u | u
   . subst u;exact Qs _
   exact Nat.le_of_succ_le (Ee e u)
theorem Yu:∀ (E:List Ent) (n:Nat),((Yt n E).map (·.2.1)).Nodup
 | [],n => .nil
 | x::E,n=>by simp only [Yt,wI,qm7];refine ⟨fun h=>?_,Yu E (n+1)⟩;obtain ⟨e,u,h⟩:=gm.1 h;have:=Ee e u;omega
theorem qc6 {E c V b s} (h:HR (Zp Z m n E c V b s) p q) (x:Z m=none) (z:Z n=none) (w:m≠n) {g k} (d:hpf p m=some (.mp g k)):HR Z (qz p m (.mp g 0)) q:=by
 obtain ⟨l,a⟩:=Ys h;simp only [qz,if_pos l];refine ⟨by simp [h.len],fun i t=>?_,fun i o O u j=>?_⟩
 . have:=h.new i (by simpa using t);simp only [Zp] at this
   (repeat' split at this) <;> first | cases this | exact this
 by_cases e:i=m
 . subst e;rw [qm9 l] at u;cases u;obtain ⟨v,Q,M,L,N⟩:=wk h d;rw [show q[i]?=some (.mp v c) from Q] at j;cases j;rw [x];exact ⟨rfl,_,_,rfl,L⟩
 rw [qmY (qmG e)] at u;have:=h.obj i o O u j;by_cases y:i=n
 . subst y;simp only [Zp,if_neg e,qmA] at this;have f:=Ht this;rw [z,this.1];exact f
 simp only [Zp,if_neg e,if_neg y] at this;exact this
theorem wu (J:YS P ⟨Y,RG P⟩ w1 g1) (hY:Xd Y S) {R:List AOp} {K:List Nat} {b:FrL} {V:List HObj} {j:List Ent} (D:Stp P S [] R b V f p) (hx:evF (get f) x = .mp m) (T:hpf p m=some (.mp j 0)) {w:List HObj} (hh:HR Z V w)  (hk:∀ E c0 q,Z m=none->Z p.length=none->(∀ i,p.length+1<=i->Z i=none)->m<p.length->Sh j E c0->q.length=p.length+1->HR (Zp Z m p.length E c0 [] (Yt 2 j) []) (qz (p++[.gone]) m (.mp (Yt 2 j) 1)) q ->
  ZC κ P w1 g1 (.loop r.rd) ⟨K.map fun t=>(t,get ((r.it,.ref p.length 0)::f) t),q⟩ (Exit.blk r.eb Q)):ZC κ P w1 g1 (r.rm R x K) ⟨b,w⟩ Q:=by
 refine ji (YW J (Ez Y) rfl ?_);show zz P ⟨Y,RG P⟩ (R++[.rng r.it x]) ⟨b,w⟩ _;refine XH (QG (fun s ⟨C,z⟩=>?_) (D Y hY Z w b hh .refl));obtain ⟨E,c0,X,k,k3⟩:=z.mp0 T;have L:evF (get s.fr) x = .mp m:=by rw [C.ev (by cases x <;> simp [XD,Opd.tmp])];exact hx
 have l:s.hp.length=p.length:=z.len;have y:m<p.length:=qF T;simp only [zx,zz,aop,AOp.many,L,X];show ZC κ P w1 g1 _ (St.keep ⟨(r.it,.ref s.hp.length 0)::s.fr,qz s.hp s.hp.length (.it m c0 [] c0)⟩ K) _;have c:(K.map fun t=>(t,get ((r.it,.ref s.hp.length 0)::s.fr) t))=K.map fun t=>(t,get ((r.it,.ref p.length 0)::f) t):=by rw [l];exact (C.cons r.it (.ref p.length 0)).keep (by simp [uM])
 simp only [St.keep,c];have O:Z p.length=none:=z.new _ (Qs _);have N:qz s.hp s.hp.length (.it m c0 [] c0)=s.hp++[.it m c0 [] c0]:=by simp [qz]
 rw [N];have x0:m≠p.length:=qof y
 have M:HR (Zp Z m p.length E c0 [] (Yt 2 j) []) (qz (p++[.gone]) m (.mp (Yt 2 j) 1)) (s.hp++[.it m c0 [] c0]):=by
  have u:m<(p++[HObj.gone]).length:=by simp;omega
  simp only [qz,if_pos u];refine ⟨by simp [l],fun i d=>?_,fun i o o' a A=>?_⟩
  . simp at d;have v:i≠m:=by omega
    have g:i≠p.length:=by omega
    simp only [Zp,if_neg v,if_neg g];exact z.new i (by omega)
  by_cases v:i=m
  . subst v;rw [qm9 u] at a;rw [qmw (by omega)] at A;rw [show s.hp[i]?=some (.mp E c0) from X] at A;cases a;cases A;simp only [Zp,qmA];refine ⟨_,_,_,rfl,by decide,rfl,⟨by rw [Ef];exact k.perm,k.keys,k.born,k.clk⟩,.refl _,fun e n _=>n,fun e n=>n,fun h=>absurd rfl h⟩
  rw [qmY (qmG v)] at a;by_cases g:i=p.length
  . subst g;rw [qmy (Qs _)] at a;rw [<-l,qmy (Qs _)] at A;simp at a A;subst a A;simp only [Zp,if_neg v,qmA];exact ⟨rfl,rfl,rfl⟩
  have d:i<p.length:=by have:=(qml.1 a).1;simp at this;omega
  rw [qmw d] at a;rw [qmw (by omega)] at A;simp only [Zp,if_neg v,if_neg g];exact z.obj i o o' a A
 exact Wj (hk E c0 _ k3 O (fun i d=>z.new i (by omega)) y k (by simp [l]) M)
theorem qiW (L:Xd Y S) (J:r.ok=true) {O:List AOp} {M:List Nat} {y:FrL} {o:List HObj} (Q:Stp P S [] O y o f p) (A:evF (get f) x = .mp m) (C:hpf p m=some (.mp E 0))
 {F:Exit->FrL->List HObj->Prop} (R:r.Runs κ P S m p.length F N (Yt 2 E) (M.map fun t=>(t,get ((r.it,.ref p.length 0)::f) t)) (qz (p++[.gone]) m (.mp (Yt 2 E) 1)))
 {c:List HObj} (b:HR Z o c):AGk κ P Y (r.rm O x M) ⟨y,c⟩ fun e s=>∃ v j u,v≠.normal/\F v j u/\e=bkE r.eb v/\s.fr=j/\∀ E k,hpf u m=some (.mp E k)->HR Z (qz u m (.mp E 0)) s.hp:=fun w1 g1 i=>by
 refine wu i L Q A C b fun q c0 D k3 a T z K l d=>?_;have n:m≠p.length:=qof z;refine uV i L J n z T K.born K.keys K.clk (Yu _ _) (fun e g=>Ee e g) (fun v y o c V seen w X b=>MN ?_) R (U:=q) (W:=[]) (by simp) (by rw [Ef];exact K.perm) (fun e g=>g) l d;exact ⟨v,y,o,w,X,rfl,rfl,fun E k h=>qc6 b k3 a n h⟩
end
def oI:Value->Value->Bool
 | .int k a,.int K b=>Nat.beq (kNo k) (kNo K)&&decide (a=b)
 | .bool a,.bool b=>a==b
 | .string a,.string b=>decide (a.data.toList=b.data.toList)
 | .pointer none,.pointer none=>true
 | .map none,.map none=>true
 | .nilFunc,.nilFunc=>true
 | .nilIface,.nilIface=>true
 | _,_=>false
theorem OO {a b:Value} (h:oI a b=true):a=b:=by
 unfold oI at h;split at h
 . simp only [qd,qmE] at h;rw [Ba (qe h.1),h.2]
 . rw [qoa h]
 . rename_i a b;simp only [qmE] at h;cases a with | mk a=>cases b with | mk b=>cases a;cases b;simp only at h;rw [h]
 . rfl
 . rfl
 . rfl
 . rfl
 cases h
def eqL {α:Type} (f:α->α->Bool):List α->List α->Bool
 | [],[]=>true
 | a::as,b::s=>f a b&&eqL f as s
 | _,_=>false
theorem Xj {α:Type} {f:α->α->Bool} (u:∀ a b,f a b=true->a=b):∀ {as s:List α},eqL f as s=true->as=s
 | [],[],_=>rfl
 | a::as,b::s,h=>by simp only [eqL,qd] at h;rw [u _ _ h.1,Xj u h.2]
 | [],_::_,h=>by cases h
 | _::_,[],h=>by cases h
def eqF:Fn->Fn->Bool
 | .func f,.func g=>Nat.beq f g
 | _,_=>false
theorem oF {f g:Fn} (h:eqF f g=true):f=g:=by
 unfold eqF at h;split at h
 . rw [qe h]
 cases h
def eqA:Nat->AV->AV->Bool
 | 0,_,_=>false
 | d+1,x,y=>match x,y with
   | .v a,.v b=>oI a b
   | .sl f n s,.sl j N C=>(f==j)&&Nat.beq n N&&eqL (eqA d) s C
   | .agg s,.agg C=>eqL (eqA d) s C
   | .tup s,.tup C=>eqL (eqA d) s C
   | .ptr s o,.ptr C O=>Nat.beq o O&&eqL (eqA d) s C
   | .ref i o,.ref u O=>Nat.beq i u&&Nat.beq o O
   | .ms i o n z,.ms u O N Z=>Nat.beq i u&&Nat.beq o O&&Nat.beq n N&&Nat.beq z Z
   | .mc i o n c z,.mc u O N m Z=>Nat.beq i u&&Nat.beq o O&&Nat.beq n N&&Nat.beq c m&&Nat.beq z Z
   | .fn f r g,.fn j q v=>eqF f j&&eqL (eqA d) r q&&eqL (eqA d) g v
   | .mp i,.mp u=>Nat.beq i u
   | .yl i,.yl u=>Nat.beq i u
   | .any,.any=>true
   | _,_=>false
theorem Kz:∀ (d:Nat) {x y:AV},eqA d x y=true->x=y
 | 0,x,y,h=>by cases h
 | d+1,x,y,h=>by
   have i:∀ {as b:List AV},eqL (eqA d) as b=true->as=b:=fun h=>Xj (fun _ _ h=>Kz d h) h;unfold eqA at h;split at h
   . rw [OO h]
   . simp only [qd] at h;rw [qoa h.1.1,qe h.1.2,i h.2]
   . rw [i h]
   . rw [i h]
   . simp only [qd] at h;rw [qe h.1,i h.2]
   . simp only [qd] at h;rw [qe h.1,qe h.2]
   . simp only [qd] at h;rw [qe h.1.1.1,qe h.1.1.2,qe h.1.2,qe h.2]
   . simp only [qd] at h;rw [qe h.1.1.1.1,qe h.1.1.1.2,qe h.1.1.2,qe h.1.2,qe h.2]
   . simp only [qd] at h;rw [oF h.1.1,i h.1.2,i h.2]
   . rw [qe h]
   . rw [qe h]
   . rfl
   cases h
def eqV:Value->Value->Bool
 | .agg as,.agg s=>eqL oI as.toList s.toList
 | a,b=>oI a b
theorem oJ {a b:Value} (h:eqV a b=true):a=b:=by
 unfold eqV at h;split at h
 . rename_i as s;have:=Xj (fun _ _ h=>OO h) h;cases as;cases s;simp only at this;rw [this]
 exact OO h
def qfW (a b:FrL):Bool:=eqL (fun p q=>Nat.beq p.1 q.1&&eqA 6 p.2 q.2) a b
theorem Gy {a b:FrL} (h:qfW a b=true):a=b:=Xj (fun p q h=>by simp only [qd] at h;exact qpM (qe h.1) (Kz 6 h.2)) h
def xR (f:Ent->Ent->Bool) (e:Ent):List Ent->Option (List Ent)
 | []=>none
 | x::l=>bif f e x then some l else (xR f e l).map (x::·)
def Lt (f:Ent->Ent->Bool):List Ent->List Ent->Bool
 | [],[]=>true
 | e::E,l=>match xR f e l with
   | some l=>Lt f E l
   | none=>false
 | [],_::_=>false
theorem SW {β:Type} {f:Ent->Ent->Bool} {g:Ent->β} (u:∀ a b,f a b=true->g a=g b) {e:Ent}:∀ {l r:List Ent},xR f e l=some r->(l.map g).Perm (g e::r.map g)
 | [],r,h=>by cases h
 | x::l,r,h=>by
   simp only [xR] at h;cases hfe:f e x with
   | true=>rw [hfe] at h;cases h;rw [wI,u _ _ hfe]
   | false =>rw [hfe] at h;obtain ⟨R,v,rfl⟩:=RL.1 h;rw [wI,wI];exact ((SW u v).cons _).trans (.swap _ _ _)
theorem XT {β:Type} {f:Ent->Ent->Bool} {g:Ent->β} (u:∀ a b,f a b=true->g a=g b):∀ {a b:List Ent},Lt f a b=true->(b.map g).Perm (a.map g)
 | [],[],_ => .nil
 | e::E,l,h=>by
   simp only [Lt] at h;split at h
   . rename_i L v;exact (SW u v).trans ((XT u h).cons _)
   cases h
 | [],_::_,h=>by cases h
def oG (a b:Ent):Bool:=eqV a.1 b.1&&eqA 6 a.2.2 b.2.2
theorem OM {a b:Ent} (h:oG a b=true):kvE a=kvE b:=by simp only [oG,qd] at h;exact qpM (oJ h.1) (Kz 6 h.2)
def qhS (a b:Ent):Bool:=Nat.beq a.2.1 b.2.1&&oG a b
theorem mI {a b:Ent} (h:qhS a b=true):a=b:=by simp only [qhS,qd] at h;have u:=OM h.2;simp only [kvE,qmm] at u;exact qpM u.1 (qpM (qe h.1) u.2)
def qhV:LpSt->LpSt->Bool
 | .ready,.ready=>true
 | .busy,.busy=>true
 | _,_=>false
theorem mK {a b:LpSt} (h:qhV a b=true):a=b:=by unfold qhV at h;split at h <;> first | rfl | cases h
def xz:HObj->HObj->Bool
 | .mp E 0,.mp e 0=>Lt oG E e
 | .mp E (k+1),.mp e (K+1)=>Nat.beq k K&&Lt qhS E e
 | .mp _ (_+1),.gone=>false
 | _,.gone=>true
 | .cells j,.cells C=>eqL (eqA 6) j C
 | .lp s m,.lp u M=>qhV s u&&Nat.beq m M
 | .it w c l s,.it z v L u=>Nat.beq w z&&(Nat.beq c v&&(eqL Nat.beq l L&&Nat.beq s u))
 | _,_=>false
theorem xA {d:HObj} (h:xz o d=true) {z:Option PK} {O:HObj} (r:HR1 z o O):HR1 z d O:=by
 have n:(∀ y k,o = .mp y k->k=0)->HR1 z .gone O:=fun j=>by
  cases z with
  | none=>exact Ht r
  | some z =>
    cases z with
    | ex z=>exact ⟨rfl,r.2⟩
    | add B=>exact Ht (z:=some (.add B)) r
    | pin E c V t =>obtain ⟨y,k,_,u,m,_⟩:=r;exact absurd (j _ _ u) m
 unfold xz at h;split at h
 . rename_i y q;have p:=XT (fun a b h=>OM h) h;cases z with
   | none =>obtain ⟨_,v,c,rfl,s⟩:=r;exact ⟨rfl,v,c,rfl,⟨p.trans s.perm,s.keys,s.born,s.clk⟩⟩
   | some z =>
     cases z with
     | ex z=>cases r.1
     | add B=>exact r.elim
     | pin E c V t =>obtain ⟨_,_,_,u,m,_⟩:=r;cases u;exact absurd rfl m
 . rename_i y k q K;simp only [qd] at h;have p:=XT (g:=id) (fun a b h=>mI h) h.2;rw [qoH,qoH] at p;have w:=qe h.1;subst w;cases z with
   | none=>obtain ⟨u,_⟩:=r;cases u
   | some z =>
     cases z with
     | ex z=>cases r.1
     | add B=>exact r.elim
     | pin E c V t =>obtain ⟨i,L,v,u,m,x,s,f⟩:=r;cases u;exact ⟨q,_,v,rfl,m,x,⟨(p.map kvE).trans s.perm,s.keys,s.born,s.clk⟩,⟨f.sub,f.stay,fun e l=>f.old e (p.mem_iff.1 l),fun u e l=>f.mark u e (p.mem_iff.1 l)⟩⟩
 . cases h
 . rename_i j
   exact n fun y k e=>by
    cases k with
    | zero=>rfl
    | succ k=>exact absurd e (j y k)
 . rw [<-Xj (fun _ _ h=>Kz 6 h) h];exact r
 . simp only [qd] at h;rw [<-mK h.1,<-qe h.2];exact r
 . simp only [qd] at h;rw [<-qe h.1,<-qe h.2.1,<-Xj (fun a b e=>qe e) h.2.2.1,<-qe h.2.2.2];exact r
 cases h
def Jz:List HObj->List HObj->Bool
 | [],[]=>true
 | a::as,b::s=>xz a b&&Jz as s
 | _,_=>false
theorem Uw:∀ {a b:List HObj},Jz a b=true->a.length=b.length
 | [],[],_=>rfl
 | a::as,b::s,h=>by simp only [Jz,qd] at h;simp [Uw h.2]
 | [],_::_,h=>by cases h
 | _::_,[],h=>by cases h
theorem SP:∀ {a b:List HObj},Jz a b=true->∀ (i:Nat) (O:HObj),b[i]?=some O->∃ o,a[i]?=some o/\xz o O=true
 | [],[],_,i,O,h=>by simp at h
 | a::as,b::s,h,0,O,u=>by simp only [Jz,qd] at h;simp at u;subst u;exact ⟨a,rfl,h.1⟩
 | a::as,b::s,h,i+1,O,u=>by simp only [Jz,qd] at h;obtain ⟨o,v,j⟩:=SP h.2 i O (by simpa using u);exact ⟨o,by simpa using v,j⟩
 | [],_::_,h,_,_,_=>by cases h
 | _::_,[],h,_,_,_=>by cases h
theorem XY {a b:List HObj} (h:Jz a b=true):HM a b:=fun Z g r=>by have l:=Uw h;refine ⟨by rw [r.len,l],fun i q=>r.new i (by omega),fun i o O u v=>?_⟩;obtain ⟨y,j,z⟩:=SP h i o u;exact xA z (r.obj i y O j v)
def sa:List Nat->Nat->Bool
 | [],_=>false
 | a::l,i=>Nat.beq a i || sa l i
def pinned:HObj->Bool
 | .mp _ (_+1)=>true
 | _=>false
def gcP (b:Nat) (d:List Nat) (p:List HObj) (k:List HObj->Prop):Prop:=List.rec (motive:=fun _=>Nat->(List HObj->Prop)->Prop) (fun _ k=>k [])
 (fun o _ h i k=>fnP i fun i=>Bool.rec (motive:=fun _=>Prop) (h (Nat.succ i) fun t=>k (o::t)) (h (Nat.succ i) fun t=>k (.gone::t)) (Nat.ble b i && !sa d i && !pinned o)) p 0 k
theorem Lu (h:pinned o=false) {z:Option PK} {O:HObj} (r:HR1 z o O):HR1 z .gone O:=by
 cases z with
 | none=>exact Ht r
 | some z =>
   cases z with
   | ex z=>exact ⟨rfl,r.2⟩
   | add B=>exact Ht (z:=some (.add B)) r
   | pin E c V j =>
     obtain ⟨e,k,_,u,v,_⟩:=r;subst u;cases k with
     | zero=>exact absurd rfl v
     | succ k=>cases h
def Weak (a b:List HObj):Prop:=b.length=a.length/\∀ (i:Nat) (O:HObj),b[i]?=some O->∃ o,a[i]?=some o/\(O=o\/(O = .gone/\pinned o=false))
theorem Weak.hm {a b:List HObj} (h:Weak a b):HM a b:=fun Z hq q=>by
 refine ⟨by rw [q.len,h.1],fun i K=>q.new i (by rw [<-h.1];exact K),fun i o A e O=>?_⟩;obtain ⟨o0,X,y⟩:=h.2 i o e;have:=q.obj i o0 A X O;rcases y with rfl | ⟨rfl,y⟩
 . exact this
 exact Lu y this
theorem Xm {d:List Nat} {k:List HObj->Prop} (h:gcP b d u k):∃ p,k p/\HM u p:=by
 have g:∀ (u:List HObj) (i:Nat) (k:List HObj->Prop),(List.rec (motive:=fun _=>Nat->(List HObj->Prop)->Prop) (fun _ k=>k [])
  (fun o _ y i k=>fnP i fun i=>Bool.rec (motive:=fun _=>Prop) (y (Nat.succ i) fun t=>k (o::t)) (y (Nat.succ i) fun t=>k (.gone::t)) (Nat.ble b i && !sa d i && !pinned o)) u i k:Prop)->∃ p,k p/\Weak u p:=by
  intro u
  induction u with
  | nil=>intro i k h;exact ⟨[],h,rfl,fun i O h=>by simp at h⟩
  | cons o u y =>
    intro i k h;have h:fnP i (fun i=>Bool.rec (motive:=fun _=>Prop) _ _ (Nat.ble b i && !sa d i && !pinned o)):=h;rw [qC] at h
    have fin:∀ {O:HObj} {t:List HObj},(O=o\/(O = .gone/\pinned o=false))->Weak u t->Weak (o::u) (O::t):=fun {O t} z v=>by
     refine ⟨by simp [v.1],fun j s q=>?_⟩;cases j with
     | zero=>simp at q;subst q;exact ⟨o,rfl,z⟩
     | succ j=>exact v.2 j s (by simpa using q)
    cases e:(Nat.ble b i && !sa d i && !pinned o) with
    | false =>rw [e] at h;obtain ⟨t,z,v⟩:=y _ _ h;exact ⟨_,z,fin (.inl rfl) v⟩
    | true =>rw [e] at h;obtain ⟨t,z,v⟩:=y _ _ h;simp only [qd,qmZ] at e;exact ⟨_,z,fin (.inr ⟨rfl,e.2⟩) v⟩
 obtain ⟨p,z,v⟩:=g u 0 k h;exact ⟨p,z,v.hm⟩
def qcS (L:Nat) (f:FrL) (h:List HObj) (k:List HObj->Prop):Prop:=match h.drop L with
 | []=>k h
 | o::l=>Bool.rec (motive:=fun _=>Prop) (k h) (flP (h.take L) k) ((o::l).all isG&&(f.all (fun p=>ltV 4 L p.2)&&(h.take L).all (ltE L)))
theorem PY {v:List HObj} {k:List HObj->Prop} (h:qcS L f v k):∃ u,k u/\Trn L f v u:=by
 unfold qcS at h;split at h
 . exact ⟨v,h,.inl rfl⟩
 rename_i o l d;cases e:((o::l).all isG&&(f.all (fun p=>ltV 4 L p.2)&&(v.take L).all (ltE L))) with
 | false=>rw [e] at h;exact ⟨v,h,.inl rfl⟩
 | true =>rw [e] at h;have h:flP (v.take L) k:=h;rw [zM] at h;simp only [qd] at e;refine ⟨_,h,.inr ⟨L,Qs _,?_,rfl,fun p u=>LL.1 e.2.1 p u,fun o j=>LL.1 e.2.2 o j⟩⟩;refine qoA fun t=>?_;rw [qnJ (by omega)] at d;cases d
structure Nd where
 rem:List Ent
 fr:FrL
 hp:List HObj
abbrev Ou:=Exit×FrL×List HObj
def eqB:List Ent->List Ent->Bool
 | [],[]=>true
 | a::as,b::s=>Nat.beq a.2.1 b.2.1&&eqB as s
 | _,_=>false
theorem bz {E:List Ent} (n:(E.map (·.2.1)).Nodup):∀ {as s:List Ent},(∀ e∈as,e∈E)->(∀ e∈s,e∈E)->eqB as s=true->as=s
 | [],[],_,_,_=>rfl
 | a::as,b::s,v,j,h=>by simp only [eqB,qd] at h;rw [Oe n (v a (by simp)) (j b (by simp)) (qe h.1),bz n (fun e u=>v e (by simp [u])) (fun e u=>j e (by simp [u])) h.2]
 | [],_::_,_,_,h=>by cases h
 | _::_,[],_,_,h=>by cases h
def xy (x y:Nd):Bool:=eqB x.rem y.rem&&qfW x.fr y.fr&&Jz x.hp y.hp
def qhT:Exit->Exit->Bool
 | .normal,.normal=>true
 | .exit i,.exit j=>Nat.beq i j
 | .ret,.ret=>true
 | _,_=>false
theorem mJ {a b:Exit} (h:qhT a b=true):a=b:=by
 unfold qhT at h;split at h
 . rfl
 . rw [qe h]
 . rfl
 cases h
def ZL (x y:Ou):Bool:=qhT x.1 y.1&&qfW x.2.1 y.2.1&&Jz x.2.2 y.2.2
theorem EF {x y:Ou} (h:ZL x y=true):x.1=y.1/\x.2.1=y.2.1/\HM x.2.2 y.2.2:=by simp only [ZL,qd] at h;exact ⟨mJ h.1.1,Gy h.1.2,XY h.2⟩
def uz {α:Type} (f:α->α->Bool) (x:α) (l:List α) (k:List α->Prop):Prop:=Bool.rec (motive:=fun _=>Prop) (flP (l++[x]) k) (k l) (l.any (f x))
theorem Pe {f:α->α->Bool} {x:α} {l:List α} {k:List α->Prop} (h:uz f x l k):∃ L,k L/\(∀ y∈l,y∈L)/\((∃ y∈L,f x y=true)\/x∈L)/\∀ y∈L,y∈l\/y=x:=by
 unfold uz at h;cases e:l.any (f x) with
 | true =>rw [e] at h;rw [qnG] at e;exact ⟨l,h,fun y u=>u,.inl e,fun y u => .inl u⟩
 | false =>rw [e] at h;have h:flP (l++[x]) k:=h;rw [zM] at h;exact ⟨l++[x],h,fun y u=>by simp [u],.inr (by simp),fun y u=>by simpa using u⟩
def SC (h:List HObj) (m:Nat) (k:List Ent->Nat->Prop):Prop:=XS h m fun o=>match o with
 | .mp e c=>k e c
 | _=>False
theorem Jg {k:List Ent->Nat->Prop} (h:SC p m k):∃ e c,hpf p m=some (.mp e c)/\k e c:=by
 obtain ⟨o,v,u⟩:=zW h;split at u
 . exact ⟨_,_,v,u⟩
 exact u.elim
def KM (f:FrL):List Nat:=f.flatMap fun p=>p.2.ids
def Mf (f:FrL) (t n:Nat) (k:Prop):Prop:=NM f t fun v=>match v with
 | .ref i 0=>okP (Nat.beq i n) k
 | _=>False
theorem WS {t:Nat} {k:Prop} (h:Mf f t n k):get f t = .ref n 0/\k:=by
 unfold Mf at h;rw [zV] at h;split at h
 . rename_i i j;obtain ⟨u,v⟩:=qt h;rw [<-qe u];exact ⟨j,v⟩
 exact h.elim
abbrev BC:=Ent->KE->K1
def qiI (j:BC) (i m n b:Nat) (N:Nd) (e:Ent) (R:List Ent) (a:List Nd) (f:List Ou) (k:List Nd->List Ou->Prop):Prop :=
 SC N.hp m fun s c=>okP (Nat.beq c 1) (jf N.hp m (.mp s e.2.1) fun v=>j e (fun ex r p=>match ex with
  | .normal=>Mf r i n (SC p m fun E _=>jf p m (.mp E 1) fun u=>gcP b (KM r) u fun h=>qcS (Nat.succ n) r h fun h=>uz xy ⟨R,r,h⟩ a fun a=>k a f)
  | ex=>SC p m fun E _=>jf p m (.mp E 0) fun u=>gcP b (KM r) u fun h=>uz ZL (ex,r,h) f fun f=>k a f) N.fr v)
def qfx (c:BC) (u m n b:Nat) (N:Nd) (pre:List Ent) (l:List Ent) (a:List Nd) (f:List Ou) (k:List Nd->List Ou->Prop):Prop :=
 List.rec (motive:=fun _=>List Ent->List Nd->List Ou->(List Nd->List Ou->Prop)->Prop) (fun _ a f k=>k a f)
  (fun e t i pre a f k=>flP (pre++t) fun r=>qiI c u m n b N e r a f fun a f=>flP (pre++[e]) fun pre=>i pre a f k) l pre a f k
def qfy (c:BC) (i m n b:Nat) (d:List Nd) (a:List Nd) (f:List Ou) (k:List Nd->List Ou->Prop):Prop :=
 List.rec (motive:=fun _=>List Nd->List Ou->(List Nd->List Ou->Prop)->Prop) (fun a f k=>k a f)
  (fun N _ h a f k=>Mf N.fr i n (qfx c i m n b N [] N.rem a f fun a f=>h a f k)) d a f k
def cJ (r:RMd) (m n b:Nat) (d:List Nd) (f:List Ou) (k:List Ou->Prop):Prop :=
 List.rec (motive:=fun _=>List Ou->(List Ou->Prop)->Prop) (fun f k=>k f)
  (fun N _ i f k=>Mf N.fr r.it n (YE r.ks1 ((r.b,B false)::(r.a,.tup [B false])::N.fr) fun u=>SC N.hp m fun e _=>jf N.hp m (.mp e 0) fun h=>gcP b (KM u) h fun p =>
   uz ZL (.exit r.eb,u,p) f fun f=>i f k)) d f k
def qiB (r:RMd) (c:BC) (m n b:Nat) (N:Nat) (d:List Nd) (f:List Ou) (k:List Ou->Prop):Prop :=
 Nat.rec (motive:=fun _=>List Nd->List Ou->Prop) (fun d f=>cJ r m n b d f k)
  (fun _ i d f=>qfy c r.it m n b d [] f fun d f=>i d f) N d f
def FO (m:Nat) (i:List Ou) (E:Exit) (r:FrL) (h:List HObj):Prop:=∃ f∈i,f.1=E/\f.2.1=r/\∃ e k,hpf h m=some (.mp e k)/\HM (qz h m (.mp e 0)) f.2.2
theorem FO.mono {m:Nat} {a b:List Ou} (h:∀ y∈a,y∈b) {ex e O} (q:FO m a ex e O):FO m b ex e O:=by obtain ⟨f,X,K⟩:=q;exact ⟨f,h f X,K⟩
theorem FO.ins {A:List Ou} {O:Exit} {X:FrL} {hp:List HObj} {e k} (hm:hpf hp m=some (.mp e k)) (h2:HM (qz hp m (.mp e 0)) q) (h:(∃ y∈A,ZL (O,X,q) y=true)\/(O,X,q)∈A):FO m A O X hp:=by
 rcases h with ⟨y,K,h4⟩ | K
 . obtain ⟨q1,q2,q3⟩:=EF h4;exact ⟨y,K,q1.symm,q2.symm,e,k,hm,h2.trans q3⟩
 exact ⟨_,K,rfl,rfl,e,k,hm,h2⟩
section
variable {κ:Option Nat} {P:Program} {S:YSp} {r:RMd} {bc:BC} {m n base:Nat} {E0:List Ent}
def Im (κ:Option Nat) (P:Program) (S:YSp) (r:RMd) (bc:BC):Prop:=∀ e K u p,bc e K u p->∃ E f h,r.Bd κ P S e u p E f h/\K E f h
def Then (κ:Option Nat) (P:Program) (S:YSp) (r:RMd) (m n:Nat) (N:Nd) (e:Ent) (R:List Ent) (a:List Nd) (i:List Ou):Prop :=
 ∃ x f h,(∃ s,hpf N.hp m=some (.mp s 1)/\r.Bd κ P S e N.fr (qz N.hp m (.mp s e.2.1)) x f h) /\
   ((x = .normal/\∃ E k,hpf h m=some (.mp E k)/\∃ y∈a,y.rem=R/\y.fr=f/\HT (n+1) f (qz h m (.mp E 1)) y.hp)\/(x≠.normal/\FO m i x f h))
theorem Then.mono {nd e K} {X A:List Nd} {O q:List Ou} (h1:∀ y∈X,y∈A) (h2:∀ y∈O,y∈q) (h:Then κ P S r m n nd e K X O):Then κ P S r m n nd e K A q:=by
 obtain ⟨ex,fr',x2,hb,h⟩:=h;refine ⟨ex,fr',x2,hb,?_⟩;rcases h with ⟨rfl,x0,k1,k2,y,k3,k4⟩ | ⟨x1,h⟩
 . exact .inl ⟨rfl,x0,k1,k2,y,h1 y k3,k4⟩
 exact .inr ⟨x1,h.mono h2⟩
theorem fp (hb:Im κ P S r bc) (hn:(E0.map (·.2.1)).Nodup) {it:Nat} {N:Nd} {R:List Ent} (z:∀ x∈R,x∈E0) {A:List Nd} (g:∀ y∈A,∀ x∈y.rem,x∈E0) {i:List Ou} {k:List Nd->List Ou->Prop} (h:qiI bc it m n base N e R A i k) :
 ∃ a f,k a f/\(∀ y∈A,y∈a)/\(∀ y∈i,y∈f)/\(∀ y∈a,y∈A\/y.rem=R)/\Then κ P S r m n N e R a f:=by
 obtain ⟨b,c,J,h⟩:=Jg h;obtain ⟨w,h⟩:=qt h;have w:=qe w;subst w;obtain ⟨q,u,p,h3,h⟩:=hb _ _ _ _ (qT h);have D:∃ b,hpf N.hp m=some (.mp b 1)/\r.Bd κ P S e N.fr (qz N.hp m (.mp b e.2.1)) q u p:=⟨b,J,h3⟩
 have o:q ≠ .normal->(SC p m fun E _=>jf p m (.mp E 0) fun Q=>gcP base (KM u) Q fun v=>uz ZL (q,u,v) i fun i=>k A i) ->
  ∃ a f,k a f/\(∀ y∈A,y∈a)/\(∀ y∈i,y∈f)/\(∀ y∈a,y∈A\/y.rem=R)/\Then κ P S r m n N e R a f:=fun O h=>by
  obtain ⟨E,K,L,h⟩:=Jg h;obtain ⟨v,h,l⟩:=Xm (qT h);obtain ⟨T,V,X,Y,Z⟩:=Pe h;exact ⟨A,T,V,fun y j=>j,X,fun y j => .inl j,q,u,p,D,.inr ⟨O,FO.ins L l Y⟩⟩
 cases q with
 | normal =>
   obtain ⟨_,h⟩:=WS h;obtain ⟨E,K,L,h⟩:=Jg h;obtain ⟨v,h,l⟩:=Xm (qT h);obtain ⟨s,h,C⟩:=PY h;obtain ⟨T,V,X,Y,Z⟩:=Pe h;refine ⟨T,i,V,X,fun y j=>j,fun y j=>(Z y j).imp id fun h=>by rw [h],.normal,u,p,D,.inl ⟨rfl,E,K,L,?_⟩⟩;rcases Y with ⟨y,t,d⟩ | t
   . simp only [xy,qd] at d
     have j:∀ x∈y.rem,x∈E0:=by
      rcases Z y t with M | M
      . exact g y M
      rw [M];exact z
     exact ⟨y,t,(bz hn z j d.1.1).symm,(Gy d.1.2).symm,⟨v,s,l,C,XY d.2⟩⟩
   exact ⟨_,t,rfl,rfl,⟨v,s,l,C,.refl⟩⟩
 | _=>exact o (by simp) h
theorem Mw (T:Im κ P S r bc) (V:(E0.map (·.2.1)).Nodup) {L:Nat} {N:Nd}:∀ {l pre:List Ent} {A:List Nd} {f:List Ou} {k:List Nd->List Ou->Prop},(∀ x∈pre++l,x∈E0)->(∀ y∈A,∀ x∈y.rem,x∈E0)->qfx bc L m n base N pre l A f k ->
 ∃ c i,k c i/\(∀ y∈A,y∈c)/\(∀ y∈f,y∈i)/\(∀ y∈c,y∈A\/∃ a e b,l=a++e::b/\y.rem=pre++a++b)/\∀ a e b,l=a++e::b->Then κ P S r m n N e (pre++a++b) c i
 | [],pre,A,f,k,_,_,h=>⟨A,f,h,fun _ h=>h,fun _ h=>h,fun y u => .inl u,fun a e b h=>by cases a <;> cases h⟩
 | e::t,pre,A,f,k,Q,v,h=>by
   have h:flP (pre++t) (fun R=>qiI bc L m n base N e R A f fun A f=>flP (pre++[e]) fun pre=>qfx bc L m n base N pre t A f k):=h;rw [zM] at h;have j:∀ x∈pre++t,x∈E0:=fun x w=>Q x (by rcases xm.1 w with q | q <;> simp [q]);obtain ⟨o,p,M,Y,Z,O,C⟩:=fp T V j v h;rw [zM] at M
   have z:∀ y∈o,∀ x∈y.rem,x∈E0:=fun y u=>by
    rcases O y u with q | q
    . exact v y q
    rw [q];exact j
   obtain ⟨g,s,D,K,X,J,k5⟩:=Mw T V (l:=t) (pre:=pre++[e]) (fun x w=>Q x (by simpa using w)) z M;refine ⟨g,s,D,fun y u=>K y (Y y u),fun y u=>X y (Z y u),fun y u=>?_,fun a E b d=>?_⟩
   . rcases J y u with q | ⟨a,E,b,q1,q2⟩
     . rcases O y q with q | q
       . exact .inl q
       exact .inr ⟨[],e,t,rfl,by rw [q];simp⟩
     exact .inr ⟨e::a,E,b,by rw [q1];rfl,by rw [q2];simp⟩
   cases a with
   | nil =>
     cases d;have:pre++[]++t=pre++t:=by simp
     rw [this];exact C.mono K X
   | cons a0 a =>cases d;have:=k5 a E b rfl;simpa using this
theorem My (M:Im κ P S r bc) (Q:(E0.map (·.2.1)).Nodup):∀ {d:List Nd} {A:List Nd} {f:List Ou} {k:List Nd->List Ou->Prop} {L:Nat},(∀ N∈d,N.rem.length=L+1/\∀ x∈N.rem,x∈E0)->(∀ N∈A,N.rem.length=L/\∀ x∈N.rem,x∈E0)->qfy bc r.it m n base d A f k ->
 ∃ c i,k c i/\(∀ y∈A,y∈c)/\(∀ y∈f,y∈i)/\(∀ y∈c,y.rem.length=L/\∀ x∈y.rem,x∈E0)/\∀ N∈d,get N.fr r.it = .ref n 0/\∀ a e b,N.rem=a++e::b->Then κ P S r m n N e (a++b) c i
 | [],A,f,k,L,_,u,h=>⟨A,f,h,fun _ h=>h,fun _ h=>h,u,fun N w=>by cases w⟩
 | N::d,A,f,k,L,s,u,h=>by
   have h:Mf N.fr r.it n (qfx bc r.it m n base N [] N.rem A f fun A f=>qfy bc r.it m n base d A f k):=h;obtain ⟨T,h⟩:=WS h;obtain ⟨O,E⟩:=s N (by simp);obtain ⟨g,t,V,X,Y,Z,C⟩:=Mw M Q (pre:=[]) (by simpa using E) (fun y z=>(u y z).2) h
   have j:∀ y∈g,y.rem.length=L/\∀ x∈y.rem,x∈E0:=fun y z=>by
    rcases Z y z with q | ⟨a,e,b,q1,q2⟩
    . exact u y q
    rw [q2];rw [q1] at O E;refine ⟨by simp at O ⊢;omega,fun x o=>E x ?_⟩;simp at o;rcases o with q | q <;> simp [q]
   obtain ⟨l,v,D,K,R,J,k5⟩:=My M Q (fun x o=>s x (by simp [o])) j V;refine ⟨l,v,D,fun y z=>K y (X y z),fun y z=>R y (Y y z),J,fun x o=>?_⟩;rcases sg.1 o with q | q
   . subst q;refine ⟨T,fun a e b p=>?_⟩;have:=(C a e b p).mono K R;simpa using this
   exact k5 x q
theorem OL:∀ {d:List Nd} {f:List Ou} {k:List Ou->Prop},cJ r m n base d f k->∃ i,k i/\(∀ y∈f,y∈i)/\∀ N∈d,get N.fr r.it = .ref n 0/\FO m i (.exit r.eb) (r.enFr N.fr) N.hp
 | [],f,k,h=>⟨f,h,fun _ h=>h,fun N v=>by cases v⟩
 | N::d,f,k,h=>by
   have h:Mf N.fr r.it n (YE r.ks1 ((r.b,B false)::(r.a,.tup [B false])::N.fr) fun u=>SC N.hp m fun e _=>jf N.hp m (.mp e 0) fun j=>gcP base (KM u) j fun p =>
    uz ZL (.exit r.eb,u,p) f fun f=>cJ r m n base d f k):=h
   obtain ⟨o,h⟩:=WS h;rw [zH] at h;obtain ⟨E,K,g,h⟩:=Jg h;obtain ⟨p,h,s⟩:=Xm (qT h);obtain ⟨L,Q,c,a,M⟩:=Pe h;obtain ⟨i,b,z,l⟩:=OL Q;refine ⟨i,b,fun y w=>z y (c y w),fun x t=>?_⟩;rcases sg.1 t with q | q
   . subst q;exact ⟨o,(FO.ins g s a).mono z⟩
   exact l x q
theorem Bo (Q:Im κ P S r bc) (R:(E0.map (·.2.1)).Nodup):∀ {N:Nat} {d:List Nd} {f:List Ou} {k:List Ou->Prop},(∀ u∈d,u.rem.length=N/\∀ x∈u.rem,x∈E0)->qiB r bc m n base N d f k ->
 ∃ i,k i/\(∀ y∈f,y∈i)/\∀ u∈d,r.Runs κ P S m n (FO m i) N u.rem u.fr u.hp
 | 0,d,f,k,s,h=>by obtain ⟨i,q,X,g⟩:=OL (show cJ r m n base d f k from h);refine ⟨i,q,X,fun u v=>?_⟩;obtain ⟨l,t⟩:=g u v;exact ⟨qmk (s u v).1,l,t⟩
 | N+1,d,f,k,s,h=>by
   have h:qfy bc r.it m n base d [] f (fun d f=>qiB r bc m n base N d f k):=h;obtain ⟨A,z,q,_,g,l,t⟩:=My Q R (L:=N) s (fun y O=>by cases O) h;obtain ⟨j,D,T,J⟩:=Bo Q R l q;refine ⟨j,D,fun y O=>T y (g y O),fun u v=>?_⟩;obtain ⟨Y,Z⟩:=t u v;refine ⟨(s u v).1,Y,fun a e b p=>?_⟩;obtain ⟨V,o,c,C,M⟩:=Z a e b p;refine ⟨V,o,c,C,?_⟩;rcases M with ⟨rfl,E,K,q1,y,q2,q3,q4,q5⟩ | ⟨w,M⟩
   . have:=J y q2;rw [q3,q4] at this;exact .inl ⟨rfl,E,K,y.hp,a++b,q1,q5,.refl _,this⟩
   exact .inr ⟨w,M.mono T⟩
end
def nxC (rows:List (List Nat)) (s a:Nat):Nat:=bif Nat.beq (s % 2) 1 then s else ((rows[s / 2]?.getD [])[a]?).getD s
def foC (rows:List (List Nat)) (s:Nat) (l:List Nat):Nat:=l.foldl (nxC rows) s
def cmC (r:List (List Nat)) (l n:Nat):Bool:=(List.range l).all fun i=>(List.range n).all fun a=>(List.range n).all fun b=>Nat.beq (nxC r (nxC r (2*i) a) b) (nxC r (nxC r (2*i) b) a)
def okC (l:Nat) (s:Nat):Prop:=s % 2=1\/s / 2<l
theorem Na {rows:List (List Nat)} {a:Nat} (h:s % 2=1):nxC rows s a=s:=by unfold nxC;rw [h];rfl
theorem ax {r:List (List Nat)} {l:Nat} (h:cmC r l n=true) {a:Nat} (z:okC l s) (u:a<n) (v:b<n):nxC r (nxC r s a) b=nxC r (nxC r s b) a:=by
 by_cases o:s % 2=1
 . rw [Na o,Na o,Na o]
 have j:s / 2<l:=z.resolve_left o;have e:s=2*(s / 2):=by omega
 have:=LL.1 (LL.1 (LL.1 h (s / 2) (qmO.2 j)) a (qmO.2 u)) b (qmO.2 v);have:=qe this;rwa [<-e] at this
theorem FX {rows:List (List Nat)} {l n:Nat} (c:cmC rows l n=true) (h:∀ s a,okC l s->a<n->okC l (nxC rows s a)):∀ {L:List Nat} {a:Nat} {u:List Nat} {s:Nat},okC l s->(∀ x∈L,x<n)->a<n->foC rows s (L++a::u)=foC rows (nxC rows s a) (L++u)
 | [],a,u,s,_,_,_=>rfl
 | b::L,a,u,s,y,z,v=>by have j:=z b (by simp);show foC rows (nxC rows s b) (L++a::u)=foC rows (nxC rows (nxC rows s a) b) (L++u);rw [FX c h (h s b y j) (fun x o=>z x (by simp [o])) v,ax c y v j]
theorem FY {rows:List (List Nat)} {s:Nat} (h:s % 2=1):∀ l,foC rows s l=s
 | []=>rfl
 | a::l=>by show foC rows (nxC rows s a) l=s;rw [Na h];exact FY h l
def iA {α:Type} (f:α->α->Bool) (x:α) (l:List α) (k:Nat->List α->Prop):Prop:=Option.rec (motive:=fun _=>Prop) (Md l fun n=>flP (l++[x]) fun l=>k n l) (fun j=>fnP j fun j=>k j l) (l.findIdx? (f x))
theorem AS {f:α->α->Bool} {x:α} {l:List α} {k:Nat->List α->Prop} (h:iA f x l k):∃ j L,k j L/\(∃ t,L=l++t)/\∃ y,L[j]?=some y/\(f x y=true\/y=x):=by
 unfold iA at h;cases e:l.findIdx? (f x) with
 | none =>rw [e] at h;have h:Md l (fun n=>flP (l++[x]) fun l=>k n l):=h;rw [Jd,zM] at h;exact ⟨l.length,l++[x],h,⟨[x],rfl⟩,x,by simp,.inr rfl⟩
 | some j =>rw [e] at h;have h:fnP j (fun j=>k j l):=h;rw [qC] at h;obtain ⟨v,u,_⟩:=qn9.1 e;exact ⟨j,l,h,⟨[],by simp⟩,l[j],Wd v,.inl u⟩
def qiJ (b:BC) (i m n base:Nat) (N:Nd) (e:Ent) (x:List Nd) (E:List Ou) (k:Nat->List Nd->List Ou->Prop):Prop :=
 SC N.hp m fun z c=>okP (Nat.beq c 1) (jf N.hp m (.mp z e.2.1) fun v=>b e (fun ex f p=>match ex with
  | .normal=>Mf f i n (SC p m fun s _=>jf p m (.mp s 1) fun u=>gcP base (KM f) u fun h=>qcS (Nat.succ n) f h fun h=>iA xy ⟨[],f,h⟩ x fun j x=>fnP (2*j) fun c=>k c x E)
  | ex=>SC p m fun s _=>jf p m (.mp s 0) fun u=>gcP base (KM f) u fun h=>iA ZL (ex,f,h) E fun j E=>fnP (2*j+1) fun c=>k c x E) N.fr v)
def qgj (b:BC) (t m n base:Nat) (N:Nd) (l:List Ent) (x:List Nd) (E:List Ou) (k:List Nat->List Nd->List Ou->Prop):Prop :=
 List.rec (motive:=fun _=>List Nd->List Ou->(List Nat->List Nd->List Ou->Prop)->Prop) (fun x E k=>k [] x E)
  (fun e _ i x E k=>qiJ b t m n base N e x E fun c x E=>i x E fun row x E=>k (c::row) x E) l x E k
def qhw (c:BC) (t m n b:Nat) (E:List Ent) (J:Nat) (i:Nat) (r:List (List Nat)) (x:List Nd) (e:List Ou) (k:List (List Nat)->List Nd->List Ou->Prop) (fail:Prop):Prop :=
 Nat.rec (motive:=fun _=>Nat->List (List Nat)->List Nd->List Ou->Prop) (fun _ _ _ _=>fail)
  (fun _ h i r x e=>Option.rec (motive:=fun _=>Prop) (k r x e) (fun N=>Mf N.fr t n (qgj c t m n b N E x e fun row x e=>flP (r++[row]) fun r=>fnP (Nat.succ i) fun i=>h i r x e)) x[i]?) J i r x e
def eI (r:RMd) (u:BC) (m n b c:Nat) (E:List Ent) (N:Nat) (v:FrL) (h:List HObj) (k:List Ou->Prop) (fail:Prop):Prop :=
 qhw u r.it m n b E c 0 [] [⟨[],v,h⟩] [] (fun rows x e=>Md x fun len=>okP (cmC rows len N) (fnP (foC rows 0 (List.range N)) fun f=>Bool.rec (motive:=fun _=>Prop)
  (XS x (f / 2) fun d=>cJ r m n b [d] [] k) (XS e (f / 2) fun o=>k [o]) (Nat.beq (f % 2) 1))) fail
section
variable {κ:Option Nat} {P:Program} {S:YSp} {r:RMd} {bc:BC} {m n base:Nat} {E0:List Ent}
def Led (κ:Option Nat) (P:Program) (S:YSp) (r:RMd) (m n:Nat) (N:Nd) (e:Ent) (c:Nat) (X:List Nd) (u:List Ou):Prop :=
 ∃ x f h,(∃ E,hpf N.hp m=some (.mp E 1)/\r.Bd κ P S e N.fr (qz N.hp m (.mp E e.2.1)) x f h) /\
   ((x = .normal/\c % 2=0/\∃ s K y,hpf h m=some (.mp s K)/\X[c / 2]?=some y/\y.fr=f/\HT (n+1) f (qz h m (.mp s 1)) y.hp) \/
    (x≠.normal/\c % 2=1/\∃ o,u[c / 2]?=some o/\o.1=x/\o.2.1=f/\∃ E k,hpf h m=some (.mp E k)/\HM (qz h m (.mp E 0)) o.2.2))
theorem GM {l t:List α} {y:α} (h:l[i]?=some y):(l++t)[i]?=some y:=by rw [qmw (qml.1 h).1];exact h
theorem Led.mono {nd e c} {xs t:List Nd} {q u:List Ou} (h:Led κ P S r m n nd e c xs q):Led κ P S r m n nd e c (xs++t) (q++u):=by
 obtain ⟨ex,fr',x1,hb,h⟩:=h;refine ⟨ex,fr',x1,hb,?_⟩;rcases h with ⟨rfl,X,O,k1,y,K,A,h4⟩ | ⟨x0,X,o,K,A⟩
 . exact .inl ⟨rfl,X,O,k1,y,K,GM A,h4⟩
 exact .inr ⟨x0,X,o,GM K,A⟩
theorem fq (V:Im κ P S r bc) {X:Nat} {N:Nd} {x:List Nd} {E:List Ou} {k:Nat->List Nd->List Ou->Prop} (h:qiJ bc X m n base N e x E k) :
 ∃ c t u,k c (x++t) (E++u)/\Led κ P S r m n N e c (x++t) (E++u):=by
 obtain ⟨d,c,R,h⟩:=Jg h;obtain ⟨a,h⟩:=qt h;have a:=qe a;subst a;obtain ⟨q,f,p,T,h⟩:=V _ _ _ _ (qT h);have Q:∃ d,hpf N.hp m=some (.mp d 1)/\r.Bd κ P S e N.fr (qz N.hp m (.mp d e.2.1)) q f p:=⟨d,R,T⟩
 have o:q ≠ .normal->(SC p m fun s _=>jf p m (.mp s 0) fun M=>gcP base (KM f) M fun v=>iA ZL (q,f,v) E fun j E=>fnP (2*j+1) fun c=>k c x E) ->
  ∃ c t u,k c (x++t) (E++u)/\Led κ P S r m n N e c (x++t) (E++u):=fun L h=>by
  obtain ⟨s,K,w,h⟩:=Jg h;obtain ⟨v,h,g⟩:=Xm (qT h);obtain ⟨j,Y,b,⟨u,rfl⟩,y,i,z⟩:=AS h;rw [qC] at b;refine ⟨2*j+1,[],u,by simpa using b,q,f,p,Q,.inr ⟨L,by omega,y,by rw [show (2*j+1) / 2=j by omega];exact i,?_⟩⟩;rcases z with z | rfl
  . obtain ⟨Z,C,D⟩:=EF z;exact ⟨Z.symm,C.symm,s,K,w,g.trans D⟩
  exact ⟨rfl,rfl,s,K,w,g⟩
 cases q with
 | normal =>
   obtain ⟨_,h⟩:=WS h;obtain ⟨s,K,w,h⟩:=Jg h;obtain ⟨v,h,g⟩:=Xm (qT h);obtain ⟨l,h,O⟩:=PY h;obtain ⟨j,Y,b,⟨t,rfl⟩,y,i,z⟩:=AS h;rw [qC] at b;refine ⟨2*j,t,[],by simpa using b,.normal,f,p,Q,.inl ⟨rfl,by omega,s,K,y,w,by rw [show 2*j / 2=j by omega];exact i,?_⟩⟩;rcases z with z | rfl
   . simp only [xy,qd] at z;exact ⟨(Gy z.1.2).symm,⟨v,l,g,O,XY z.2⟩⟩
   exact ⟨rfl,⟨v,l,g,O,.refl⟩⟩
 | _=>exact o (by simp) h
theorem Ca (b:Im κ P S r bc) {i:Nat} {N:Nd}:∀ {l:List Ent} {x:List Nd} {E:List Ou} {k:List Nat->List Nd->List Ou->Prop},qgj bc i m n base N l x E k ->
 ∃ (row:List Nat) (t:List Nd) (u:List Ou),k row (x++t) (E++u)/\row.length=l.length/\∀ (a:Nat) (e:Ent) (c:Nat),l[a]?=some e->row[a]?=some c->Led κ P S r m n N e c (x++t) (E++u)
 | [],x,E,k,h=>⟨[],[],[],by rw [qm3,qm3];exact h,rfl,fun a e c h=>by simp at h⟩
 | e::l,x,E,k,h=>by
   obtain ⟨c,t,u,y,o⟩:=fq (m:=m) (n:=n) (base:=base) b (show qiJ bc i m n base N e x E (fun c x E=>qgj bc i m n base N l x E fun row x E=>k (c::row) x E) from h);obtain ⟨row,t2,f,q,g,s⟩:=Ca b y;refine ⟨c::row,t++t2,u++f,by simpa using q,by simp [g],fun a z C v j=>?_⟩;rw [<-qmo,<-qmo];cases a with
   | zero=>simp at v j;subst v j;exact o.mono
   | succ a=>exact s a z C (by simpa using v) (by simpa using j)
def Rws (κ:Option Nat) (P:Program) (S:YSp) (r:RMd) (m n:Nat) (E0:List Ent) (R:List (List Nat)) (x:List Nd) (E:List Ou):Prop :=
 ∀ (i:Nat) (row:List Nat),R[i]?=some row->row.length=E0.length/\∃ N,x[i]?=some N/\get N.fr r.it = .ref n 0/\∀ (a:Nat) (e:Ent) (c:Nat),E0[a]?=some e->row[a]?=some c->Led κ P S r m n N e c x E
theorem Fp (f:Im κ P S r bc) {fail:Prop} {k:List (List Nat)->List Nd->List Ou->Prop}:∀ {JM i:Nat} {rows:List (List Nat)} {x:List Nd} {E:List Ou},rows.length=i->Rws κ P S r m n E0 rows x E->qhw bc r.it m n base E0 JM i rows x E k fail ->
 fail\/∃ R t u,k R (x++t) (E++u)/\Rws κ P S r m n E0 R (x++t) (E++u)/\(x++t).length<=R.length
 | 0,i,rows,x,E,_,_,h => .inl h
 | JM+1,i,rows,x,E,p,b,h=>by
   have h:Option.rec (motive:=fun _=>Prop) (k rows x E) (fun N=>Mf N.fr r.it n (qgj bc r.it m n base N E0 x E fun row x E=>flP (rows++[row]) fun rows=>fnP (Nat.succ i) fun i=>qhw bc r.it m n base E0 JM i rows x E k fail)) x[i]?:=h;cases e:x[i]? with
   | none =>rw [e] at h;refine .inr ⟨rows,[],[],by simpa using h,by simpa using b,?_⟩;have:=List.getElem?_eq_none_iff.1 e;simp;omega
   | some N =>
     rw [e] at h;obtain ⟨w,h⟩:=WS (show Mf N.fr r.it n _ from h);obtain ⟨row,t,u,s,L,M⟩:=Ca f h;rw [zM,qC] at s
     have z:Rws κ P S r m n E0 (rows++[row]) (x++t) (E++u):=fun j o v=>by
      by_cases l:j<rows.length
      . rw [qmw l] at v;obtain ⟨Q,d,y,g,X⟩:=b j o v;exact ⟨Q,d,GM y,g,fun a e c O T=>(X a e c O T).mono⟩
      have V:=(qml.1 v).1;simp at V;have:j=rows.length:=by omega
      subst this;rw [qmy (Qs _)] at v;simp at v;subst v;rw [p] at *;exact ⟨L,N,GM e,w,M⟩
     rcases Fp f (by simp [p]) z s with q | ⟨R,t2,u2,Q,y,g⟩
     . exact .inl q
     exact .inr ⟨R,t++t2,u++u2,by simpa using Q,by simpa using y,by simpa using g⟩
theorem IV (V:Im κ P S r bc) (h2:∀ (a:Nat) (e:Ent),E0[a]?=some e->e.2.1=a+2) {x6:Nat} (hN:N=E0.length) {D:FrL} {A:List HObj} {k:List Ou->Prop} {fail:Prop} (h:eI r bc m n base x6 E0 N D A k fail) :
 fail\/∃ f,k f/\r.Runs κ P S m n (FO m f) N E0 D A:=by
 rcases Fp V (rows:=[]) rfl (fun i row h=>by simp at h) h with q | ⟨rows,t,u,g,hR,hlen⟩
 . exact .inl q
 refine .inr ?_;simp only [qmF] at g hR;generalize y7:[⟨[],D,A⟩]++t=X at *;have x4:X[0]?=some ⟨[],D,A⟩:=by rw [<-y7];rfl
 rw [Jd] at g;obtain ⟨x9,g⟩:=qt g;rw [qC] at g
 have step:∀ i,i<X.length->∃ d,X[i]?=some d/\get d.fr r.it = .ref n 0/\∀ (a:Nat) (e:Ent),E0[a]?=some e->∃ c,nxC rows (2*i) a=c/\Led κ P S r m n d e c X u:=fun i J=>by
  obtain ⟨row,w⟩:∃ row,rows[i]?=some row:=⟨_,Wd (by omega)⟩;obtain ⟨Q,d,z,b,q4⟩:=hR i row w;refine ⟨d,z,b,fun a e T=>?_⟩;have x1:a<row.length:=by rw [Q];exact (qml.1 T).1
  refine ⟨row[a],?_,q4 a e _ T (Wd x1)⟩;unfold nxC;have e1:Nat.beq (2*i % 2) 1=false:=by rw [show 2*i % 2=0 by omega];rfl
  rw [e1,show 2*i / 2=i by omega,w];simp [Wd x1]
 have y6:∀ s a,okC X.length s->a<N->okC X.length (nxC rows s a):=fun s a L T=>by
  by_cases K:s % 2=1
  . rw [Na K];exact L
  have Z:=L.resolve_left K;obtain ⟨d,_,_,q⟩:=step (s / 2) Z;obtain ⟨c,Q,ex,x0,x3,_,z⟩:=q a (E0[a]'(by omega)) (Wd (by omega));rw [show 2*(s / 2)=s by omega] at Q;rw [Q];rcases z with ⟨_,_,_,_,y,_,b,_⟩ | ⟨_,b,_⟩
  . exact .inr (qml.1 b).1
  exact .inl b
 let p:Ent->Nat:=fun e=>e.2.1 - 2
 have E:∀ e∈E0,p e<N/\E0[p e]?=some e:=fun e Y=>by
  obtain ⟨a,T⟩:=List.getElem?_of_mem Y;have:=h2 a e T;have e1:p e=a:=by show e.2.1 - 2=a;omega
  rw [e1];exact ⟨by rw [hN];exact (qml.1 T).1,T⟩
 have C:E0.map p=List.range N:=by
  apply qpu;intro i;rw [qnn,hN];by_cases J:i<E0.length
  . rw [Wd J,qpf J];have:=h2 i _ (Wd J);simp only [qm6,p,this];congr 1
  rw [qm1 (by omega),qm1 (by simp;omega)];rfl
 have O:∀ (f:List Ou),(∀ i d,2*i=foC rows 0 (List.range N)->X[i]?=some d->FO m f (.exit r.eb) (r.enFr d.fr) d.hp) ->
  (∀ j o,2*j+1=foC rows 0 (List.range N)->u[j]?=some o->o∈f) ->
  ∀ M R i d,R.length=M->(∀ e∈R,e∈E0)->X[i]?=some d->foC rows (2*i) (R.map p)=foC rows 0 (List.range N)->r.Runs κ P S m n (FO m f) M R d.fr d.hp:=by
  intro f x2 y1 M
  induction M with
  | zero =>intro R i d Z hE v hf;have:R=[]:=qmk Z;subst this;obtain ⟨x5,Q,z,_⟩:=step i (qml.1 v).1;rw [v] at Q;cases Q;exact ⟨rfl,z,x2 i d hf v⟩
  | succ M ih =>
    intro R i d Z hE v hf;obtain ⟨x5,Q,z,b⟩:=step i (qml.1 v).1;rw [v] at Q;cases Q;refine ⟨Z,z,fun r1 e r2 L=>?_⟩;have Y:=hE e (by rw [L];simp);obtain ⟨y5,y4⟩:=E e Y;obtain ⟨c,k1,ex,x0,x3,hB,k2⟩:=b (p e) e y4;have y3:okC X.length (2*i) := .inr (by rw [show 2*i / 2=i by omega];exact (qml.1 v).1);have l:foC rows (2*i) (R.map p)=foC rows c ((r1++r2).map p):=by rw [L,qmD,wI,FX x9 y6 y3 (fun x v=>?_) y5,k1,qmD];obtain ⟨y,hy,rfl⟩:=gm.1 v;exact (E y (hE y (by rw [L];simp [hy]))).1
    refine ⟨ex,x0,x3,hB,?_⟩;rcases k2 with ⟨rfl,k3,x7,k4,y,k5,k6,k7,k8⟩ | ⟨y2,k3,o,k4,k5,k6,x8,k7,k8,k9⟩
    . refine .inl ⟨rfl,x7,k4,y.hp,r1++r2,k5,k8,.refl _,?_⟩;have:=ih (r1++r2) (c / 2) y (by rw [L] at Z;simp at Z ⊢;omega) (fun x v=>hE x (by rw [L];simp at v;rcases v with q | q <;> simp [q])) k6 (by rw [show 2*(c / 2)=c by omega,<-l];exact hf);rw [k7] at this;exact this
    refine .inr ⟨y2,o,?_,k5,k6,x8,k7,k8,k9⟩;refine y1 (c / 2) o ?_ k4;rw [<-hf,l,FY k3];omega
 have h0:foC rows (2*0) (E0.map p)=foC rows 0 (List.range N):=by rw [C]
 cases V:Nat.beq (foC rows 0 (List.range N) % 2) 1 with
 | true =>
   rw [V] at g;obtain ⟨o,Q,z⟩:=zW (show XS u (foC rows 0 (List.range N) / 2) (fun o=>k [o]) from g);have y8:=qe V;refine ⟨[o],z,O [o] (fun i d J _=>by omega) (fun j o' hj K=>?_) N E0 0 ⟨[],D,A⟩ hN.symm (fun e Y=>Y) x4 h0⟩;have:j=foC rows 0 (List.range N) / 2:=by omega
   rw [this,Q] at K;cases K;simp
 | false =>
   rw [V] at g;obtain ⟨d,Q,z⟩:=zW (show XS X (foC rows 0 (List.range N) / 2) (fun d=>cJ r m n base [d] [] k) from g);obtain ⟨f,b,_,q4⟩:=OL z;have y0:foC rows 0 (List.range N) % 2≠1:=fun q=>by rw [q] at V;cases V
   refine ⟨f,b,O f (fun i x5 J v=>?_) (fun j o' hj K=>by omega) N E0 0 ⟨[],D,A⟩ hN.symm (fun e Y=>Y) x4 h0⟩;have:i=foC rows 0 (List.range N) / 2:=by omega
   rw [this,Q] at v;cases v;exact (q4 d (by simp)).2
end
theorem ML {j t:Nat} (h:j≠t):Nat.beq j t=false:=by
 cases e:Nat.beq j t with
 | false=>rfl
 | true=>exact absurd (qe e) h
def bL (ids:List Nat) (h:List HObj) (k:List HObj->Prop):Prop:=match ids with
 | []=>k h
 | ids=>wsP (gones ids) h k
theorem GO (i:List Nat) (h:List HObj) (k:List HObj->Prop):bL i h k=k (qf h (gones i)):=by
 unfold bL;split
 . rfl
 exact Yd _ _ _
def ah (l m:List AV) (k:List AV->Prop):Prop:=List.rec (motive:=fun _=>(List AV->Prop)->Prop) (fun k=>k m) (fun a _ i k=>i fun t=>k (a::t)) l k
theorem Gk:∀ (l m:List AV) (k:List AV->Prop),ah l m k=k (l++m)
 | [],m,k=>rfl
 | a::l,m,k=>Gk l m fun t=>k (a::t)
def qjj (l:List AV) (n:Nat) (y:List AV) (k:List AV->Prop):Prop:=Nat.rec (motive:=fun _=>List AV->(List AV->Prop)->Prop) (fun _ k=>k y) (fun _ i l k=>List.rec (motive:=fun _=>Prop) False (fun a t _=>i t fun r=>k (a::r)) l) n l k
theorem CO {y:List AV}:∀ {n:Nat} {l:List AV} {k:List AV->Prop},qjj l n y k->n<=l.length/\k (l.take n++y)
 | 0,l,k,h=>⟨qmQ _,by rw [qoP];exact h⟩
 | n+1,[],k,h=>h.elim
 | n+1,a::l,k,h=>by have h:qjj l n y (fun r=>k (a::r)):=h;obtain ⟨v,u⟩:=CO h;exact ⟨by simp;omega,u⟩
def qgq (c:List AV) (o m:Nat) (y:List AV) (k:List AV->Prop):Prop:=kI c o fun t=>qjj t m y k
theorem Ia {o:Nat} {y:List AV} (h:qgq c o m y k):o+m<=c.length/\k (qJ c o m++y):=by obtain ⟨z,u⟩:=Gu h;obtain ⟨v,j⟩:=CO u;rw [qnV] at v;exact ⟨by omega,j⟩
def qgw (n:Nat) (z:List AV) (k:List AV->Prop):Prop:=Nat.rec (motive:=fun _=>(List AV->Prop)->Prop) (fun k=>k []) (fun _ i k=>i fun t=>ah z t k) n k
theorem Ik (z:List AV):∀ (n:Nat) (k:List AV->Prop),qgw n z k=k (zh n z)
 | 0,k=>rfl
 | n+1,k=>by show qgw n z (fun t=>ah z t k)=_;rw [Ik z n,Gk];rfl
def pkP (y:List AV) (k:Prop):Prop:=List.rec (motive:=fun _=>Prop) k (fun a _ i=>okP (AV.isPC a) i) y
theorem wl:∀ {y:List AV} {k:Prop},pkP y k->y.all AV.isPC=true/\k
 | [],k,h=>⟨rfl,h⟩
 | a::y,k,h=>by obtain ⟨u,v⟩:=qt (show okP (AV.isPC a) (pkP y k) from h);obtain ⟨j,z⟩:=wl v;exact ⟨by rw [qmC,u,j];rfl,z⟩
def elP (h:List HObj) (z:Nat) (y:AV) (k:Nat->List AV->Prop):Prop:=match y with
 | .sl _ n c=>lnP c fun l=>okP (Nat.beq l (Nat.mul n z)) (k n c)
 | .ms id off n s=>VC h id fun c=>okP (Nat.beq s z) (NA c off (Nat.mul n z) fun l=>k n l)
 | .mc id off n _ s=>VC h id fun c=>okP (Nat.beq s z) (NA c off (Nat.mul n z) fun l=>k n l)
 | _=>False
theorem oE {y:AV} {k:Nat->List AV->Prop} (h:elP p s y k):∃ m Y,elems (hpf p) s y=some (m,Y)/\k m Y:=by
 unfold elP at h;split at h
 . rw [Xp] at h;obtain ⟨u,v⟩:=qt h;refine ⟨_,_,?_,v⟩;simp only [elems];rw [if_pos (show _=_*_ from qe u)]
 . obtain ⟨c,u,v⟩:=zU h;obtain ⟨j,z⟩:=qt v;obtain ⟨o,q⟩:=Jo z;refine ⟨_,_,?_,q⟩;simp only [elems,u];rw [if_pos ⟨qe j,o⟩];rfl
 . obtain ⟨c,u,v⟩:=zU h;obtain ⟨j,z⟩:=qt v;obtain ⟨o,q⟩:=Jo z;refine ⟨_,_,?_,q⟩;simp only [elems,u];rw [if_pos ⟨qe j,o⟩];rfl
 exact h.elim
def tQ (n b:Nat):Bool:=Nat.ble (Nat.mul n b) 140737488355328&&Nat.ble n 140737488355328
def apP (h:List HObj) (s b:Nat) (x:AV) (m:Nat) (y:List AV) (k:AV->List HObj->Prop):Prop:=match x with
 | .sl f n C=>okP f (fnP (Nat.add n m) fun q=>okP (tQ q b&&(Nat.beq n 0 || Nat.blt 0 m)) (lnP C fun l=>okP (Nat.beq l (Nat.mul n s)) (ah C y fun l=>JA h (.cells l) fun id h=>k (.ms id 0 q s) h)))
 | .ms id off n z=>fnP (Nat.add n m) fun q=>okP (Nat.beq z s&&tQ q b) (VC h id fun C=>qgq C off (Nat.mul n s) y fun l=>jf h id .gone fun h=>JA h (.cells l) fun id h=>k (.ms id 0 q s) h)
 | .mc id off n c z=>fnP (Nat.add n m) fun q=>okP (Nat.beq z s&&tQ q b) (VC h id fun C=>lnP C fun l=>okP (Nat.ble (Nat.add off (Nat.mul n s)) l) (Bool.rec (motive:=fun _=>Prop)
  (qgq C off (Nat.mul n s) y fun l=>JA h (.cells l) fun id h=>k (.ms id 0 q s) h)
  (okP (Nat.ble (Nat.add off (Nat.mul q s)) l) (flP (splice C (off+n*s) y) fun l=>jf h id (.cells l) fun h=>k (.mc id off q c s) h)) (Nat.ble q c)))
 | _=>False
theorem Cv (h:i<p.length):(qz p i o).length=p.length:=by simp [qz,h]
theorem EN (h:tQ n b=true):n*b<=140737488355328/\n<=140737488355328:=by simp only [tQ,qd] at h;exact ⟨xr h.1,xr h.2⟩
theorem dZ {x:AV} {Y:List AV} {k:AV->List HObj->Prop} (h:apP p s b x m Y k):∃ r i,zG (hpf p) p.length r i s b x m Y/\k r (qf p i):=by
 unfold apP at h;split at h
 . rename_i a n C;obtain ⟨g,z⟩:=qt h;rw [qC] at z;obtain ⟨v,f⟩:=qt z;rw [Xp] at f;obtain ⟨y,u⟩:=qt f;rw [Gk] at u;simp only [qd,qm2] at v;obtain ⟨o,j⟩:=EN v.1;refine ⟨.ms p.length 0 (n+m) s,[(p.length,.cells (C++Y))],⟨g,qe y,o,j,?_,rfl,rfl⟩,zP u⟩;rcases v.2 with q | q
   . exact .inl (qe q)
   exact .inr (zJ q)
 . rename_i id off n w;rw [qC] at h;obtain ⟨v,f⟩:=qt h;obtain ⟨C,y,u⟩:=zU f;obtain ⟨o,j⟩:=Ia u;have l:=zP (qT j);simp only [qd] at v;have e:=qe v.1;obtain ⟨g,z⟩:=EN v.2;have L:(qf p [(id,.gone)]).length=p.length:=Cv (qF y);rw [L] at l;refine ⟨.ms p.length 0 (n+m) s,[(id,.gone),(p.length,.cells (qJ C off (n*s)++Y))],?_,l⟩;simp only [zG,y];exact ⟨e,o,g,z,by trivial,by trivial⟩
 . rename_i id off n c w;rw [qC] at h;obtain ⟨v,f⟩:=qt h;obtain ⟨C,y,u⟩:=zU f;rw [Xp] at u;obtain ⟨t,u⟩:=qt u;have t:=xr t;simp only [qd] at v;have e:=qe v.1;obtain ⟨g,z⟩:=EN v.2;cases hc:Nat.ble (Nat.add n m) c with
   | false =>
     rw [hc] at u;obtain ⟨o,j⟩:=Ia (show qgq _ _ _ _ _ from u);have l:=zP j;refine ⟨.ms p.length 0 (n+m) s,[(p.length,.cells (qJ C off (n*s)++Y))],?_,l⟩;have d:c<n+m:=by rw [<-Nat.not_le];intro q;rw [show Nat.ble (Nat.add n m) c=true from qnE q] at hc;cases hc
     simp only [zG,y];exact ⟨e,o,g,z,.inr ⟨d,by trivial,by trivial⟩⟩
   | true =>rw [hc] at u;obtain ⟨o,j⟩:=qt (show okP _ _ from u);rw [zM] at j;refine ⟨.mc id off (n+m) c s,[(id,.cells (splice C (off+n*s) Y))],?_,qT j⟩;simp only [zG,y];exact ⟨e,t,g,z,.inl ⟨xr hc,xr o,by trivial,by trivial⟩⟩
 exact h.elim
section
variable {P:Program}
def qg5 (d s t:Nat) (x y:Op1):K1->K1:=fun c f h=>x f fun a=>y f fun b=>elP h s b fun m Y=>pkP Y (apP h s t a m Y fun r h=>c ((d,r)::f) h)
theorem pC {y:Opd}:Sx P (.app d s b x y) (qg5 d s b (qK x) (qK y)):=fun c f p h=>by unfold qg5 at h;rw [qi,qi] at h;obtain ⟨m,Y,u,v⟩:=oE h;obtain ⟨j,z⟩:=wl v;obtain ⟨r,w,o,q⟩:=dZ z;exact ⟨r,w,⟨m,Y,u,j,o⟩,q⟩
def Ov (s:Nat) (pure:Bool) (y:AV) (r:List AV) (k:List AV->Prop):Prop:=match y with
 | .agg l=>lnP l fun n=>okP (Nat.beq n s&&l.all AV.isCell&&(!pure || l.all AV.isPure)) (ah l r k)
 | y=>okP (Nat.beq s 1&&AV.isCell y&&(!pure || AV.isPure y)) (k (y::r))
theorem Gl {pure:Bool} {y:AV} {r:List AV} (h:Ov s pure y r k):y.cells.length=s/\y.cells.all AV.isCell=true/\(pure=true->y.cells.all AV.isPure=true)/\k (y.cells++r):=by
 unfold Ov at h;split at h
 . rw [Xp] at h;obtain ⟨u,v⟩:=qt h;rw [Gk] at v;simp only [qd,qm2] at u;refine ⟨qe u.1.1,u.1.2,fun e=>?_,v⟩;subst e;rcases u.2 with q | q
   . cases q
   exact q
 rename_i j;obtain ⟨u,v⟩:=qt h
 have c:y.cells=[y]:=by
  cases y with
  | agg l=>exact absurd rfl (j l)
  | _=>rfl
 simp only [qd,qm2] at u;rw [c];refine ⟨(qe u.1.1).symm,by rw [qmC,u.1.2];rfl,fun e=>?_,v⟩;subst e;rcases u.2 with q | q
 . cases q
 rw [qmC,q];rfl
def cF (s:Nat) (ys:List AV) (k:List AV->Prop):Prop:=List.rec (motive:=fun _=>(List AV->Prop)->Prop) (fun k=>k []) (fun y _ i k=>i fun t=>Ov s true y t k) ys k
theorem Om {s:Nat}:∀ {ys:List AV} {k:List AV->Prop},cF s ys k->(ys.all fun y=>y.cells.all AV.isCell&&y.cells.all AV.isPure&&(y.cells.length==s))=true/\k (ys.flatMap AV.cells)
 | [],k,h=>⟨rfl,h⟩
 | y::ys,k,h=>by obtain ⟨u,v⟩:=Om (show cF s ys (fun t=>Ov s true y t k) from h);obtain ⟨j,z,o,q⟩:=Gl v;exact ⟨by rw [qmC,u,z,o rfl,j];simp,q⟩
theorem Ug {s:Nat} {z:List AV} (j:z.length=s):∀ {ys A:List AV} {i:Nat},A.length=i*s->(∀ y∈ys,y.cells.length=s)->QO (A++zh ys.length z) s ((List.range' i ys.length).zip ys)=A++ys.flatMap AV.cells
 | [],A,i,h,_=>by simp [QO,zh]
 | y::ys,A,i,h,v=>by
   have u:=v y (by simp);have e:splice (A++zh (ys.length+1) z) (i*s) y.cells=(A++y.cells)++zh ys.length z:=by unfold splice;rw [<-h,List.take_left,zh];rw [show A.length+y.cells.length=(A++z).length by rw [qmI,u,j],<-qmo A z,List.drop_left]
   rw [qm5,qoz,qpp,QO,e,Ug j (A:=A++y.cells) (i:=i+1) (by rw [qmI,h,u,qpd]) fun q o=>v q (by simp [o])];rw [qmH,qmo]
def fM (p:List (Nat×Opd)) (n s:Nat) (z:List AV):Bool:=decide (p.map (·.1)=List.range' 0 n)&&decide (z.length=s)
def cy (p:List (Nat×Opd)) (n s:Nat) (z ys:List AV) (k:List AV->Prop):Prop:=Bool.rec (motive:=fun _=>Prop) (cF s ys fun _=>flP (QO (zh n z) s ((p.map (·.1)).zip ys)) k) (lnP ys fun l=>okP (Nat.beq l n) (cF s ys k)) (fM p n s z)
theorem Of {p:List (Nat×Opd)} {ys:List AV} (h:cy p n s z ys k):(ys.all fun y=>y.cells.all AV.isCell&&y.cells.all AV.isPure&&(y.cells.length==s))=true/\k (QO (zh n z) s ((p.map (·.1)).zip ys)):=by
 unfold cy at h;cases e:fM p n s z with
 | false =>rw [e] at h;obtain ⟨u,v⟩:=Om (show cF s ys _ from h);rw [zM] at v;exact ⟨u,v⟩
 | true =>
   rw [e] at h;have h:lnP ys fun l=>okP (Nat.beq l n) (cF s ys k):=h;rw [Xp] at h;obtain ⟨j,h⟩:=qt h;have j:=qe j;obtain ⟨u,v⟩:=Om h;refine ⟨u,?_⟩;simp only [fM,qd,qmE] at e;rw [e.1,<-j];have:=Ug (ys:=ys) (A:=[]) (i:=0) e.2 (by simp) fun y o=>by have:=LL.1 u y o;simp only [qd,qon] at this;exact this.2
   rw [qmF,qmF] at this;rw [this];exact v
def qg9 (d n s:Nat) (z:List AV) (p:List (Nat×Opd)) (a:FrL->(List AV->Prop)->Prop):K1->K1:=fun c f h=>a f fun x=>WN h x (fun y ids=>cy p n s z y fun C=>bL ids h fun h=>c ((d,.sl true n C)::f) h) False
theorem pG {p:List (Nat×Opd)}:Sx P (.bsl d n s z p) (qg9 d n s z p (ZQ (p.map (·.2)))):=fun c f o h=>by
 unfold qg9 at h;rw [Qj] at h;rcases QM h with ⟨Y,ids,v,u⟩ | u
 . obtain ⟨y,j⟩:=Of u;rw [GO] at j;rw [qmU] at v;exact ⟨_,gones ids,⟨Y,ids,v,y,.inl ⟨rfl,rfl⟩⟩,j⟩
 exact u.elim
def Lb (ps:List (Nat×Nat×Opd)) (Y:List AV) (k:List AV->Prop):Prop:=List.rec (motive:=fun _=>List AV->(List AV->Prop)->Prop) (fun _ k=>k []) (fun p _ i Y k=>List.rec (motive:=fun _=>Prop) False (fun y Y _=>i Y fun t=>Ov p.2.1 false y t k) Y) ps Y k
theorem Gz:∀ {ps:List (Nat×Nat×Opd)} {ev:Opd->AV} {k:List AV->Prop},Lb ps (ps.map fun p=>ev p.2.2) k->(ps.all fun p=>(ev p.2.2).cells.all AV.isCell&&((ev p.2.2).cells.length==p.2.1))=true/\k (ps.flatMap fun p=>(ev p.2.2).cells)
 | [],ev,k,h=>⟨rfl,h⟩
 | p::ps,ev,k,h=>by obtain ⟨u,v⟩:=Gz (show Lb ps (ps.map fun p=>ev p.2.2) (fun t=>Ov p.2.1 false (ev p.2.2) t k) from h);obtain ⟨j,z,_,y⟩:=Gl v;exact ⟨by rw [qmC,u,z,j];simp,y⟩
def Uz:Nat->List (Nat×Nat×Opd)->Nat->Bool
 | o,[],n=>Nat.beq o n
 | o,p::ps,n=>Nat.beq p.1 o&&Uz (o+p.2.1) ps n
theorem HF {ev:Opd->AV}:∀ {ps:List (Nat×Nat×Opd)} {A B:List AV},Uz A.length ps (A++B).length=true->(∀ p∈ps,(ev p.2.2).cells.length=p.2.1)->Jv (A++B) (ps.map fun p=>(p.1,p.2.1,ev p.2.2))=A++ps.flatMap fun p=>(ev p.2.2).cells
 | [],A,B,h,_=>by have:=qe (show Nat.beq A.length (A++B).length=true from h);rw [qmI] at this;have j:B=[]:=List.length_eq_zero_iff.1 (by omega);rw [j];rfl
 | (o,l,x)::ps,A,B,h,y=>by
   simp only [Uz,qd] at h;have E:=qe h.1;subst E;have u:(ev x).cells.length=l:=y (A.length,l,x) (by simp)
   have le:A.length+l<=(A++B).length:=by
    have:∀ {ps:List (Nat×Nat×Opd)} {a n:Nat},Uz a ps n=true->a<=n:=by
     intro ps
     induction ps with
     | nil=>intro a n h;exact Nat.le_of_eq (qe h)
     | cons p ps i =>intro a n h;simp only [Uz,qd] at h;have:=i h.2;omega
    exact this h.2
   rw [qmI] at le;have e:splice (A++B) A.length (ev x).cells=(A++(ev x).cells)++B.drop l:=by unfold splice;rw [List.take_left,u,<-qnk,List.drop_left]
   have v:Uz (A++(ev x).cells).length ps ((A++(ev x).cells)++B.drop l).length=true:=by
    have:((A++(ev x).cells)++B.drop l).length=(A++B).length:=by simp only [qmI,qnV,u];omega
    rw [this,qmI,u];exact h.2
   simp only [wI,Jv];rw [e,HF v fun p z=>y p (by simp [z]),qmH,qmo]
def qfN (ps:List (Nat×Nat×Opd)) (z y:List AV) (k:List AV->Prop):Prop:=Bool.rec (motive:=fun _=>Prop) (Lb ps y fun _=>flP (Jv z ((ps.zip y).map fun q=>(q.1.1,q.1.2.1,q.2))) k) (Lb ps y k) (Uz 0 ps z.length)
theorem HW (ev:Opd->AV):∀ (ps:List (Nat×Nat×Opd)),((ps.zip (ps.map fun p=>ev p.2.2)).map fun q=>(q.1.1,q.1.2.1,q.2))=ps.map fun p=>(p.1,p.2.1,ev p.2.2)
 | []=>rfl
 | p::ps=>by simp only [wI,qpp];rw [HW ev ps]
def qg7 (d:Nat) (z:List AV) (ps:List (Nat×Nat×Opd)) (a:FrL->(List AV->Prop)->Prop):K1->K1:=fun c f h=>a f fun x=>qfN ps z x fun C=>c ((d,.agg C)::f) h
theorem pE {ps:List (Nat×Nat×Opd)}:Sx P (.bld d z ps) (qg7 d z ps (ZQ (ps.map (·.2.2)))):=fun c f j h=>by
 unfold qg7 at h;rw [Qj,qmU] at h;have h:qfN ps z (ps.map fun p=>evF (get f) p.2.2) fun C=>c ((d,.agg C)::f) j:=h;unfold qfN at h;cases e:Uz 0 ps z.length with
 | false =>rw [e] at h;obtain ⟨u,v⟩:=Gz (show Lb ps (ps.map fun p=>evF (get f) p.2.2) _ from h);rw [zM,HW] at v;exact ⟨_,[],⟨u,rfl,rfl⟩,v⟩
 | true =>
   rw [e] at h;obtain ⟨u,v⟩:=Gz (show Lb ps (ps.map fun p=>evF (get f) p.2.2) _ from h);refine ⟨_,[],⟨u,rfl,rfl⟩,?_⟩;have:=HF (ev:=evF (get f)) (ps:=ps) (A:=[]) (B:=z) (by simpa using e) fun p j=>by have:=LL.1 u p j;simp only [qd,qon] at this;exact this.2
   rw [qmF,qmF] at this;rw [this];exact v
def qhi (d:Nat) (a:Bool) (s o:Nat) (x:Op1):K1->K1:=fun c f h=>x f fun v=>match v with
 | .agg C=>ldP a s o C fun r=>c ((d,r)::f) h
 | _=>False
theorem pO {o:Nat} {a:Bool} :Sx P (.fld d a s o x) (qhi d a s o (qK x)):=fun c f p h=>by
 unfold qhi at h;rw [qi] at h;simp only [AOp.sem];generalize evF (get f) x=u at h ⊢;split at h
 . obtain ⟨r,v,j⟩:=VP h;exact ⟨r,[],⟨v,rfl⟩,j⟩
 exact h.elim
def qhl (d l:Nat) (a:Bool) (s:Nat) (x i:Op1):K1->K1:=fun c f h=>x f fun v=>i f fun j=>fc j fun j=>okP (Nat.blt j l) (match v with
 | .agg C=>ldP a s (Nat.mul j s) C fun r=>c ((d,r)::f) h
 | _=>False)
theorem pQ {l:Nat} {a:Bool} {i:Opd}:Sx P (.idx d l a s x i) (qhl d l a s (qK x) (qK i)):=fun c f p h=>by
 unfold qhl at h;rw [qi,qi] at h;obtain ⟨k,j,o,h⟩:=Pp h;obtain ⟨v,h⟩:=qt h;have:=zJ v;simp only [AOp.sem];rw [o];generalize evF (get f) x=u at h ⊢;split at h
 . obtain ⟨r,z,y⟩:=VP h;refine ⟨r,[],⟨by omega,?_,rfl⟩,y⟩;rw [qn3];exact z
 exact h.elim
def Sm (a:AV) (k:Nat->Prop):Prop:=match a with
 | .v (.int .i64 (.ofNat n))=>k n
 | _=>False
theorem WK {a:AV} {k:Nat->Prop} (h:Sm a k):∃ n:Nat,a=I n/\k n:=by
 unfold Sm at h;split at h
 . exact ⟨_,rfl,h⟩
 exact h.elim
def uW (d:Nat) (o:Option AV) (k:Nat->Prop):Prop:=match o with
 | none=>k d
 | some y=>Sm y k
theorem WI {o:Option AV} {k:Nat->Prop}:uW d o k->∃ l:Nat,(match o with | none=>l=d | some y=>y=I l)/\k l:=by
 intro h;cases o with
 | none=>exact ⟨_,rfl,h⟩
 | some y =>obtain ⟨n,u,v⟩:=WK (show Sm y k from h);exact ⟨n,u,v⟩
def me (o:Option Opd):FrL->(Option AV->Prop)->Prop:=match o with
 | none=>fun _ k=>k none
 | some x=>fun f k=>qK x f fun a=>k (some a)
theorem Wm (o:Option Opd) (f:FrL) (k:Option AV->Prop):me o f k=k (o.map (evF (get f))):=by
 cases o with
 | none=>rfl
 | some x=>show qK x f _=_;rw [qi];rfl
def fS (s:Nat) (x:AV) (L i M:Option AV) (k:AV->Prop):Prop:=match x with
 | .sl j n C=>uW 0 L fun l=>uW n i fun h=>okP (Nat.ble l h&&Nat.ble h n) (lnP C fun g=>okP (Nat.beq g (Nat.mul n s)) (fnP (Nat.sub h l) fun q=>NA C (Nat.mul l s) (Nat.mul q s) fun v=>(match M with
  | none=>fbP (j&&Nat.beq h n) fun f=>k (.sl f q v)
  | some y=>Sm y fun m=>okP (Nat.beq m h&&i.isSome) (k (.sl true q v)))))
 | .ms id off n u=>uW 0 L fun l=>uW n i fun h=>okP (Nat.ble l h&&Nat.ble h n&&Nat.beq u s) (fnP (Nat.sub h l) fun q=>fnP (Nat.add off (Nat.mul l s)) fun o=>(match M with
  | none=>k (.ms id o q s)
  | some y=>Sm y fun m=>okP (Nat.ble h m&&Nat.ble m n&&i.isSome) (fnP (Nat.sub m l) fun z=>k (.mc id o q z s))))
 | .mc id off n c u=>uW 0 L fun l=>uW n i fun h=>(match M with
  | none=>okP (Nat.ble l h&&Nat.ble h c&&Nat.beq u s) (fnP (Nat.sub h l) fun q=>fnP (Nat.add off (Nat.mul l s)) fun o=>fnP (Nat.sub c l) fun z=>k (.mc id o q z s))
  | some y=>Sm y fun m=>okP (Nat.ble l h&&Nat.ble h m&&Nat.ble m c&&Nat.beq u s&&i.isSome) (fnP (Nat.sub h l) fun q=>fnP (Nat.add off (Nat.mul l s)) fun o=>fnP (Nat.sub m l) fun z=>k (.mc id o q z s)))
 | _=>False
theorem fT {t:Nat} {x:AV} {L i M:Option AV} {k:AV->Prop} (h:fS t x L i M k):∃ r,Xx r [] t x L i M/\k r:=by
 unfold fS at h;split at h
 . rename_i f n c;obtain ⟨l,z,h⟩:=WI h;obtain ⟨u,o,h⟩:=WI h;obtain ⟨v,h⟩:=qt h;rw [Xp] at h;obtain ⟨d,h⟩:=qt h;rw [qC] at h;obtain ⟨p,h⟩:=Jo h;simp only [qd] at v;have b:=xr v.1;have g:=xr v.2;have s:=qe d;cases M with
   | none =>
     have h:fbP _ _:=h;rw [jk] at h;refine ⟨_,⟨l,u,z,o,b,g,s,rfl,rfl⟩,?_⟩
     have e:(f&&decide (u=n))=(f&&Nat.beq u n):=by
      congr 1;by_cases q:u=n
      . subst q;rw [qoe];simp
      rw [ML q];simp [q]
     rw [e];exact h
   | some y =>obtain ⟨m,hm,h⟩:=WK (show Sm y _ from h);obtain ⟨j,h⟩:=qt h;simp only [qd] at j;have:=qe j.1;subst this;exact ⟨_,⟨l,m,z,o,b,g,s,⟨hm,j.2,rfl⟩,rfl⟩,h⟩
 . obtain ⟨l,z,h⟩:=WI h;obtain ⟨u,o,h⟩:=WI h;obtain ⟨v,h⟩:=qt h;rw [qC,qC] at h;simp only [qd] at v;have b:=xr v.1.1;have g:=xr v.1.2;have s:=qe v.2;cases M with
   | none=>exact ⟨_,⟨l,u,z,o,b,g,s,trivial,.inl rfl,rfl⟩,h⟩
   | some y =>obtain ⟨m,hm,h⟩:=WK (show Sm y _ from h);obtain ⟨j,h⟩:=qt h;simp only [qd] at j;rw [qC] at h;exact ⟨_,⟨l,u,z,o,b,g,s,⟨m,hm,xr j.1.1,xr j.1.2,j.2⟩,.inr ⟨m,by rw [hm],rfl⟩,rfl⟩,h⟩
 . obtain ⟨l,z,h⟩:=WI h;obtain ⟨u,o,h⟩:=WI h;cases M with
   | none =>obtain ⟨v,h⟩:=qt (show okP _ _ from h);rw [qC,qC,qC] at h;simp only [qd] at v;exact ⟨_,⟨l,u,_,z,o,rfl,xr v.1.1,xr v.1.2,Qs _,qe v.2,rfl,rfl⟩,h⟩
   | some y =>obtain ⟨m,hm,h⟩:=WK (show Sm y _ from h);obtain ⟨v,h⟩:=qt h;rw [qC,qC,qC] at h;simp only [qd] at v;exact ⟨_,⟨l,u,m,z,o,⟨hm,v.2⟩,xr v.1.1.1.1,xr v.1.1.1.2,xr v.1.1.2,qe v.1.2,rfl,rfl⟩,h⟩
 exact h.elim
def qhv (d s:Nat) (x:Op1) (L i M:FrL->(Option AV->Prop)->Prop):K1->K1:=fun c f p=>x f fun a=>L f fun l=>i f fun h=>M f fun m=>fS s a l h m fun r=>c ((d,r)::f) p
theorem mf {l i m:Option Opd}:Sx P (.slc d s x l i m) (qhv d s (qK x) (me l) (me i) (me m)):=fun c f p h=>by unfold qhv at h;rw [qi,Wm,Wm,Wm] at h;obtain ⟨r,u,v⟩:=fT h;exact ⟨r,[],u,v⟩
def mxP (m:Bool) (a b:AV) (k:AV->Prop):Prop:=yY a fun K x=>yY b fun _ y=>Bool.rec (motive:=fun _=>Prop) (ltZ y x fun t=>Bool.rec (motive:=fun _=>Prop) (k (.v (.int K x))) (k (.v (.int K y))) t) (ltZ x y fun t=>Bool.rec (motive:=fun _=>Prop) (k (.v (.int K x))) (k (.v (.int K y))) t) m
def cMx (d:Nat) (m:Bool) (x y:Op1):K1->K1:=fun c f h=>x f fun a=>y f fun b=>mxP m a b fun r=>c ((d,r)::f) h
theorem eK {m:Bool} {y:Opd}:Sx P (.mx d m x y) (cMx d m (qK x) (qK y)):=fun c f p h=>by
 unfold cMx mxP at h;rw [qi,qi] at h;obtain ⟨k,u,v,h⟩:=KT h;obtain ⟨K,w,j,h⟩:=KT h;simp only [AOp.sem,v,j];cases m with
 | true =>
   have h:ltZ u w _:=h;rw [Hw] at h;by_cases q:u<w
   . rw [qpj q] at h;exact ⟨_,[],⟨by simp only [qpq];rw [if_pos q],rfl⟩,h⟩
   rw [qoo q] at h;exact ⟨_,[],⟨by simp only [qpq];rw [if_neg q],rfl⟩,h⟩
 | false =>
   have h:ltZ w u _:=h;rw [Hw] at h;by_cases q:w<u
   . rw [qpj q] at h;exact ⟨_,[],⟨by simp only [qpN];rw [if_pos q],rfl⟩,h⟩
   rw [qoo q] at h;exact ⟨_,[],⟨by simp only [qpN];rw [if_neg q],rfl⟩,h⟩
def cR (a:AV) (k:AV->Prop):Prop:=match a with
 | .ptr c o=>k (.ptr c o)
 | .ref i o=>k (.ref i o)
 | .fn (.func f) u b=>k (.fn (.func f) u b)
 | _=>False
def pX (d:Nat) (x:Op1):K1->K1:=fun c f h=>x f fun a=>cR a fun r=>c ((d,r)::f) h
theorem IW :Sx P (.nilc d x) (pX d (qK x)):=fun c f p h=>by unfold pX cR at h;rw [qi] at h;simp only [AOp.sem];generalize evF (get f) x=u at h ⊢;split at h <;> first | exact ⟨_,[],⟨rfl,rfl⟩,h⟩ | exact h.elim
def qhp (d:Nat) (f:Fn) (u b:FrL->(List AV->Prop)->Prop):K1->K1:=fun c r h=>u r fun u=>b r fun b=>c ((d,.fn f u b)::r) h
theorem pU {f:Fn} {u b:List Opd}:Sx P (.mkf d f u b) (qhp d f (ZQ u) (ZQ b)):=fun c r p h=>by unfold qhp at h;rw [Qj,Qj] at h;exact ⟨_,[],⟨rfl,rfl⟩,h⟩
def cx (s:Nat) (a:AV) (h:List HObj) (k:AV->List HObj->Prop):Prop:=Ov s false a [] fun c=>JA h (.cells c) fun n h=>k (.ref n 0) h
def qg8 (d s:Nat) (x:Op1):K1->K1:=fun c f h=>x f fun a=>cx s a h fun r h=>c ((d,r)::f) h
theorem pF :Sx P (.box d s x) (qg8 d s (qK x)):=fun c f p h=>by unfold qg8 cx at h;rw [qi] at h;obtain ⟨v,j,_,u⟩:=Gl h;rw [qm3] at u;exact ⟨_,_,⟨v,j,rfl,rfl⟩,zP u⟩
def qhq (d s y:Nat) (z:List AV) (n m:Op1):K1->K1:=fun c f h=>n f fun a=>m f fun b=>Sm a fun k=>Sm b fun K=>okP (Nat.beq k K&&tQ k y&&Nat.beq z.length s) (qgw k z fun C=>JA h (.cells C) fun id h=>c ((d,.ms id 0 k s)::f) h)
theorem pV {n m:Opd}:Sx P (.mks d s b z n m) (qhq d s b z (qK n) (qK m)):=fun c f p h=>by unfold qhq at h;rw [qi,qi] at h;obtain ⟨k,q,h⟩:=WK h;obtain ⟨K,v,h⟩:=WK h;obtain ⟨u,j⟩:=qt h;rw [Ik] at j;simp only [qd] at u;have e:=qe u.1.1;subst e;obtain ⟨y,o⟩:=EN u.1.2;exact ⟨_,_,⟨k,q,v,y,o,qe u.2,rfl,rfl⟩,zP j⟩
def qhr (d:Nat) (x:Op1):K1->K1:=fun c f h=>x f fun v=>yY v fun k z=>wrP k (Int.sub 0 z) fun z=>c ((d,.v (.int k z))::f) h
theorem pW :Sx P (.un d .neg x) (qhr d (qK x)):=fun c f p h=>by unfold qhr at h;rw [qi] at h;obtain ⟨k,z,u,h⟩:=KT h;rw [UJ] at h;refine ⟨.v (.int k (k.wrap (0 - z))),[],?_,h⟩;simp only [AOp.sem,u];exact ⟨_,rfl,rfl,trivial⟩
def qhe (d:Nat) (n:Bool) (k:KS) (x y:Op1):K1->K1:=fun c f h=>x f fun a=>y f fun b=>lP a fun u=>lP b fun w=>Mc k u w fun t=>fbP (n != t) fun t=>c ((d,.v (.bool t))::f) h
theorem pM {n:Bool} {k:KS} {y:Opd}:Sx P (.eqk d n k x y) (qhe d n k (qK x) (qK y)):=fun c f p h=>by unfold qhe at h;rw [qi,qi] at h;obtain ⟨u,v,h⟩:=Rd h;obtain ⟨w,j,h⟩:=Rd h;obtain ⟨t,z,h⟩:=Vd h;rw [jk] at h;exact ⟨_,[],⟨u,w,t,v,j,z,rfl,rfl⟩,h⟩
def qho (d:Nat) (x:Op1):K1->K1:=fun c f h=>x f fun v=>match v with
 | .v (.string s)=>lnP s.data.toList fun n=>c ((d,.v (.int .i64 (.ofNat n)))::f) h
 | _=>False
theorem pT :Sx P (.lns d x) (qho d (qK x)):=fun c f p h=>by
 unfold qho at h;rw [qi] at h;simp only [AOp.sem];generalize evF (get f) x=u at h ⊢;split at h
 . rw [Xp] at h;exact ⟨_,[],⟨rfl,rfl⟩,h⟩
 exact h.elim
def cE (a:AV) (k:AV->Prop):Prop:=match a with
 | .sl f n _=>okP f (k (.v (.int .i64 (.ofNat n))))
 | .mc _ _ _ c _=>k (.v (.int .i64 (.ofNat c)))
 | _=>False
def qha (d:Nat) (x:Op1):K1->K1:=fun c f h=>x f fun v=>cE v fun r=>c ((d,r)::f) h
theorem pI :Sx P (.cap d x) (qha d (qK x)):=fun c f p h=>by
 unfold qha cE at h;rw [qi] at h;simp only [AOp.sem];generalize evF (get f) x=u at h ⊢;split at h
 . obtain ⟨v,j⟩:=qt h;exact ⟨_,[],⟨v,rfl,rfl⟩,j⟩
 . exact ⟨_,[],⟨rfl,rfl⟩,h⟩
 exact h.elim
def qht:AOp->K1->K1
 | .app d s bytes x y=>qg5 d s bytes (qK x) (qK y)
 | .bsl d n s zero p=>qg9 d n s zero p (ZQ (p.map (·.2)))
 | .bld d zero u=>qg7 d zero u (ZQ (u.map (·.2.2)))
 | .fld d agg s off x=>qhi d agg s off (qK x)
 | .idx d l agg s x i=>qhl d l agg s (qK x) (qK i)
 | .slc d s x L h v=>qhv d s (qK x) (me L) (me h) (me v)
 | .mx d M x y=>cMx d M (qK x) (qK y)
 | .nilc d x=>pX d (qK x)
 | .mkf d f j b=>qhp d f (ZQ j) (ZQ b)
 | .box d s x=>qg8 d s (qK x)
 | .mks d s bytes zero n m=>qhq d s bytes zero (qK n) (qK m)
 | .un d .neg x=>qhr d (qK x)
 | .eqk d neg k x y=>qhe d neg k (qK x) (qK y)
 | .lns d x=>qho d (qK x)
 | .cap d x=>qha d (qK x)
 | o=>cD o
theorem ma (o:AOp) (h:∀ d f as,o≠.call d f as):Sy P o (qht o):=by
 cases o with
 | app=>exact YI rfl pC
 | bsl=>exact YI rfl pG
 | bld=>exact YI rfl pE
 | fld=>exact YI rfl pO
 | idx=>exact YI rfl pQ
 | slc=>exact YI rfl mf
 | mx=>exact YI rfl eK
 | nilc=>exact YI rfl IW
 | mkf=>exact YI rfl pU
 | box=>exact YI rfl pF
 | mks=>exact YI rfl pV
 | un d O x=>cases O with
   | neg=>exact YI rfl pW
   | _=>exact Gh _ h
 | eqk=>exact YI rfl pM
 | lns=>exact YI rfl pT
 | cap=>exact YI rfl pI
 | _=>exact Gh _ h
end
abbrev HL:=List HObj
def qgb (ids:List Nat) (c:List AV) (h:List HObj) (k:Nat->List HObj->Prop):Prop:=match ids with
 | []=>JA h (.cells c) k
 | ids=>Md h fun n=>wsP (gones ids++[(n,.cells c)]) h fun h=>k n h
theorem Bq {i:List Nat} {k:Nat->List HObj->Prop} (h:qgb i c p k):k p.length (qf p (gones i++[(p.length,.cells c)])):=by
 unfold qgb at h;split at h
 . exact zP h
 rw [Jd,Yd] at h;exact h
def iY (ids:List Nat) (c:List AV) (h:List HObj) (k:Nat->List HObj->Prop):Prop:=match ids with
 | []=>JA h (.cells c) k
 | ids=>Bool.rec (motive:=fun _=>Prop) (qgb ids c h k) (JA h (.cells c) k) (c.all AV.isV)
theorem Bp {i:List Nat} {k:Nat->List HObj->Prop} (h:iY i c p k):k p.length (qf p (Wg c i++[(p.length,.cells c)])):=by
 unfold iY at h;split at h
 . have e:Wg c []=[]:=by rcases Lh c [] with e | e <;> rw [e];rfl
   rw [e];exact zP h
 unfold Wg;cases e:c.all AV.isV with
 | true=>rw [e] at h;exact zP h
 | false=>rw [e] at h;exact Bq h
def vF (i:List Nat) (k:Prop):Prop:=match i with
 | []=>k
 | _=>False
theorem Ed {i:List Nat} {k:Prop} (h:vF i k):i=[]/\k:=by
 unfold vF at h;split at h
 . exact ⟨rfl,h⟩
 exact h.elim
def BO (v a b:AV) (k:AV->Prop):Prop:=match v with
 | .v (.bool t)=>Bool.rec (motive:=fun _=>Prop) (k b) (k a) t
 | _=>False
def qge (v:AV) (k:AV->Prop):Prop:=match v with
 | .v (.bool t)=>fbP (!t) fun t=>k (.v (.bool t))
 | _=>False
def qfY (v:AV) (i:Nat) (k:AV->Prop):Prop:=match v with
 | .tup V=>XS V i k
 | _=>False
def ldV (a:Bool) (s:Nat) (v:AV) (h:HL) (k:AV->Prop):Prop:=match v with
 | .ptr c off=>ldP a s off c k
 | .ref id off=>VC h id fun c=>ldP a s off c k
 | _=>False
def stV (s:Nat) (p v:AV) (h:HL) (k:HL->Prop):Prop:=match p with
 | .ref id off=>VC h id fun C=>match v with
   | .agg l=>Bool.rec (motive:=fun _=>Prop) False (flP (splice C off l) fun c=>jf h id (.cells c) k) (Nat.beq l.length s&&l.all AV.isCell&&Nat.ble (off+s) C.length)
   | v=>Bool.rec (motive:=fun _=>Prop) False (cU C off v fun c=>jf h id (.cells c) k) (Nat.beq s 1&&AV.isCell v)
 | _=>False
def faV (O:Nat) (v:AV) (k:AV->Prop):Prop:=match v with
 | .ptr c o=>fnP (Nat.add o O) fun o=>k (.ptr c o)
 | .ref id o=>fnP (Nat.add o O) fun o=>k (.ref id o)
 | _=>False
def iaV (z:Nat) (v j:AV) (k:AV->Prop):Prop:=fc j fun j=>match v with
 | .sl _ n c=>okP (Nat.blt j n&&Nat.beq c.length (n*z)) (fnP (Nat.mul j z) fun o=>k (.ptr c o))
 | .ms id off n s=>okP (Nat.blt j n&&Nat.beq s z) (fnP (Nat.add off (Nat.mul j z)) fun o=>k (.ref id o))
 | .mc id off n _ s=>okP (Nat.blt j n&&Nat.beq s z) (fnP (Nat.add off (Nat.mul j z)) fun o=>k (.ref id o))
 | _=>False
def qf2 (l s:Nat) (v j:AV) (k:AV->Prop):Prop:=fc j fun j=>okP (Nat.blt j l) (match v with
 | .ptr c o=>fnP (Nat.add o (Nat.mul j s)) fun o=>k (.ptr c o)
 | .ref id o=>fnP (Nat.add o (Nat.mul j s)) fun o=>k (.ref id o)
 | _=>False)
def qf7 (v:AV) (k:AV->Prop):Prop:=match v with
 | .sl _ n _=>k (.v (.int .i64 (.ofNat n)))
 | .ms _ _ n _=>k (.v (.int .i64 (.ofNat n)))
 | .mc _ _ n _ _=>k (.v (.int .i64 (.ofNat n)))
 | _=>False
def qfS (K:IntKind) (v:AV) (k:AV->Prop):Prop:=yY v fun _ n=>wrP K n fun z=>k (.v (.int K z))
def qgd (v:AV) (k:AV->Prop):Prop:=yY v fun K z=>wrP K (Int.sub 0 z) fun z=>k (.v (.int K z))
def qfZ (a:Bool) (s o:Nat) (v:AV) (k:AV->Prop):Prop:=match v with
 | .agg c=>ldP a s o c k
 | _=>False
def qf5 (l:Nat) (a:Bool) (s:Nat) (v j:AV) (k:AV->Prop):Prop:=fc j fun j=>okP (Nat.blt j l) (match v with
 | .agg c=>ldP a s (Nat.mul j s) c k
 | _=>False)
def qga (v:AV) (k:AV->Prop):Prop:=match v with
 | .v (.string s)=>lnP s.data.toList fun n=>k (.v (.int .i64 (.ofNat n)))
 | _=>False
def qfz (s y:Nat) (a b:AV) (h:HL) (k:AV->HL->Prop):Prop:=elP h s b fun m Y=>pkP Y (apP h s y a m Y k)
def qfP (n s:Nat) (z:List AV) (p:List (Nat×Opd)) (x:List AV) (h:HL) (k:AV->HL->Prop):Prop:=WN h x (fun y ids=>cy p n s z y fun c=>bL ids h fun h=>k (.sl true n c) h) False
def qfO (z:List AV) (p:List (Nat×Nat×Opd)) (x:List AV) (k:AV->Prop):Prop:=qfN p z x fun c=>k (.agg c)
def qgc (s y:Nat) (z:List AV) (a b:AV) (h:HL) (k:AV->HL->Prop):Prop:=Sm a fun m=>Sm b fun K=>okP (Nat.beq m K&&tQ m y&&Nat.beq z.length s) (qgw m z fun c=>JA h (.cells c) fun id h=>k (.ms id 0 m s) h)
def qfX (n:Bool) (K:KS) (a b:AV) (k:AV->Prop):Prop:=lP a fun u=>lP b fun w=>Mc K u w fun t=>fbP (n != t) fun t=>k (.v (.bool t))
def qf8 (K:KS) (z:AV) (o:Bool) (x y:AV) (h:HL) (k:AV->Prop):Prop:=mpP x h fun _ e _=>Iv K y fun u=>lkP K u e fun r =>
 Option.rec (motive:=fun _=>Prop) (k (bif o then .tup [z,B false] else z)) (fun v=>k (bif o then .tup [v,B true] else v)) r
def Is (K:KS) (x y a:AV) (h:HL) (k:HL->Prop):Prop:=mpP x h fun id e c=>frP c (Iv K y fun v=>qgl K v a id e h fun _ h=>k h)
def qfV (K:KS) (x y:AV) (h:HL) (k:HL->Prop):Prop:=mpP x h fun id e c=>Iv K y fun v=>qfU K v c id e h fun _ h=>k h
def qf9 (x:AV) (h:HL) (k:AV->Prop):Prop:=mpP x h fun _ e _=>Md e fun n=>k (.v (.int .i64 (.ofNat n)))
def Hg (v:AV) (x:List AV) (H:Hd) (h:HL) (k:AV->HL->Prop):Prop:=match v with
 | .fn (.func f) first c=>H.ok f (flP (first++x++c) fun l=>H.C0 f l h k)
 | .yl id=>H.Y id x h k
 | _=>False
def bK (o:Option (AV×List (Nat×HObj))) (h:HL) (k:AV->HL->Prop):Prop:=match o with
 | some (r,w)=>faP 6 r fun r=>wsP w h fun h=>k r h
 | none=>False
def qlC (o:Option (AV×List (Nat×HObj))) (h:HL) (k:HL->Prop):Prop:=match o with
 | some (r,w)=>faP 6 r fun r=>wsP w h fun h=>k h
 | none=>False
def cN (b:Bool) (K:Nat) (v:AV) (h:HL) (k:AV->Prop):Prop:=match vy (.isn 0 b K (.k v)) (evF (get [])) h with
 | some [(r,[])]=>faP 6 r k
 | _=>False
def e0V (H:Hd) (f:FuncId) (x:List AV) (h:HL) (k:AV->HL->Prop):Prop:=WN h x (fun y ids=>H.D f y fun q=>match q with
    | .val r=>Bool.rec (motive:=fun _=>Prop) (bL ids h fun h=>k r h) (k r h) r.scalar
    | .made m s c=>iY ids c h fun n h=>k (.ms n 0 m s) h
    | .mapp _=>False) False
def e1V (H:Hd) (f:FuncId) (x:List AV) (h:HL) (k:AV->Prop):Prop:=WN h x (fun y ids=>H.D f y fun q=>match q with
    | .val r=>Bool.rec (motive:=fun _=>Prop) (vF ids (k r)) (k r) r.scalar
    | _=>False) False
def e0W (v:AV) (x:List AV) (H:Hd) (h:HL) (k:AV->HL->Prop):Prop:=match v with
 | .fn (.func f) first c=>H.ok f (okP ((first++c).all AV.isFlat) (flP (first++x++c) fun l=>e0V H f l h k))
 | _=>False
def e1W (v:AV) (x:List AV) (H:Hd) (h:HL) (k:AV->Prop):Prop:=match v with
 | .fn (.func f) first c=>H.ok f (okP ((first++c).all AV.isFlat) (flP (first++x++c) fun l=>e1V H f l h k))
 | _=>False
def Tz (n s:Nat) (z:List AV) (p:List (Nat×Opd)) (x:List AV) (h:HL) (k:AV->Prop):Prop:=WN h x (fun y ids=>vF ids (cy p n s z y fun c=>k (.sl true n c))) False
def qfE:AV->AV->(AV->Prop)->Prop:=Wl .add
def qfM:AV->AV->(AV->Prop)->Prop:=Wl .sub
def qfK:AV->AV->(AV->Prop)->Prop:=Wl .mul
def qfJ:AV->AV->(AV->Prop)->Prop:=Wl .lss
def qfH:AV->AV->(AV->Prop)->Prop:=Wl .gtr
def qfI:AV->AV->(AV->Prop)->Prop:=Wl .leq
def qfG:AV->AV->(AV->Prop)->Prop:=Wl .geq
def qfF:AV->AV->(AV->Prop)->Prop:=Wl .eql
def qfL:AV->AV->(AV->Prop)->Prop:=Wl .neq
def qf4 (a b:AV) (h:HL) (k:AV->HL->Prop):Prop:=bK (Cj (.k a) (.k b) (evF (get [])) h) h k
def qgn (a:AV) (l h:Option AV) (p:HL) (k:AV->HL->Prop):Prop:=bK (Cp (.k a) (l.map .k) (h.map .k) (evF (get [])) p) p k
def qfT (s:Nat) (a b:AV) (h:HL) (k:AV->HL->Prop):Prop:=bK (Ci s (.k a) (.k b) (evF (get [])) h) h k
def qfR (s:Nat) (z:List AV) (a:AV) (h:HL) (k:HL->Prop):Prop:=qlC (Ch s z (.k a) (evF (get [])) h) h k
def qfB (s y:Nat) (z:List AV) (a b:AV) (h:HL) (k:AV->HL->Prop):Prop:=bK (PP s y z (.k a) (.k b) (evF (get [])) h) h k
def qgm (s L:Nat) (a:AV) (l h m:Option AV) (p:HL) (k:AV->HL->Prop):Prop:=bK (Co s L (.k a) (l.map .k) (h.map .k) (m.map .k) (evF (get [])) p) p k
def qfD (a:AV) (h:HL) (k:AV->HL->Prop):Prop:=bK (Cg (.k a) (evF (get [])) h) h k
def qgk (a:AV) (h:HL) (k:AV->HL->Prop):Prop:=bK (Cn (.k a) (evF (get [])) h) h k
def qfA (y:Nat) (a b:AV) (h:HL) (k:AV->HL->Prop):Prop:=bK (PO y (.k a) (.k b) (evF (get [])) h) h k
def cB (n s:Nat) (z:List AV) (p:List (Nat×Opd)) (x:List AV) (h:HL) (k:AV->HL->Prop):Prop:=WN h x (fun y ids=>cy p n s z y fun c=>qgb ids c h fun m h=>k (.mc m 0 n n s) h) False
def hiT:Prop:=@e0W=@e0W/\@e1W=@e1W/\@cB=@cB/\@BO=@BO/\@qge=@qge/\@qfY=@qfY/\@ldV=@ldV/\@stV=@stV/\@faV=@faV/\@iaV=@iaV/\@qf2=@qf2/\@qf7=@qf7/\@qfS=@qfS/\@qgd=@qgd/\@qfZ=@qfZ/\@qf5=@qf5/\@qga=@qga/\@qfz=@qfz/\@qfP=@qfP/\@qfO=@qfO/\@qgc=@qgc/\@qfX=@qfX/\@qf8=@qf8/\@Is=@Is/\@qfV=@qfV/\@qf9=@qf9/\@Hg=@Hg/\@cN=@cN/\@e0V=@e0V/\@e1V=@e1V/\@Tz=@Tz/\@cE=@cE/\@fS=@fS/\@mxP=@mxP/\@cR=@cR/\@cx=@cx/\@qf4=@qf4/\@qgn=@qgn/\@qfT=@qfT/\@qfR=@qfR/\@qfB=@qfB/\@qgm=@qgm/\@qfD=@qfD/\@qgk=@qgk/\@qfA=@qfA/\@JA=@JA/\@qfE=@qfE/\@qfM=@qfM/\@qfK=@qfK/\@qfJ=@qfJ/\@qfH=@qfH/\@qfI=@qfI/\@qfG=@qfG/\@qfF=@qfF/\@qfL=@qfL/\@Pb=@Pb
def AF (f:FrL) (t:Nat) (k:AV->Prop):Prop:=(fun _:Prop=>List.rec (motive:=fun _=>Prop) (k .any) (fun p _ i=>Prod.rec (motive:=fun _=>Prop) (fun j x=>Bool.rec (motive:=fun _=>Prop) i (k x) (Nat.beq j t)) p) f) hiT
theorem Vh (f:FrL) (t:Nat) (k:AV->Prop):AF f t k=k (get f t):=zV f t k
def opZ (o:Opd) (f:FrL) (k:AV->Prop):Prop:=Opd.rec (motive:=fun _=>Prop) (fun n=>AF f n k) (fun x=>k x) o
theorem qE (o:Opd) (f:FrL) (k:AV->Prop):opZ o f k=k (evF (get f) o):=by
 cases o with
 | t n=>exact Vh f n k
 | k x=>rfl
def jW (O:List Opd) (f:FrL) (k:List AV->Prop):Prop:=(fun _:Prop=>List.rec (motive:=fun _=>(List AV->Prop)->Prop) (fun k=>k []) (fun o _ i k=>opZ o f fun a=>i fun l=>k (a::l)) O k) hiT
theorem Zj (f:FrL):∀ (O:List Opd) (k:List AV->Prop),jW O f k=k (O.map (evF (get f)))
 | [],k=>rfl
 | o::O,k=>by show opZ o f (fun a=>jW O f fun l=>k (a::l))=_;rw [qE,Zj f O];rfl
def Eg (o:Option Opd) (f:FrL) (k:Option AV->Prop):Prop:=Option.rec (motive:=fun _=>Prop) (k none) (fun x=>opZ x f fun a=>k (some a)) o
theorem JQ (o:Option Opd) (f:FrL) (k:Option AV->Prop):Eg o f k=k (o.map (evF (get f))):=by
 cases o with
 | none=>rfl
 | some x=>show opZ x f _=_;rw [qE];rfl
def NY:BinOp->AV->AV->(AV->Prop)->Prop
 | .add=>qfE
 | .sub=>qfM
 | .mul=>qfK
 | .lss=>qfJ
 | .gtr=>qfH
 | .leq=>qfI
 | .geq=>qfG
 | .eql=>qfF
 | .neq=>qfL
 | op=>Pb op
theorem py (o:BinOp):NY o=Wl o:=by cases o <;> rfl
def xOp:AOp->K1->K1
 | .mv d x=>fun c u q=>opZ x u fun a=>c ((d,a)::u) q
 | .pick d b x y=>fun c u q=>opZ b u fun v=>opZ x u fun A=>opZ y u fun Q=>BO v A Q fun r=>c ((d,r)::u) q
 | .bin d R x y=>fun c u q=>opZ x u fun a=>opZ y u fun b=>NY R a b fun r=>c ((d,r)::u) q
 | .un d .not x=>fun c u q=>opZ x u fun v=>qge v fun r=>c ((d,r)::u) q
 | .un d .neg x=>fun c u q=>opZ x u fun v=>qgd v fun r=>c ((d,r)::u) q
 | .ext d x i=>fun c u q=>opZ x u fun v=>qfY v i fun r=>c ((d,r)::u) q
 | .ld d agg s x=>fun c u q=>opZ x u fun v=>ldV agg s v q fun r=>c ((d,r)::u) q
 | .st s a x=>fun c u q=>opZ a u fun p=>opZ x u fun v=>stV s p v q fun q=>c u q
 | .fa d x off=>fun c u q=>opZ x u fun v=>faV off v fun r=>c ((d,r)::u) q
 | .ia d s x i=>fun c u q=>opZ x u fun v=>opZ i u fun j=>iaV s v j fun r=>c ((d,r)::u) q
 | .iaa d L s x i=>fun c u q=>opZ x u fun v=>opZ i u fun j=>qf2 L s v j fun r=>c ((d,r)::u) q
 | .len d x=>fun c u q=>opZ x u fun v=>qf7 v fun r=>c ((d,r)::u) q
 | .cnv d k x=>fun c u q=>opZ x u fun v=>qfS k v fun r=>c ((d,r)::u) q
 | .al d zero=>fun c u q=>JA q (.cells zero) fun n q=>c ((d,.ref n 0)::u) q
 | .app d s bytes x y=>fun c u q=>opZ x u fun a=>opZ y u fun b=>qfz s bytes a b q fun r q=>c ((d,r)::u) q
 | .bsl d n s zero P=>fun c u q=>jW (P.map (·.2)) u fun X=>qfP n s zero P X q fun r q=>c ((d,r)::u) q
 | .bld d zero O=>fun c u q=>jW (O.map (·.2.2)) u fun X=>qfO zero O X fun r=>c ((d,r)::u) q
 | .fld d agg s off x=>fun c u q=>opZ x u fun v=>qfZ agg s off v fun r=>c ((d,r)::u) q
 | .idx d L agg s x i=>fun c u q=>opZ x u fun v=>opZ i u fun j=>qf5 L agg s v j fun r=>c ((d,r)::u) q
 | .slc d s x t g e=>fun c u q=>opZ x u fun a=>Eg t u fun l=>Eg g u fun h=>Eg e u fun m=>fS s a l h m fun r=>c ((d,r)::u) q
 | .mx d M x y=>fun c u q=>opZ x u fun a=>opZ y u fun b=>mxP M a b fun r=>c ((d,r)::u) q
 | .nilc d x=>fun c u q=>opZ x u fun a=>cR a fun r=>c ((d,r)::u) q
 | .mkf d f N w=>fun c u q=>jW N u fun N=>jW w u fun w=>c ((d,.fn f N w)::u) q
 | .box d s x=>fun c u q=>opZ x u fun a=>cx s a q fun r q=>c ((d,r)::u) q
 | .mks d s bytes zero n m=>fun c u q=>opZ n u fun a=>opZ m u fun b=>qgc s bytes zero a b q fun r q=>c ((d,r)::u) q
 | .eqk d neg K x y=>fun c u q=>opZ x u fun a=>opZ y u fun b=>qfX neg K a b fun r=>c ((d,r)::u) q
 | .lns d x=>fun c u q=>opZ x u fun v=>qga v fun r=>c ((d,r)::u) q
 | .cap d x=>fun c u q=>opZ x u fun v=>cE v fun r=>c ((d,r)::u) q
 | .lku d K z ok m k=>fun c u q=>opZ m u fun x=>opZ k u fun y=>qf8 K z ok x y q fun r=>c ((d,r)::u) q
 | .ins K m k v=>fun c u q=>opZ m u fun x=>opZ k u fun y=>opZ v u fun a=>Is K x y a q fun q=>c u q
 | .del K m k=>fun c u q=>opZ m u fun x=>opZ k u fun y=>qfV K x y q fun q=>c u q
 | .lnm d m=>fun c u q=>opZ m u fun x=>qf9 x q fun r=>c ((d,r)::u) q
 | .mkm d=>fun c u q=>JA q (.mp [] 0) fun n q=>c ((d,.mp n)::u) q
 | .ids d x i=>fun c u q=>opZ x u fun a=>opZ i u fun b=>qf4 a b q fun r q=>c ((d,r)::u) q
 | .sls d x t g=>fun c u q=>opZ x u fun a=>Eg t u fun l=>Eg g u fun h=>qgn a l h q fun r q=>c ((d,r)::u) q
 | .cpy d s x y=>fun c u q=>opZ x u fun a=>opZ y u fun b=>qfT s a b q fun r q=>c ((d,r)::u) q
 | .clr s zero x=>fun c u q=>opZ x u fun a=>qfR s zero a q fun q=>c u q
 | .appz d s bytes zero x k=>fun c u q=>opZ x u fun a=>opZ k u fun b=>qfB s bytes zero a b q fun r q=>c ((d,r)::u) q
 | .slp d s L x t g e=>fun c u q=>opZ x u fun a=>Eg t u fun l=>Eg g u fun h=>Eg e u fun m=>qgm s L a l h m q fun r q=>c ((d,r)::u) q
 | .b2s d x=>fun c u q=>opZ x u fun a=>qfD a q fun r q=>c ((d,r)::u) q
 | .s2b d x=>fun c u q=>opZ x u fun a=>qgk a q fun r q=>c ((d,r)::u) q
 | .apps d bytes x y=>fun c u q=>opZ x u fun a=>opZ y u fun b=>qfA bytes a b q fun r q=>c ((d,r)::u) q
 | o=>qht o
theorem ff {h:List HObj} (k:Nat->List HObj->Prop):JA h o k=k h.length (qf h [(h.length,o)]):=by
 have A:∀ (h:List HObj) (n:Nat) (k:Nat->List HObj->Prop),(List.rec (motive:=fun _=>Nat->(Nat->List HObj->Prop)->Prop) (fun n k=>fnP n fun n=>k n [o]) (fun a _ i n k=>i (Nat.succ n) fun m t=>k m (a::t)) h n k:Prop)=k (n+h.length) (h++[o]):=fun h=>by
  induction h with
  | nil=>intro n k;exact qC n _
  | cons a h i =>intro n k;show (List.rec (motive:=fun _=>Nat->(Nat->List HObj->Prop)->Prop) (fun n k=>fnP n fun n=>k n [o]) (fun a _ i n k=>i (Nat.succ n) fun m t=>k m (a::t)) h (Nat.succ n) fun m t=>k m (a::t):Prop)=_;rw [i];congr 1;simp;omega
 have:=A h 0 k;rw [qnt] at this;have e:qf h [(h.length,o)]=h++[o]:=by show qz h h.length _=_;unfold qz;rw [if_neg (qny _)]
 rw [e];exact this
theorem qdj (o:AOp) (c:K1) (f:FrL) (h:HL):xOp o c f h=qht o c f h:=by
 cases o with
 | mv d x=>show opZ x f _=qK x f _;rw [qE,qi]
 | pick d b x y =>
   show opZ b f _=MV d (qK b) (qK x) (qK y) c f h;simp only [qE];unfold MV BO;rw [qi];generalize evF (get f) b=v;cases v with
   | v z=>cases z with
     | bool t=>cases t <;> simp only [qi]
     | _=>rfl
   | _=>rfl
 | bin d O x y =>show opZ x f _=qK x f _;simp only [qE,qi,py]
 | un d O x=>cases O with
   | not=>show opZ x f _=qK x f _;rw [qE,qi];rfl
   | neg=>show opZ x f _=qK x f _;rw [qE,qi];rfl
   | _=>rfl
 | ext=>show opZ _ f _=qK _ f _;rw [qE,qi];rfl
 | ld=>show opZ _ f _=qK _ f _;rw [qE,qi];rfl
 | st s a x =>
   show opZ a f _=qK a f _;rw [qE,qE,qi];generalize evF (get f) a=p;cases p with
   | ref id off =>show stV _ _ _ _ _=qK x f _;rw [qi];rfl
   | _=>rfl
 | fa=>show opZ _ f _=qK _ f _;rw [qE,qi];rfl
 | ia=>show opZ _ f _=qK _ f _;rw [qE,qE,qi,qi];rfl
 | iaa=>show opZ _ f _=qK _ f _;rw [qE,qE,qi,qi];rfl
 | len=>show opZ _ f _=qK _ f _;rw [qE,qi];rfl
 | cnv=>show opZ _ f _=qK _ f _;rw [qE,qi];rfl
 | al=>rfl
 | app=>show opZ _ f _=qK _ f _;rw [qE,qE,qi,qi];rfl
 | bsl=>show jW _ f _=ZQ _ f _;rw [Zj,Qj];rfl
 | bld=>show jW _ f _=ZQ _ f _;rw [Zj,Qj];rfl
 | fld=>show opZ _ f _=qK _ f _;rw [qE,qi];rfl
 | idx=>show opZ _ f _=qK _ f _;rw [qE,qE,qi,qi];rfl
 | slc=>show opZ _ f _=qK _ f _;rw [qE,JQ,JQ,JQ,qi,Wm,Wm,Wm]
 | mx=>show opZ _ f _=qK _ f _;rw [qE,qE,qi,qi]
 | nilc=>show opZ _ f _=qK _ f _;rw [qE,qi]
 | mkf=>show jW _ f _=ZQ _ f _;rw [Zj,Zj,Qj,Qj]
 | box=>show opZ _ f _=qK _ f _;rw [qE,qi]
 | mks=>show opZ _ f _=qK _ f _;rw [qE,qE,qi,qi];rfl
 | eqk=>show opZ _ f _=qK _ f _;rw [qE,qE,qi,qi];rfl
 | lns=>show opZ _ f _=qK _ f _;rw [qE,qi];rfl
 | cap=>show opZ _ f _=qK _ f _;rw [qE,qi]
 | lku=>show opZ _ f _=qK _ f _;rw [qE,qE,qi,qi];rfl
 | ins=>show opZ _ f _=qK _ f _;rw [qE,qE,qE,qi,qi,qi];rfl
 | del=>show opZ _ f _=qK _ f _;rw [qE,qE,qi,qi];rfl
 | lnm=>show opZ _ f _=qK _ f _;rw [qE,qi];rfl
 | mkm d =>show JA h (.mp [] 0) _=ik (ZB (.mkm d)) (some d) c f h;unfold ik;simp only [ZB,Ck,QR,Yd,zb,AOp.dst,ff]
 | ids=>show opZ _ f _=_;rw [qE,qE];rfl
 | sls d x l i =>show opZ _ f _=_;rw [qE,JQ,JQ];cases l <;> cases i <;> rfl
 | cpy=>show opZ _ f _=_;rw [qE,qE];rfl
 | clr=>show opZ _ f _=_;rw [qE];rfl
 | appz=>show opZ _ f _=_;rw [qE,qE];rfl
 | slp d s L x l i mx =>show opZ _ f _=_;rw [qE,JQ,JQ,JQ];cases l <;> cases i <;> cases mx <;> rfl
 | b2s=>show opZ _ f _=_;rw [qE];rfl
 | s2b=>show opZ _ f _=_;rw [qE];rfl
 | apps=>show opZ _ f _=_;rw [qE,qE];rfl
 | _=>rfl
theorem nT {P:Program} (o:AOp) (h:∀ d f as,o≠.call d f as):Sy P o (xOp o):=fun c r p x=>ma o h c r p (by rw [<-qdj];exact x)
end Go.AM
