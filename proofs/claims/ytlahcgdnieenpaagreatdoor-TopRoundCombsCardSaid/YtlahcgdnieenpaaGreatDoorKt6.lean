/-
  Kt6: texts joined: Mp2 Rr1 Rr2. Own work.
-/
import Derived.Test.YtlahcgdnieenpaaGreatDoorKt5
set_option linter.all false
set_option linter.unusedSimpArgs false
set_option linter.unusedVariables false
set_option linter.unusedSectionVars false

namespace Go.AM
open Go.RowKit
abbrev R3:=List Int × Nat × Int
structure MapR (n:Nat) (L:List R3) (clk:Nat):Prop where
 brn:∀ q∈L,q.2.1<clk
 wid:∀ q∈L,q.1.length=n
 keys:L.Pairwise fun q r=>q.1≠r.1
 brs:L.Pairwise fun q r=>q.2.1≠r.2.1
theorem MapR.nil {n clk:Nat}:MapR n [] clk:=⟨by simp,by simp,.nil,.nil⟩
theorem MapR.set {n:Nat} {A B:List R3} {q:R3} {clk:Nat} {v:Int} (h:MapR n (A++q::B) clk):MapR n (A++(q.1,q.2.1,v)::B) clk:=by
 obtain ⟨h1,h2,h3,h4⟩:=h;refine ⟨fun r hr=>?_,fun r hr=>?_,?_,?_⟩
 . simp only [List.mem_append,List.mem_cons] at hr;rcases hr with hr | rfl | hr
   . exact h1 r (by simp [hr])
   . exact h1 q (by simp)
   exact h1 r (by simp [hr])
 . simp only [List.mem_append,List.mem_cons] at hr;rcases hr with hr | rfl | hr
   . exact h2 r (by simp [hr])
   . exact h2 q (by simp)
   exact h2 r (by simp [hr])
 . rw [List.pairwise_append,List.pairwise_cons] at h3 ⊢;refine ⟨h3.1,⟨h3.2.1.1,h3.2.1.2⟩,fun a ha r hr=>?_⟩;rcases List.mem_cons.1 hr with rfl | hr
   . exact h3.2.2 a ha q (by simp)
   exact h3.2.2 a ha r (by simp [hr])
 rw [List.pairwise_append,List.pairwise_cons] at h4 ⊢;refine ⟨h4.1,⟨h4.2.1.1,h4.2.1.2⟩,fun a ha r hr=>?_⟩;rcases List.mem_cons.1 hr with rfl | hr
 . exact h4.2.2 a ha q (by simp)
 exact h4.2.2 a ha r (by simp [hr])
theorem MapR.push {n:Nat} {L:List R3} {E:List Int} {clk:Nat} {v:Int} (h:MapR n L clk) (hE:E.length=n) (hn:∀ q∈L,q.1≠E):MapR n (L++[(E,clk,v)]) (clk+1):=by
 obtain ⟨h1,h2,h3,h4⟩:=h;refine ⟨fun r hr=>?_,fun r hr=>?_,?_,?_⟩
 . simp only [List.mem_append,List.mem_singleton] at hr;rcases hr with hr | rfl
   . have:=h1 r hr;omega
   simp
 . simp only [List.mem_append,List.mem_singleton] at hr;rcases hr with hr | rfl
   . exact h2 r hr
   exact hE
 . rw [List.pairwise_append];refine ⟨h3,by simp,fun a ha r hr=>?_⟩;rw [List.mem_singleton] at hr;subst hr;exact hn a ha
 rw [List.pairwise_append];refine ⟨h4,by simp,fun a ha r hr=>?_⟩;rw [List.mem_singleton] at hr;subst hr;have:=h1 a ha;simp only;omega
theorem MapR.del {n:Nat} {A B:List R3} {q:R3} {clk:Nat} (h:MapR n (A++q::B) clk):MapR n (A++B) clk:=by obtain ⟨h1,h2,h3,h4⟩:=h;have sub:List.Sublist (A++B) (A++q::B):=List.Sublist.append_left (List.sublist_cons_self q B) A;exact ⟨fun r hr=>h1 r (sub.subset hr),fun r hr=>h2 r (sub.subset hr),h3.sublist sub,h4.sublist sub⟩
section
variable {P:Program} {E:HE} {fr:List (Nat × AV)} {hp:List HObj} {F:Nat->AV} {os:List AOp} {KS:St->Prop} {K:AV->List (Nat × HObj)->Prop}
theorem W6 {i:Nat} {o:HObj} (h:qz hp i=some o):hpf hp i=some o:=by rw [Qd];exact h
def qxy (hp:List HObj) (x:AV) (K:AV->List (Nat × HObj)->Prop):Prop:=match x with
 | .mp id=>match qz hp id with
   | some (.mp _ clk)=>K (.ref hp.length 0) [(hp.length,.it id clk [] clk)]
   | some (.mpp Φ)=>∀ es clk,Φ es clk->K (.ref hp.length 0) [(id,.mp es clk),(hp.length,.it id clk [] clk)]
   | _=>False
 | _=>False
def qyG (hp:List HObj) (x:AV) (K:AV->List (Nat × HObj)->Prop):Prop:=(AOp.nxt 0 (.k x)).many (evF fun _ => .any) (hpf hp) hp.length K
def qyz (hp:List HObj) (x:AV) (K:AV->List (Nat × HObj)->Prop):Prop:=(AOp.ent 0 (.k x)).many (evF fun _ => .any) (hpf hp) hp.length K
theorem qlt {a0 a1}:zb P E (.rng a0 a1::os) ⟨fr,hp⟩ KS=qxy hp (evF (get fr) a1) (qY P E os (some a0) fr hp KS):=by show (AOp.rng a0 a1).many (evF (get fr)) (hpf hp) hp.length (qY P E os (some a0) fr hp KS)=_;simp only [AOp.many,qxy,Qd];rfl
theorem qls {a0 a1}:zb P E (.nxt a0 a1::os) ⟨fr,hp⟩ KS=qyG hp (evF (get fr) a1) (qY P E os (some a0) fr hp KS):=rfl
theorem qlr {a0 a1}:zb P E (.ent a0 a1::os) ⟨fr,hp⟩ KS=qyz hp (evF (get fr) a1) (qY P E os (some a0) fr hp KS):=rfl
end
def qdX (P:Program) (o:AOp) (ev:Opd->AV) (hp:List HObj) (r:AV):Prop:=match o with
 | .call _ f args=>qw P f (args.map ev) hp fun x hp'=>x=r/\hp'=hp
 | .bin d b x y=>(AOp.bin d b x y).sem P ev (hpf hp) hp.length r []
 | .mv d x=>(AOp.mv d x).sem P ev (hpf hp) hp.length r []
 | .ld d b n x=>(AOp.ld d b n x).sem P ev (hpf hp) hp.length r []
 | .fa d x i=>(AOp.fa d x i).sem P ev (hpf hp) hp.length r []
 | .ia d n x y=>(AOp.ia d n x y).sem P ev (hpf hp) hp.length r []
 | .iaa d n sz x y=>(AOp.iaa d n sz x y).sem P ev (hpf hp) hp.length r []
 | .len d x=>(AOp.len d x).sem P ev (hpf hp) hp.length r []
 | .nilc d x=>(AOp.nilc d x).sem P ev (hpf hp) hp.length r []
 | _=>False
def XK (P : Program) : List AOp -> St -> (St -> Prop) -> Prop
 | [],st,K=>K st
 | o::os,st,K=>∃ r,qdX P o (evF (get st.fr)) st.hp r/\XK P os ⟨qH st.fr o.dst r,st.hp⟩ K
def qbA (P : Program) : List Grp -> St -> (St -> Prop) -> Prop
 | [],st,K=>K st
 | ⟨none,os⟩::gs,st,K=>XK P os st fun st=>qbA P gs st K
 | ⟨some _,_⟩::_,_,_=>False
def qyH (P:Program) (o:AOp) (R:Rec) (F:Nat->AV) (hp:List HObj):Prop:=R.dst=o.dst/\qdX P o (evF F) hp R.r
inductive RRun (P : Program) : List (Option (Nat × Bool) × AOp) -> St -> List Rec -> St -> Prop
 | nil (st:St):RRun P [] st [] st
 | cons {o l st R Rs st'}:qyH P o R (get st.fr) st.hp->RRun P l ⟨qH st.fr R.dst R.r,st.hp⟩ Rs st'->RRun P ((none,o)::l) st (R::Rs) st'
section
variable {P:Program} {N:Nat} {ro:Option Nat} {n:Nat}
def qjc (P : Program) : List (Option (Nat × Bool) × AOp) -> St -> (St -> Prop) -> Prop
 | [],st,K=>K st
 | (none,o)::l,st,K=>∃ r,qdX P o (evF (get st.fr)) st.hp r/\qjc P l ⟨qH st.fr o.dst r,st.hp⟩ K
 | (some _,_)::_,_,_=>False
theorem Ye : ∀ {l : List (Option (Nat × Bool) × AOp)} {st : St} {K : St -> Prop},qbA P (grp l) st K -> qjc P l st K
 | [],st,K,h=>h
 | (g, o)::l, st, K, h=>by
   have one : qbA P (⟨g,[o]⟩ :: grp l) st K -> qjc P ((g,o) :: l) st K := fun h => by
    cases g with
    | none =>obtain ⟨r,h1,h2⟩:=h;exact ⟨r,h1,Ye h2⟩
    | some jb=>exact h.elim
   simp only [grp] at h;split at h
   . rename_i g' os gs hg;split at h
     . rename_i hcond;obtain ⟨rfl,hdst⟩:=hcond;cases g with
       | none =>obtain ⟨r,h1,h2⟩:=h;exact ⟨r,h1,Ye (by rw [hg];exact h2)⟩
       | some jb=>exact h.elim
     rw [<-hg] at h;exact one h
   rename_i hg;rw [<-hg] at h;exact one h
theorem qgd : ∀ {l : List (Option (Nat × Bool) × AOp)} {st : St} {K : St -> Prop},qjc P l st K -> ∃ Rs st',RRun P l st Rs st' /\ K st'
 | [],st,K,h=>⟨[],st,.nil st,h⟩
 | (none,o)::l,st,K,⟨r,h1,h2⟩=>by obtain ⟨Rs,st',h3,h4⟩:=qgd h2;exact ⟨⟨o.dst,r,[],[]⟩::Rs,st',.cons ⟨rfl,h1⟩ h3,h4⟩
 | (some _,_)::_,_,_,h=>h.elim
theorem qje {l st Rs st'} (h:RRun P l st Rs st'):Rs.length=l.length:=by
 induction h with
 | nil=>rfl
 | cons _ _ ih=>simp [ih]
theorem Xp {l st Rs st'} (h:RRun P l st Rs st'):∀ i (hi:i<l.length) (hi':i<Rs.length),l[i].1=none/\qyH P l[i].2 Rs[i] (qm (Rs.map Rec.F) (fun k=>decide (k<i)) (get st.fr)) st.hp:=by
 induction h with
 | nil=>intro i hi;simp at hi
 | @cons o l st R Rs st' hok hrun ih =>
   intro i hi hi';cases i with
   | zero =>refine ⟨rfl,?_⟩;rw [qx (fun i=>by simp)];exact hok
   | succ i =>obtain ⟨h1,h2⟩:=ih i (by simpa using hi) (by simpa using hi');refine ⟨by simpa using h1,?_⟩;simp only [List.map_cons,qm,List.getElem_cons_succ,Nat.zero_lt_succ,decide_true,if_true,Nat.add_lt_add_iff_right];rw [Qg];exact h2
theorem qjd {l st Rs st'} (h:RRun P l st Rs st'):get st'.fr=qm (Rs.map Rec.F) (fun _=>true) (get st.fr)/\st'.hp=st.hp:=by
 induction h with
 | nil=>exact ⟨rfl,rfl⟩
 | @cons o l st R Rs st' hok hrun ih =>simp only [List.map_cons,qm,if_true];rw [Qg];exact ih
theorem qjf {o:AOp} {F F':Nat->AV} {hp:List HObj} {r:AV} (h:qdX P o (evF F) hp r) (hF:∀ x∈o.opds,evF F' x=evF F x):qdX P o (evF F') hp r:=by
 cases o with
 | call d f args =>have e:args.map (evF F')=args.map (evF F):=List.map_congr_left fun x hx=>hF x hx;simp only [qdX] at h ⊢;rw [e];exact h
 | _ =>
   first
    | (simp only [qdX] at h;done)
    | (simp only [qdX] at h ⊢;exact Q2 (hp':=hpf hp) (new':=hp.length) h hF (fun _ _=>rfl) (fun _=>rfl))
structure RFix (P:Program) (N:Nat) (ops:Array Oper) (cl:List (Option (Nat × Bool) × AOp)) (pre:List (List Nat)) (un:List (Nat × Nat)) (st:St) (Rs:List Rec) (st':St):Prop where
 comp:zZ P N ops ops.toList=some cl
 ok:Ym ops cl pre un=true
 run:RRun P cl st Rs st'
variable {ops:Array Oper} {cl:List (Option (Nat × Bool) × AOp)} {pre:List (List Nat)} {un:List (Nat × Nat)} {st:St} {Rs:List Rec} {st':St}
theorem RFix.lens (f:RFix P N ops cl pre un st Rs st'):cl.length=ops.size/\Rs.length=ops.size :=
 ⟨by simpa using (qW f.comp).1,by rw [qje f.run];simpa using (qW f.comp).1⟩
theorem RFix.apart (f : RFix P N ops cl pre un st Rs st') {i k : Nat} (hik : i < k) (hk : k < cl.length) (hk' : k < Rs.length) (hp : i ∉ pre.getD k []) :
 (∀ d,Rs[i].dst=some d->d∉qK cl[k])/\(∀ d,Rs[k].dst=some d->d∉qK cl[i])/\∀ d,Rs[i].dst=some d->Rs[k].dst≠some d:=by
 obtain ⟨l1,l2⟩:=f.lens;rcases jp f.ok hik (by omega) hk with h | ⟨h1,h2⟩
 . exact absurd h hp
 obtain ⟨_,oi⟩:=Xp f.run i (by omega) (by omega);obtain ⟨_,ok⟩:=Xp f.run k hk hk';simp only [ZU,Bool.and_eq_true] at h1;obtain ⟨⟨a1,a2⟩,a3⟩:=h1;refine ⟨fun d hd=>?_,fun d hd=>?_,fun d hd hd'=>?_⟩
 . rw [<-oi.1,hd] at a1;simpa [Qm] using a1
 . rw [<-ok.1,hd] at a2;simpa [Qm] using a2
 rw [<-oi.1,<-ok.1,hd,hd'] at a3;simp at a3
theorem RFix.serves (f : RFix P N ops cl pre un st Rs st') {X : Nat -> Bool} (hX : Clo pre ops X) {i : Nat} (hi : i < cl.length) (hi' : i < Rs.length) (hx : X i = false) (hr : ∀ j ∈ pre.getD i [],X j = true) :
 qyH P cl[i].2 Rs[i] (frX Rs X st) st.hp:=by
 obtain ⟨l1,l2⟩:=f.lens;obtain ⟨hg,ok⟩:=Xp f.run i hi hi';refine ⟨ok.1,qjf ok.2 fun x hx'=>ZV fun d hd=>?_⟩;have hd':d∈qK cl[i]:=by simp only [qK,List.mem_append,List.mem_flatMap];exact .inl ⟨x,hx',hd⟩
 refine qe rfl fun k hk hon=>?_;simp only [List.length_map] at hk;simp only [List.getElem_map] at hon;rcases Nat.lt_trichotomy k i with h | h | h
 . by_cases hp : k ∈ pre.getD i []
   . rw [hr k hp];simp [h]
   exact absurd hd' ((f.apart h hi hi' hp).1 d (QM hon))
 . subst h;rw [hx];simp
 cases e:X k with
 | false=>symm;simp;omega
 | true =>
   have hp:i∉pre.getD k []:=fun hp=>by have:=hX k (by omega) e i hp;rw [hx] at this;cases this
   exact absurd hd' ((f.apart h (by omega) hk hp).2.1 d (QM hon))
theorem RFix.next (f : RFix P N ops cl pre un st Rs st') {X Y : Nat -> Bool} (hX : Clo pre ops X) {i : Nat} (hi : i < cl.length) (hi' : i < Rs.length) (hx : X i = false) (hy : Y i = true) (hj : ∀ j,j ≠ i -> Y j = X j) :
 frX Rs Y st=Rs[i].F.app (frX Rs X st):=by
 obtain ⟨l1,l2⟩:=f.lens
 have := zn (l := Rs.map Rec.F) (F := get st.fr) (by simpa using hi') hx hy hj (fun k hk hlt hxk key hon => by
  simp only [List.length_map] at hk;simp only [List.getElem_map] at hon ⊢;have hp:i∉pre.getD k []:=fun hp=>by have:=hX k (by omega) hxk i hp;rw [hx] at this;cases this
  have a:=f.apart hlt (by omega) hk hp;have:=a.2.2 key (QM hon);simpa [Rec.F] using this)
 simpa [frX] using this
theorem qaL {E:HE} {o:AOp} {st:St} {r:AV} {K:St->Prop} (h:qdX P o (evF (get st.fr)) st.hp r) (hK:K ⟨qH st.fr o.dst r,st.hp⟩):aop P E o st K:=by
 cases o with
 | call d f args =>simp only [qdX] at h;exact WF fun ro n w g vs a b c=>(h ro n w g vs a b c).mono fun e w' ⟨v,r',hp',g',e1,⟨e2,e3⟩,e4⟩=>⟨v,r',hp',g',e1,by subst e2 e3;exact hK,e4⟩
 | _ => first
   | (simp only [qdX] at h;done)
   | exact ⟨r,[],h,hK⟩
theorem RFix.all (f : RFix P N ops cl pre un st Rs st') {w0 : World} {g0 : G} {Q : Exit -> Act -> World -> Prop} {a0 : Act}
 (hQ:∀ a w g,Sim N st' a w g->Upd (hpf st.hp) g0 w0 (hpf st'.hp) g w->a.defers=a0.defers->Q .normal a w) :
 ∀ (jM : Nat) (listed : Array Bool) (a : Act) (w : World) (g : G) (fr : List (Nat × AV)),listed.size = ops.size -> Clo pre ops (lst listed) -> unl (lst listed) ops.size <= jM -> a.defers = a0.defers -> get fr = frX Rs (lst listed) st -> Sim N ⟨fr,st.hp⟩ a w g ->
   Upd (hpf st.hp) g0 w0 (hpf st.hp) g w->wpAnyIn (W ro) n P .any ops Q jM listed a w:=by
 obtain ⟨l1,l2⟩:=f.lens
 have fin : ∀ (listed : Array Bool) (a : Act) (w : World) (g : G) (fr : List (Nat × AV)),(∀ i,i < ops.size -> lst listed i = true) -> a.defers = a0.defers -> get fr = frX Rs (lst listed) st -> Sim N ⟨fr,st.hp⟩ a w g ->
  Upd (hpf st.hp) g0 w0 (hpf st.hp) g w->Q .normal a w:=fun listed a w g fr h hD hF hs hu=>by
  obtain ⟨e1,e2⟩:=qjd f.run;have e3:get fr=get st'.fr:=by rw [hF,e1];funext t;exact qe rfl fun k hk _=>h k (by simp at hk;omega)
  refine hQ a w g ⟨hs.1,?_,?_⟩ (by rw [e2];exact hu) hD
  . rw [<-e3];exact hs.2.1
  rw [e2];exact hs.2.2
 have ed:=fun k (hk:k<ops.size)=>(QV f.ok hk (by omega)).1;intro jM
 induction jM with
 | zero =>intro listed a w g fr hl hX hfu hD hF hs hu;have h:=YX (X:=lst listed) (n:=ops.size) (by omega);exact ⟨Ya h,fin listed a w g fr h hD hF hs hu⟩
 | succ jM ih =>
   intro listed a w g fr hl hX hfu hD hF hs hu;refine ⟨fun h=>fin listed a w g fr (Vw hl ed h) hD hF hs hu,fun i hi=>?_⟩;obtain ⟨hlt,hx,he⟩:=Yb hi
   have hget : ∀ j,j < ops.size -> (listed.getD j false = true) -> lst listed j = true := fun j hj h => by
    have:j<listed.size:=by omega
    simpa [lst,this] using h
   have hr : ∀ j ∈ pre.getD i [],lst listed j = true := fun j hj => by
    obtain ⟨e,hm,hb,h⟩:=(QV f.ok hlt (by omega)).2 j hj;have hon:=ed i hlt e hm hb;have hL:=hget e.on (by omega) (he e hm hb);rcases h with h | h
    . rw [<-h];exact hL
    exact hX e.on (by omega) hL j h
   have hi':i<listed.size:=by omega
   have hy:lst (listed.setIfInBounds i true) i=true:=by simp [lst,hi']
   have hj:∀ j,j≠i->lst (listed.setIfInBounds i true) j=lst listed j:=fun j hne=>by simp only [lst,Array.getD_eq_getD_getElem?];rw [Array.getElem?_setIfInBounds_ne (Ne.symm hne)]
   have hrec:=f.serves hX (i:=i) (by omega) (by omega) hx hr;have hnx:=f.next hX (i:=i) (by omega) (by omega) hx hy hj
   obtain ⟨c1,c2⟩:=(qW f.comp).2 i (by simpa using hlt) (by omega);obtain ⟨hg0,_⟩:=Xp f.run i (by omega) (by omega);simp only [Array.getElem_toList] at c1 c2;rw [hg0] at c2;unfold wpOpIn;simp only [Array.getElem?_eq_getElem hlt];rw [zP c2];simp only [zS,if_true];have hsem:=hrec.2;rw [<-hF] at hsem;refine Zm (E:=E1 P) (st:=⟨fr,st.hp⟩) (K:=fun st1=>st1=⟨qH fr cl[i].2.dst Rs[i].r,st.hp⟩) c1 (qaL hsem rfl) (w1:=w) (g1:=g) qjH (.refl _ _) hs ?_;rintro st1 a' w' g' rfl hs' hu' hD';refine ih _ a' w' g' _ (by simpa using hl) (fun k hk hk1 j hjm=>?_) ?_ (hD'.trans hD) ?_ hs' (hu.trans hu')
   . by_cases e : j = i
     . subst e;exact hy
     rw [hj j e];by_cases e':k=i
     . subst e';exact hr j hjm
     rw [hj k e'] at hk1;exact hX k hk hk1 j hjm
   . have:=XE hx hy hj ops.size hlt;omega
   rw [hnx,<-hF,Qg,hrec.1]
theorem qhp {gs:List Grp} {un:List (Nat × Nat)} {ks:List Nat} {st:St} {Q:Exit->St->Prop} (h:qbA P gs st fun st'=>Q .normal (st'.keep ks)):AWS P (.drw gs un ks) st Q:=by
 intro N c a w g R ro n hf hr hs hl;cases c <;> first | exact hf.elim | skip
 rename_i id ops d;obtain ⟨rfl,hm,cl,pre,hc,hd,rfl⟩:=hf;obtain ⟨Rs,st',hrun,hK⟩:=qgd (Ye h);have f:RFix P N ops cl pre un st Rs st':=⟨hc,hd,hrun⟩;obtain ⟨l1,l2⟩:=f.lens;refine wpIn_region_any hm ?_;obtain ⟨hokd,hud⟩:=hs.2.2.drew
 have e1:frX Rs (lst (Array.replicate ops.size false)) st=get st.fr:=by
  have:frX Rs (lst (Array.replicate ops.size false)) st=qm (Rs.map Rec.F) (fun _=>false) (get st.fr):=by funext t;exact qe rfl fun k hk _=>zz _ k (by simp at hk;omega)
  rw [this,qx (fun _=>rfl)]
 refine f.all (g0:=g) (w0:=w) (a0:=a) (fun a' w' g' hs' hu' hD'=>hl _ _ a' w' g' hK (hs'.keep ks) hu' (.nil hD')) ops.size _ a w.drew g st.fr (by simp) (fun k hk hk1=>?_) ?_ rfl e1.symm ⟨hs.1,hs.2.1.mono hud.tr,hokd⟩ hud
 . rw [zz _ k hk] at hk1;cases hk1
 have : ∀ m,unl (lst (Array.replicate ops.size false)) m <= m := fun m => by
  induction m with
  | zero=>exact Nat.le_refl _
  | succ m ih=>simp only [unl];split <;> omega
 exact this _
end
def Y6 (P:Program) (os:List AOp) (d:Option Nat) (fr:List (Nat × AV)) (hp:List HObj) (K:St->Prop) (r:AV) (ws:List (Nat × HObj)):Prop:=ws=[]/\XK P os ⟨qH fr d r,hp⟩ K
section
variable {P:Program} {os:List AOp} {fr:List (Nat × AV)} {hp:List HObj} {K:St->Prop}
theorem qai {o:AOp} (he:∀ r,qdX P o (evF (get fr)) hp r=o.sem P (evF (get fr)) (hpf hp) hp.length r []):XK P (o::os) ⟨fr,hp⟩ K=o.wp P (get fr) hp (Y6 P os o.dst fr hp K):=by simp only [XK,AOp.wp,Y6,he];exact propext ⟨fun ⟨r,h1,h2⟩=>⟨r,[],h1,rfl,h2⟩,fun ⟨r,ws,h1,h2,h3⟩=>⟨r,by rw [<-h2];exact h1,h3⟩⟩
theorem qEJ {a0 a1}:XK P (.mv a0 a1::os) ⟨fr,hp⟩ K=(AOp.mv a0 a1).wp P (get fr) hp (Y6 P os (some a0) fr hp K):=qai fun _=>rfl
theorem qBM {a0 a1 a2 a3}:XK P (.bin a0 a1 a2 a3::os) ⟨fr,hp⟩ K=(AOp.bin a0 a1 a2 a3).wp P (get fr) hp (Y6 P os (some a0) fr hp K):=qai fun _=>rfl
theorem qEI {a0 a1 a2 a3}:XK P (.ld a0 a1 a2 a3::os) ⟨fr,hp⟩ K=(AOp.ld a0 a1 a2 a3).wp P (get fr) hp (Y6 P os (some a0) fr hp K):=qai fun _=>rfl
theorem qEG {a0 a1 a2}:XK P (.fa a0 a1 a2::os) ⟨fr,hp⟩ K=(AOp.fa a0 a1 a2).wp P (get fr) hp (Y6 P os (some a0) fr hp K):=qai fun _=>rfl
theorem qEH {a0 a1 a2 a3}:XK P (.ia a0 a1 a2 a3::os) ⟨fr,hp⟩ K=(AOp.ia a0 a1 a2 a3).wp P (get fr) hp (Y6 P os (some a0) fr hp K):=qai fun _=>rfl
theorem qBO {a0 a1 a2 a3 a4}:XK P (.iaa a0 a1 a2 a3 a4::os) ⟨fr,hp⟩ K=(AOp.iaa a0 a1 a2 a3 a4).wp P (get fr) hp (Y6 P os (some a0) fr hp K):=qai fun _=>rfl
theorem qrY {a0 a1}:XK P (.nilc a0 a1::os) ⟨fr,hp⟩ K=(AOp.nilc a0 a1).wp P (get fr) hp (Y6 P os (some a0) fr hp K):=qai fun _=>rfl
theorem qBP {a0 a1}:XK P (.len a0 a1::os) ⟨fr,hp⟩ K=(AOp.len a0 a1).wp P (get fr) hp (Y6 P os (some a0) fr hp K):=qai fun _=>rfl
theorem qrW {d:Option Nat} {r ws}:Y6 P os d fr hp K r ws=(ws=[]/\XK P os ⟨qH fr d r,hp⟩ K):=rfl
theorem qBQ:XK P [] ⟨fr,hp⟩ K=K ⟨fr,hp⟩:=rfl
theorem qrV {d f args} (r:AV) (h:∀ KK:AV->List HObj->Prop,KK r hp->qw P f (args.map (evF (get fr))) hp KK) (k:XK P os ⟨(d,r)::fr,hp⟩ K):XK P (.call d f args::os) ⟨fr,hp⟩ K :=
 ⟨r,h _ ⟨rfl,rfl⟩,k⟩
theorem qBN {os:List AOp} {gs:List Grp} {st:St}:qbA P (⟨none,os⟩::gs) st K=XK P os st fun st=>qbA P gs st K:=rfl
theorem qrX {st:St}:qbA P [] st K=K st:=rfl
end
attribute [simp] qEJ qBM qEI qEG qEH qBO qrY qBP qrW qBQ qBN qrX
end Go.AM
